/- Proved: of each Go function here that a call comes to what the Lean function of its name tells. Written by a program of this session over the translation. No conditions beyond each theorem's own. -/
import Derived.Test.YthplaakckfhaaaaXTu0
import Derived.Test.YthplaakckfhaaaaXTu11
import Derived.Test.YthplaakckfhaaaaXTu13
namespace Go.Proofs.Ythplaakckfhaaaa.XTu
open Go.RowKit Go.Proofs.Ythplaakckfhaaaa.Aid Go.Proofs.YthplaakckfhaaaaW.PrintWords Go.Proofs.YthplaakckfhaaaaW.PrintLast Go.Proofs.YthplaakckfhaaaaW.PrintMore
set_option linter.unusedVariables false
set_option linter.unusedSimpArgs false

/-! ### spec_l6Turn: function 81 -/
def spec_l6Turn.l0 : Nat → List (S45) → Int → Int → Int → Option (List (S45))
  | 0, _, _, _, _ => none
  | k + 1, x0, a1, a2, x5 => if x5 < (x0.length : Int) then (if 0 ≤ x5 then (if (rd_T45 x0 x5).f1 = a1 then (if (rd_T45 x0 x5).f2 = a2 then (if (rd_T45 x0 x5).f0 = 1 then (spec_l6Turn.l0 k (x0.set (x5 : Int).toNat (⟨3, (rd_T45 x0 x5).f1, (rd_T45 x0 x5).f2, (rd_T45 x0 x5).f3⟩ : S45)) a1 a2 (wrap64 (x5 + 1))) else (spec_l6Turn.l0 k x0 a1 a2 (wrap64 (x5 + 1)))) else (spec_l6Turn.l0 k x0 a1 a2 (wrap64 (x5 + 1)))) else (spec_l6Turn.l0 k x0 a1 a2 (wrap64 (x5 + 1)))) else (none)) else (some x0)
def spec_l6Turn.f (k : Nat) (l2 : List (S45)) (a1 a2 : Int) : Option (List (S45)) := spec_l6Turn.l0 k l2 a1 a2 0
set_option maxHeartbeats 8000000 in
set_option maxRecDepth 100000 in
theorem spec_l6Turn.calls (k : Nat) (P0_ : Nat → Prop) (gb : Nat) (b : Bool) (v1 v3 : Value) (A2 : Option Addr) (c2 : Nat) (l2 : List (S45)) (a1 a2 : Int) (r2 : List (S45)) (w0 w : World) (hB : Below w0.heap.size w0 w) (hx : w.heap[gb]? = some (.cells #[.bool b, v1, .slice A2 l2.length c2, v3] 32 (0, 0))) (hP : ¬ P0_ gb) (ho : Kd.S k45 45 w w0.heap.size P0_ (.slice A2 l2.length c2) l2) (h : spec_l6Turn.f k l2 a1 a2 = some r2) :
    Calls Try.prog 81 #[.pointer (some ⟨gb, 0, none⟩), .int .i64 a1, .int .i64 a2] w fun e w' => e = .returned (.tuple #[]) ∧ r2.length = l2.length ∧ Kd.S k45 45 w' w0.heap.size P0_ (.slice A2 l2.length c2) r2 ∧ Below w0.heap.size w0 w' ∧ Kept w w' P0_ := by
 have hu := Try.underlying32
 have hu2 := Try.underlying45
 have HO := Aside0.mk ho
 have HK := Aside0.mk (Kept.refl w P0_)
 have HB := Aside0.mk hB
 have HX := Aside0.mk hx
 clear hB ho hx
 have H : (spec_l6Turn.l0 k l2 a1 a2 0) = some r2 := h
 clear h
 have H' := Aside0.mk H
 clear H
 have hcy_0 : w.cell? ⟨gb,0,none⟩ = some (.bool b) := (blk_cell HX.out 0).trans rfl
 have hcy_1 : w.cell? ⟨gb,1,none⟩ = some (v1) := (blk_cell HX.out 1).trans rfl
 have hcy_2 : w.cell? ⟨gb,2,none⟩ = some (.slice A2 l2.length c2) := (blk_cell HX.out 2).trans rfl
 have hcy_3 : w.cell? ⟨gb,3,none⟩ = some (v3) := (blk_cell HX.out 3).trans rfl
 go_enter Try.func81,Try.ntmps81
 go_wp2
 go_loopg [6] k (fun kq v5 w' => ∃ (x0_1 : List (S45)) (x5_1 : Int),v5 = .int .i64 x5_1 ∧ Aside0 (spec_l6Turn.l0 kq x0_1 a1 a2 x5_1 = some r2) ∧ Aside0 (kq ≤ k) ∧ Aside0 (x0_1.length = l2.length) ∧ Aside0 (Kd.S k45 45 w' w0.heap.size P0_ (.slice A2 l2.length c2) x0_1) ∧ Aside0 (Kept w w' P0_) ∧ Aside0 (Below w0.heap.size w0 w'))
 case atStart => exact ⟨l2,0,(by first|rfl|(simp;done)),H',⟨Nat.le_refl _⟩,⟨rfl⟩,⟨HO.out⟩,⟨HK.out⟩,⟨HB.out⟩⟩
 case round =>
  clear H' HO HK HB
  clear hcy_0 hcy_1 hcy_2 hcy_3
  obtain ⟨x0_1,x5_1,rfl,HA,HK1,HL2,HO_0,HK,HB⟩ := hrel
  cases gk with
    | zero => exact absurd HA.out (by simp [spec_l6Turn.l0])
    | succ k1 =>
   have H := HA.out
   clear HA
   simp only [spec_l6Turn.l0] at H
   have BX := (HK.out.2 gb (blk_lt HX.out) hP).trans HX.out
   by_cases c3 : x5_1 < (l2.length : Int)
   ·rw [HL2.out,if_pos c3] at H
    have c3b0 : decide (x5_1 < (l2.length : Int)) = true := decide_eq_true c3
    by_cases c4 : 0 ≤ x5_1
    ·rw [if_pos c4] at H
     have c4b0 : decide (0 ≤ x5_1) = true := decide_eq_true c4
     obtain ⟨go5,co5,eo5,gb5,gl5,cl5,HG5⟩ := Kd.S_form HO_0.out (by have := HL2.out;omega)
     obtain rfl : A2 = some ⟨go5,0,none⟩ := (by injection eo5)
     have GB := Aside0.mk gb5
     have HM : Aside0 (P0_ go5) := ⟨(Kd.S_R HO_0.out).1 _ rfl⟩
     clear gb5 gl5 HG5 eo5
     obtain ⟨oki,ce,hcl,hM,hcc,hfr,hoki,hH⟩ := Kd.S_elem HO_0.out z45 (x5_1 : Int) c4 c3
     obtain ⟨v0,rfl,hv⟩ := k45_openM hM
     obtain ⟨A1,c1,e1⟩ := Kd.R_slice hv
     subst e1
     have hx19_0 : wr.cell? ⟨go5,(x5_1 : Int).toNat * 4,none⟩ = some (.int .i64 (rd_T45 x0_1 x5_1).f0) := by (have h_ := hcc 0 _ rfl;exact h_)
     have hx19_1 : wr.cell? ⟨go5,(x5_1 : Int).toNat * 4 + 1,none⟩ = some (.int .i64 (rd_T45 x0_1 x5_1).f1) := by (have h_ := hcc 1 _ rfl;exact h_)
     have hx19_2 : wr.cell? ⟨go5,(x5_1 : Int).toNat * 4 + 2,none⟩ = some (.int .i64 (rd_T45 x0_1 x5_1).f2) := by (have h_ := hcc 2 _ rfl;exact h_)
     have hx19_3 : wr.cell? ⟨go5,(x5_1 : Int).toNat * 4 + 3,none⟩ = some (.slice A1 (rd_T45 x0_1 x5_1).f3.length c1) := by (have h_ := hcc 3 _ rfl;exact h_)
     have hf19_0 : wr.frozen? ⟨go5,(x5_1 : Int).toNat * 4,none⟩ = false := by (have h_ := hfr 0;exact h_)
     have hcz_0 : wr.cell? ⟨gb,0,none⟩ = some (.bool b) := (blk_cell BX 0).trans rfl
     have hcz_1 : wr.cell? ⟨gb,1,none⟩ = some (v1) := (blk_cell BX 1).trans rfl
     have hcz_2 : wr.cell? ⟨gb,2,none⟩ = some (.slice (some ⟨go5,0,none⟩) l2.length c2) := (blk_cell BX 2).trans rfl
     have hcz_3 : wr.cell? ⟨gb,3,none⟩ = some (v3) := (blk_cell BX 3).trans rfl
     have P5 := Aside0.mk c4
     have Q5 : Aside0 ((x5_1 : Int) < (l2.length : Int)) := ⟨c3⟩
     have HV : Aside0 (Kd.R k127 127 wr w0.heap.size oki (.slice A1 (rd_T45 x0_1 x5_1).f3.length c1) ((rd_T45 x0_1 x5_1).f3)) := ⟨hv⟩
     have HH : Aside0 (Kd.H k45 45 wr w0.heap.size P0_ (.slice (some ⟨go5,0,none⟩) l2.length c2) x0_1 (x5_1 : Int) oki [.int .i64 (rd_T45 x0_1 x5_1).f0,.int .i64 (rd_T45 x0_1 x5_1).f1,.int .i64 (rd_T45 x0_1 x5_1).f2,.slice A1 (rd_T45 x0_1 x5_1).f3.length c1]) := ⟨hH⟩
     have HI := Aside0.mk hoki
     clear hcl hcc hfr hoki hH hv hM BX
     have p5 : (0 ≤ (x5_1 : Int)) = True := eq_true c4
     have q5 : ((x5_1 : Int) < (l2.length : Int)) = True := eq_true c3
     clear c3 c4
     by_cases c21 : (rd_T45 x0_1 x5_1).f1 = a1
     ·rw [if_pos c21] at H
      have c21b0 : ((rd_T45 x0_1 x5_1).f1 == a1) = true := beq_iff_eq.mpr c21
      clear c21
      by_cases c22 : (rd_T45 x0_1 x5_1).f2 = a2
      ·rw [if_pos c22] at H
       have c22b0 : ((rd_T45 x0_1 x5_1).f2 == a2) = true := beq_iff_eq.mpr c22
       clear c22
       by_cases c20 : (rd_T45 x0_1 x5_1).f0 = 1
       ·rw [if_pos c20] at H
        have c20b0 : ((rd_T45 x0_1 x5_1).f0 == 1) = true := beq_iff_eq.mpr c20
        clear c20
        obtain ⟨hH2,hg⟩ := Kd.H_seg (j := 0) (seg := [.int .i64 3]) HH.out P5.out Q5.out (show 0 + 1 ≤ 4 from by decide) (by intro q_ hq_;rw [List.mem_singleton.1 hq_];rfl)
        have hR2 := Kd.R_grown HV.out hg (fun k_ hk_ he_ => (HI.out k_ hk_).2 (by injection he_))
        have n0_ : Aside0 (Kd.S k45 45 (wr.setCell ⟨go5,(x5_1 : Int).toNat * 4,none⟩ (.int .i64 3)) w0.heap.size P0_ (.slice (some ⟨go5,0,none⟩) l2.length c2) (x0_1.set (x5_1 : Int).toNat (⟨3,(rd_T45 x0_1 x5_1).f1,(rd_T45 x0_1 x5_1).f2,(rd_T45 x0_1 x5_1).f3⟩ : S45))) := ⟨Kd.H_back hH2 (k45_mkM _ _ _ (⟨3,(rd_T45 x0_1 x5_1).f1,(rd_T45 x0_1 x5_1).f2,(rd_T45 x0_1 x5_1).f3⟩ : S45) hR2) (fun _ h_ => h_)⟩
        have n1_ : Aside0 (Below w0.heap.size w0 (wr.setCell ⟨go5,(x5_1 : Int).toNat * 4,none⟩ (.int .i64 3))) := ⟨below_set HB.out GB.out⟩
        have n2_ : Aside0 (Kept w (wr.setCell ⟨go5,(x5_1 : Int).toNat * 4,none⟩ (.int .i64 3)) P0_) := ⟨Kept.of_grown (S := (fun k_ => P0_ k_)) hg HK.out (fun k_ e_ => (by injection e_ with e2_;subst e2_;exact (.inl HM.out)))⟩
        have HL3 : Aside0 ((x0_1.set (x5_1 : Int).toNat (⟨3,(rd_T45 x0_1 x5_1).f1,(rd_T45 x0_1 x5_1).f2,(rd_T45 x0_1 x5_1).f3⟩ : S45)).length = l2.length) := ⟨by rw [List.length_set];exact HL2.out⟩
        clear hH2 hg hR2 HH HV
        have H' := Aside0.mk H
        clear H
        go_wp2
        go_roundg k1
        case measure => have := HK1.out;omega
        case rel => exact ⟨_,(wrap64 (x5_1 + 1)),(by first|rfl|(simp;done)),H',⟨by have := HK1.out;omega⟩,⟨HL3.out⟩,⟨n0_.out⟩,⟨n2_.out⟩,⟨n1_.out⟩⟩
       ·rw [if_neg c20] at H
        have c20b0 : ((rd_T45 x0_1 x5_1).f0 == 1) = false := beq_eq_false_iff_ne.mpr c20
        clear c20
        have H' := Aside0.mk H
        clear H
        go_wp2
        go_roundg k1
        case measure => have := HK1.out;omega
        case rel => exact ⟨_,(wrap64 (x5_1 + 1)),(by first|rfl|(simp;done)),H',⟨by have := HK1.out;omega⟩,⟨HL2.out⟩,⟨HO_0.out⟩,⟨HK.out⟩,⟨HB.out⟩⟩
      ·rw [if_neg c22] at H
       have c22b0 : ((rd_T45 x0_1 x5_1).f2 == a2) = false := beq_eq_false_iff_ne.mpr c22
       clear c22
       have H' := Aside0.mk H
       clear H
       go_wp2
       go_roundg k1
       case measure => have := HK1.out;omega
       case rel => exact ⟨_,(wrap64 (x5_1 + 1)),(by first|rfl|(simp;done)),H',⟨by have := HK1.out;omega⟩,⟨HL2.out⟩,⟨HO_0.out⟩,⟨HK.out⟩,⟨HB.out⟩⟩
     ·rw [if_neg c21] at H
      have c21b0 : ((rd_T45 x0_1 x5_1).f1 == a1) = false := beq_eq_false_iff_ne.mpr c21
      clear c21
      have H' := Aside0.mk H
      clear H
      go_wp2
      go_roundg k1
      case measure => have := HK1.out;omega
      case rel => exact ⟨_,(wrap64 (x5_1 + 1)),(by first|rfl|(simp;done)),H',⟨by have := HK1.out;omega⟩,⟨HL2.out⟩,⟨HO_0.out⟩,⟨HK.out⟩,⟨HB.out⟩⟩
    ·rw [if_neg c4] at H
     exact absurd H (by simp)
   ·rw [HL2.out,if_neg c3] at H
    have c3b0 : decide (x5_1 < (l2.length : Int)) = false := decide_eq_false c3
    clear c3
    obtain rfl := Option.some.inj H
    have hcz_0 : wr.cell? ⟨gb,0,none⟩ = some (.bool b) := (blk_cell BX 0).trans rfl
    have hcz_1 : wr.cell? ⟨gb,1,none⟩ = some (v1) := (blk_cell BX 1).trans rfl
    have hcz_2 : wr.cell? ⟨gb,2,none⟩ = some (.slice A2 l2.length c2) := (blk_cell BX 2).trans rfl
    have hcz_3 : wr.cell? ⟨gb,3,none⟩ = some (v3) := (blk_cell BX 3).trans rfl
    clear BX
    go_wp2
    go_end0
    exact ⟨rfl,HL2.out,HO_0.out,HB.out,HK.out⟩

/-! ### spec_Turn: function 31 -/
theorem hold_31 {p : Prop} (h : Aside0 p) : p := h.out
theorem ty_31 {w : World} {k : Nat} {a b : List Nat} (h1 : ∃ q, q ∈ a ∧ ∃ cs, w.heap[k]? = some (.cells cs q (0, 0))) (h2 : ∃ q, q ∈ b ∧ ∃ cs, w.heap[k]? = some (.cells cs q (0, 0))) (hd : ∀ q, q ∈ a → ¬ q ∈ b) : False := by
 obtain ⟨q,hq,cs,h1⟩ := h1
 obtain ⟨q2,hq2,cs2,h2⟩ := h2
 rw [h1] at h2
 injection h2 with h2
 injection h2 with _ h2
 exact hd q hq (h2 ▸ hq2)
def spec_Turn.f (k : Nat) (a0_0 : Bool) (l0_1 : List (S79)) (l0_2 : List (S45)) (l0_3 : List Int) (a1 a2 : Int) : Option (Bool × (List (S79)) × (List (S45)) × List Int) := (spec_MachineOk.f k a0_0 l0_1 l0_2 l0_3).bind fun t => if t = true then ((spec_l6Copy.f k a0_0 l0_1 l0_2 l0_3).bind fun c => (spec_l6Turn.f k c.2.2.1 a1 a2).bind fun q => some (c.1, c.2.1, q, c.2.2.2)) else some (false, [], [], [])
set_option maxHeartbeats 8000000 in
set_option maxRecDepth 100000 in
theorem spec_Turn.calls (k : Nat) (a0_0 : Bool) (A0_1 : Option Addr) (c0_1 : Nat) (l0_1 : List (S79)) (A0_2 : Option Addr) (c0_2 : Nat) (l0_2 : List (S45)) (A0_3 : Option Addr) (c0_3 : Nat) (l0_3 : List Int) (a1 a2 : Int) (r1 : Bool) (r2 : List (S79)) (r3 : List (S45)) (r4 : List Int) (w : World) (hr0_1 : Kd.C k79 w A0_1 l0_1.length l0_1) (hc0_1 : l0_1.length ≤ c0_1) (hr0_2 : Kd.C k45 w A0_2 l0_2.length l0_2) (hc0_2 : l0_2.length ≤ c0_2) (hr0_3 : Kd.C (Kd.int .i64) w A0_3 l0_3.length l0_3) (hc0_3 : l0_3.length ≤ c0_3) (h : spec_Turn.f k a0_0 l0_1 l0_2 l0_3 a1 a2 = some (r1, r2, r3, r4)) :
    Calls Try.prog 31 #[.agg #[.bool a0_0, .slice A0_1 l0_1.length c0_1, .slice A0_2 l0_2.length c0_2, .slice A0_3 l0_3.length c0_3], .int .i64 a1, .int .i64 a2] w fun e w' => ∃ v1_ v2_ v3_ : Value, e = .returned (.agg #[.bool r1, v1_, v2_, v3_]) ∧ Kd.S k79 79 w' w.heap.size (fun _ => True) v1_ r2 ∧ Kd.S k45 45 w' w.heap.size (fun _ => True) v2_ r3 ∧ Kd.R (Kd.int .i64) 2 w' w.heap.size (fun _ => True) v3_ r4 ∧ Below w.heap.size w w' := by
 have hu := Try.underlying32
 have HR1 := Aside0.mk hr0_1
 have HC1 := Aside0.mk hc0_1
 clear hr0_1 hc0_1
 have HR2 := Aside0.mk hr0_2
 have HC2 := Aside0.mk hc0_2
 clear hr0_2 hc0_2
 have HR3 := Aside0.mk hr0_3
 have HC3 := Aside0.mk hc0_3
 clear hr0_3 hc0_3
 obtain ⟨t,E0,h1⟩ := Option.bind_eq_some_iff.1 h
 clear h
 have H1 := Aside0.mk h1
 have F0 := Aside0.mk E0
 clear h1 E0
 go_enter Try.func31,Try.ntmps31
 go_wp2_with ((with_reducible refine gate_dst (N := 3) rfl ?_);refine bx_ 3 #[.bool a0_0,.slice A0_1 l0_1.length c0_1,.slice A0_2 l0_2.length c0_2,.slice A0_3 l0_3.length c0_3] 32 ?_;intro ga hg w1 hbox hb;have hge := Aside0.mk (Nat.le_of_eq hg.symm);clear hg;refine hold_31 ?_)
 refine ⟨?_⟩
 have D1 := Aside0.mk hb
 have BM := Aside0.mk hbox
 clear hb hbox hge
 go_wp2_with ((with_reducible refine gate_dst (N := 6) rfl ?_);refine bx_ 6 #[.bool false,.slice none 0 0,.slice none 0 0,.slice none 0 0] 32 ?_;intro gr hg w2 hbox hb;have hge := Aside0.mk (Nat.le_of_eq hg.symm);clear hg;refine hold_31 ?_)
 refine ⟨?_⟩
 have GR : Aside0 (w.heap.size ≤ gr) := ⟨Nat.le_trans D1.out.size hge.out⟩
 have D2 := Aside0.mk (below_step D1.out hb)
 have BM := Aside0.mk (blk_below BM.out hb)
 have BR := Aside0.mk hbox
 clear hb hbox hge
 have hcga2_0 : w2.cell? ⟨ga,0,none⟩ = some (.bool a0_0) := (blk_cell BM.out 0).trans rfl
 have hcga2_1 : w2.cell? ⟨ga,1,none⟩ = some (.slice A0_1 l0_1.length c0_1) := (blk_cell BM.out 1).trans rfl
 have hcga2_2 : w2.cell? ⟨ga,2,none⟩ = some (.slice A0_2 l0_2.length c0_2) := (blk_cell BM.out 2).trans rfl
 have hcga2_3 : w2.cell? ⟨ga,3,none⟩ = some (.slice A0_3 l0_3.length c0_3) := (blk_cell BM.out 3).trans rfl
 go_wp2_with ((with_reducible refine gcal_ (f := 11) rfl ?_);refine goesL_ (some 9) rfl rfl Try.func11 (by kernel_rfl) rfl #[.agg #[.bool a0_0,.slice A0_1 l0_1.length c0_1,.slice A0_2 l0_2.length c0_2,.slice A0_3 l0_3.length c0_3]] rfl (by (try simp only [List.map_toArray,List.map_cons,List.map_nil]);first|done|rfl) ?_;refine (spec_MachineOk.calls k a0_0 A0_1 c0_1 l0_1 A0_2 c0_2 l0_2 A0_3 c0_3 l0_3 t _ (Kd.C_below HR1.out D2.out) HC1.out (Kd.C_below HR2.out D2.out) HC2.out (Kd.C_below HR3.out D2.out) HC3.out F0.out).mono ?_;rintro e w3 ⟨rfl,B⟩;refine ⟨_,rfl,?_⟩;refine hold_31 ?_)
 refine ⟨?_⟩
 have D3 := Aside0.mk (below_step D2.out B)
 have BM := Aside0.mk (blk_below BM.out B)
 have BR := Aside0.mk (blk_below BR.out B)
 clear B
 have hcgr3_0 : w3.cell? ⟨gr,0,none⟩ = some (.bool false) := (blk_cell BR.out 0).trans rfl
 have hcgr3_1 : w3.cell? ⟨gr,1,none⟩ = some (.slice none 0 0) := (blk_cell BR.out 1).trans rfl
 have hcgr3_2 : w3.cell? ⟨gr,2,none⟩ = some (.slice none 0 0) := (blk_cell BR.out 2).trans rfl
 have hcgr3_3 : w3.cell? ⟨gr,3,none⟩ = some (.slice none 0 0) := (blk_cell BR.out 3).trans rfl
 have hfr3_0 := blk_frozen BR.out 0
 have hfr3_1 := blk_frozen BR.out 1
 have hfr3_2 := blk_frozen BR.out 2
 have hfr3_3 := blk_frozen BR.out 3
 cases t with
  | false =>
  have h1 := H1.out
  rw [if_neg (by simp)] at h1
  simp only [Option.some.injEq,Prod.mk.injEq] at h1
  obtain ⟨rfl,rfl,rfl,rfl⟩ := h1
  clear H1
  go_wp2
  refine bodyPost_ret (results_cell_row rfl _ _ gr 32 #[.bool false,.slice none 0 0,.slice none 0 0,.slice none 0 0] (0,0) _ rfl (by refine blk_put (cs := #[.bool false,.slice none 0 0,.slice none 0 0,.slice none 0 0]) ?_ 3 _ rfl;refine blk_put (cs := #[.bool false,.slice none 0 0,.slice none 0 0,.slice none 0 0]) ?_ 2 _ rfl;refine blk_put (cs := #[.bool false,.slice none 0 0,.slice none 0 0,.slice none 0 0]) ?_ 1 _ rfl;refine blk_put (cs := #[.bool false,.slice none 0 0,.slice none 0 0,.slice none 0 0]) ?_ 0 _ rfl;exact BR.out) Try.underlying32 rfl (by kernel_rfl)) rfl ?_
  exact ⟨.slice none 0 0,.slice none 0 0,.slice none 0 0,by first|rfl|(simp;done),Kd.S_nil _ _ _ _ _,Kd.S_nil _ _ _ _ _,Kd.R_nil _ _ _ _ _,below_set (below_set (below_set (below_set D3.out GR.out) GR.out) GR.out) GR.out⟩
  | true =>
 have h1 := H1.out
 rw [if_pos rfl] at h1
 clear H1
 obtain ⟨⟨b,p1,p2,p3⟩,E1,h2⟩ := Option.bind_eq_some_iff.1 h1
 clear h1
 obtain ⟨q2,E2,h3⟩ := Option.bind_eq_some_iff.1 h2
 clear h2
 simp only [Option.some.injEq,Prod.mk.injEq] at h3
 obtain ⟨rfl,rfl,rfl,rfl⟩ := h3
 have F1 := Aside0.mk E1
 have F2 := Aside0.mk E2
 clear E1 E2
 clear hcgr3_0 hfr3_0 hcgr3_1 hfr3_1 hcgr3_2 hfr3_2 hcgr3_3 hfr3_3
 have hcga3_0 : w3.cell? ⟨ga,0,none⟩ = some (.bool a0_0) := (blk_cell BM.out 0).trans rfl
 have hcga3_1 : w3.cell? ⟨ga,1,none⟩ = some (.slice A0_1 l0_1.length c0_1) := (blk_cell BM.out 1).trans rfl
 have hcga3_2 : w3.cell? ⟨ga,2,none⟩ = some (.slice A0_2 l0_2.length c0_2) := (blk_cell BM.out 2).trans rfl
 have hcga3_3 : w3.cell? ⟨ga,3,none⟩ = some (.slice A0_3 l0_3.length c0_3) := (blk_cell BM.out 3).trans rfl
 go_wp2_with ((with_reducible refine gcal_ (f := 73) rfl ?_);refine goesL_ (some 13) rfl rfl Try.func73 (by kernel_rfl) rfl #[.agg #[.bool a0_0,.slice A0_1 l0_1.length c0_1,.slice A0_2 l0_2.length c0_2,.slice A0_3 l0_3.length c0_3]] rfl (by (try simp only [List.map_toArray,List.map_cons,List.map_nil]);first|done|rfl) ?_;refine (spec_l6Copy.calls k a0_0 A0_1 c0_1 l0_1 A0_2 c0_2 l0_2 A0_3 c0_3 l0_3 b p1 p2 p3 _ (Kd.C_below HR1.out D3.out) HC1.out (Kd.C_below HR2.out D3.out) HC2.out (Kd.C_below HR3.out D3.out) HC3.out F1.out).mono ?_;rintro e w4 ⟨v1,v2,v3,rfl,S1,S2,S3,B⟩;refine ⟨_,rfl,?_⟩;refine hold_31 ?_)
 refine ⟨?_⟩
 have T1 := Aside0.mk S1
 have T2 := Aside0.mk S2
 have T3 := Aside0.mk S3
 have G := Aside0.mk B
 have D4 := Aside0.mk (below_step D3.out B)
 have BR := Aside0.mk (blk_below BR.out B)
 clear S1 S2 S3 B BM
 obtain ⟨A1,c1,e1⟩ := Kd.S_slice T1.out
 subst e1
 obtain ⟨A2,c2,e2⟩ := Kd.S_slice T2.out
 subst e2
 obtain ⟨A3,c3,e3⟩ := Kd.R_slice T3.out
 subst e3
 go_wp2_with ((with_reducible refine gate_dst (N := 7) rfl ?_);refine bx_ 7 #[.bool false,.slice none 0 0,.slice none 0 0,.slice none 0 0] 32 ?_;intro go hg w5 hbox hb;have hge := Aside0.mk (Nat.le_of_eq hg.symm);clear hg;refine hold_31 ?_)
 refine ⟨?_⟩
 have BZ := Aside0.mk hbox
 have Q0 := Aside0.mk hb
 have HGE := hge
 clear hbox hb hge
 have hcgoy_0 : w5.cell? ⟨go,0,none⟩ = some (.bool false) := (blk_cell BZ.out 0).trans rfl
 have hcgoy_1 : w5.cell? ⟨go,1,none⟩ = some (.slice none 0 0) := (blk_cell BZ.out 1).trans rfl
 have hcgoy_2 : w5.cell? ⟨go,2,none⟩ = some (.slice none 0 0) := (blk_cell BZ.out 2).trans rfl
 have hcgoy_3 : w5.cell? ⟨go,3,none⟩ = some (.slice none 0 0) := (blk_cell BZ.out 3).trans rfl
 have hfy_0 := blk_frozen BZ.out 0
 have hfy_1 := blk_frozen BZ.out 1
 have hfy_2 := blk_frozen BZ.out 2
 have hfy_3 := blk_frozen BZ.out 3
 go_upto_region 4 with (fail)
 have n0_ : Aside0 (Below w4.heap.size w4 ((((w5.setCell ⟨go,0,none⟩ (.bool b)).setCell ⟨go,1,none⟩ (.slice A1 p1.length c1)).setCell ⟨go,2,none⟩ (.slice A2 p2.length c2)).setCell ⟨go,3,none⟩ (.slice A3 p3.length c3))) := ⟨below_set (below_set (below_set (below_set Q0.out HGE.out) HGE.out) HGE.out) HGE.out⟩
 have n1_ : Aside0 (((((w5.setCell ⟨go,0,none⟩ (.bool b)).setCell ⟨go,1,none⟩ (.slice A1 p1.length c1)).setCell ⟨go,2,none⟩ (.slice A2 p2.length c2)).setCell ⟨go,3,none⟩ (.slice A3 p3.length c3)).heap[go]? = some (.cells #[.bool b,.slice A1 p1.length c1,.slice A2 p2.length c2,.slice A3 p3.length c3] 32 (0,0))) := ⟨by refine blk_put (cs := #[.bool b,.slice A1 p1.length c1,.slice A2 p2.length c2,.slice none 0 0]) ?_ 3 _ rfl;refine blk_put (cs := #[.bool b,.slice A1 p1.length c1,.slice none 0 0,.slice none 0 0]) ?_ 2 _ rfl;refine blk_put (cs := #[.bool b,.slice none 0 0,.slice none 0 0,.slice none 0 0]) ?_ 1 _ rfl;refine blk_put (cs := #[.bool false,.slice none 0 0,.slice none 0 0,.slice none 0 0]) ?_ 0 _ rfl;exact BZ.out⟩
 clear BZ Q0
 clear hcgoy_0 hfy_0 hcgoy_1 hfy_1 hcgoy_2 hfy_2 hcgoy_3 hfy_3
 generalize ((((w5.setCell ⟨go,0,none⟩ (.bool b)).setCell ⟨go,1,none⟩ (.slice A1 p1.length c1)).setCell ⟨go,2,none⟩ (.slice A2 p2.length c2)).setCell ⟨go,3,none⟩ (.slice A3 p3.length c3)) = w6 at n0_ n1_ ⊢
 have B := n0_.out
 have BG := n1_
 clear n0_ n1_
 have T1 := Aside0.mk (Kd.S_bound (Kd.S_below T1.out B))
 have T2 := Aside0.mk (Kd.S_bound (Kd.S_below T2.out B))
 have T3 := Aside0.mk (Kd.R_bound (Kd.R_below T3.out B))
 have G := Aside0.mk (below_step G.out B)
 have D6 := Aside0.mk (below_step D4.out B)
 have BR := Aside0.mk (blk_below BR.out B)
 clear B D4
 go_wp2_with ((with_reducible refine gcal_ (f := 81) rfl ?_);refine goesL_ (some 16) rfl rfl Try.func81 (by kernel_rfl) rfl #[.pointer (some ⟨go,0,none⟩),.int .i64 a1,.int .i64 a2] rfl (by (try simp only [List.map_toArray,List.map_cons,List.map_nil]);first|done|rfl) ?_;refine (spec_l6Turn.calls k (fun k_ => True ∧ w3.heap.size ≤ k_ ∧ k_ < w6.heap.size ∧ ∃ q,q ∈ 45 :: (k45).E ∧ ∃ cells,w6.heap[k_]? = some (.cells cells q (0,0))) go b (.slice A1 p1.length c1) (.slice A3 p3.length c3) A2 c2 p2 a1 a2 q2 w3 _ G.out BG.out (fun hs_ => ty_31 ⟨32,List.mem_singleton.2 rfl,_,BG.out⟩ hs_.2.2.2 (by decide)) T2.out F2.out).mono ?_;rintro e w7 ⟨rfl,L,S,B,K⟩;refine ⟨_,rfl,?_⟩;refine hold_31 ?_)
 refine ⟨?_⟩
 have T1 := Aside0.mk (Kd.S_step T1.out (fun k_ hk_ hlt_ => K.2 k_ hlt_ (fun hs_ => ty_31 hk_.2.2.2 hs_.2.2.2 (by decide))))
 have T3 := Aside0.mk (Kd.R_step T3.out (fun k_ hk_ hlt_ => K.2 k_ hlt_ (fun hs_ => ty_31 hk_.2.2.2 hs_.2.2.2 (by decide))))
 have T2 := Aside0.mk S
 have BG2 := Aside0.mk ((K.2 go (blk_lt BG.out) (fun hs_ => ty_31 ⟨32,List.mem_singleton.2 rfl,_,BG.out⟩ hs_.2.2.2 (by decide))).trans BG.out)
 have BR2 := Aside0.mk ((K.2 gr (blk_lt BR.out) (fun hs_ => ty_31 ⟨32,List.mem_singleton.2 rfl,_,BR.out⟩ hs_.2.2.2 (by decide))).trans BR.out)
 have D7 := Aside0.mk (below_step D3.out B)
 rw [← L] at T2 BG2
 clear S B K L BG BR
 have BR := BR2
 clear BR2
 have hcgo7_0 : w7.cell? ⟨go,0,none⟩ = some (.bool b) := (blk_cell BG2.out 0).trans rfl
 have hcgo7_1 : w7.cell? ⟨go,1,none⟩ = some (.slice A1 p1.length c1) := (blk_cell BG2.out 1).trans rfl
 have hcgo7_2 : w7.cell? ⟨go,2,none⟩ = some (.slice A2 q2.length c2) := (blk_cell BG2.out 2).trans rfl
 have hcgo7_3 : w7.cell? ⟨go,3,none⟩ = some (.slice A3 p3.length c3) := (blk_cell BG2.out 3).trans rfl
 have hcgr7_0 : w7.cell? ⟨gr,0,none⟩ = some (.bool false) := (blk_cell BR.out 0).trans rfl
 have hcgr7_1 : w7.cell? ⟨gr,1,none⟩ = some (.slice none 0 0) := (blk_cell BR.out 1).trans rfl
 have hcgr7_2 : w7.cell? ⟨gr,2,none⟩ = some (.slice none 0 0) := (blk_cell BR.out 2).trans rfl
 have hcgr7_3 : w7.cell? ⟨gr,3,none⟩ = some (.slice none 0 0) := (blk_cell BR.out 3).trans rfl
 have hfr7_0 := blk_frozen BR.out 0
 have hfr7_1 := blk_frozen BR.out 1
 have hfr7_2 := blk_frozen BR.out 2
 have hfr7_3 := blk_frozen BR.out 3
 go_wp2
 refine bodyPost_ret (results_cell_row rfl _ _ gr 32 #[.bool b,.slice A1 p1.length c1,.slice A2 q2.length c2,.slice A3 p3.length c3] (0,0) _ rfl (by refine blk_put (cs := #[.bool b,.slice A1 p1.length c1,.slice A2 q2.length c2,.slice none 0 0]) ?_ 3 _ rfl;refine blk_put (cs := #[.bool b,.slice A1 p1.length c1,.slice none 0 0,.slice none 0 0]) ?_ 2 _ rfl;refine blk_put (cs := #[.bool b,.slice none 0 0,.slice none 0 0,.slice none 0 0]) ?_ 1 _ rfl;refine blk_put (cs := #[.bool false,.slice none 0 0,.slice none 0 0,.slice none 0 0]) ?_ 0 _ rfl;exact BR.out) Try.underlying32 rfl (by kernel_rfl)) rfl ?_
 exact ⟨.slice A1 p1.length c1,.slice A2 q2.length c2,.slice A3 p3.length c3,by first|rfl|(simp;done),Kd.S_mono (Kd.S_far (p := ⟨gr,3,none⟩) (Kd.S_far (p := ⟨gr,2,none⟩) (Kd.S_far (p := ⟨gr,1,none⟩) (Kd.S_far (p := ⟨gr,0,none⟩) (Kd.S_types (Kd.S_lower T1.out D3.out.size) BR.out (by decide)) (fun _ h_ => h_.2) (.bool b)) (fun _ h_ => h_.2) (.slice A1 p1.length c1)) (fun _ h_ => h_.2) (.slice A2 q2.length c2)) (fun _ h_ => h_.2) (.slice A3 p3.length c3)) (fun _ _ => trivial),Kd.S_mono (Kd.S_far (p := ⟨gr,3,none⟩) (Kd.S_far (p := ⟨gr,2,none⟩) (Kd.S_far (p := ⟨gr,1,none⟩) (Kd.S_far (p := ⟨gr,0,none⟩) (Kd.S_types (Kd.S_lower T2.out D3.out.size) BR.out (by decide)) (fun _ h_ => h_.2) (.bool b)) (fun _ h_ => h_.2) (.slice A1 p1.length c1)) (fun _ h_ => h_.2) (.slice A2 q2.length c2)) (fun _ h_ => h_.2) (.slice A3 p3.length c3)) (fun _ _ => trivial),Kd.R_mono (Kd.R_far (p := ⟨gr,3,none⟩) (Kd.R_far (p := ⟨gr,2,none⟩) (Kd.R_far (p := ⟨gr,1,none⟩) (Kd.R_far (p := ⟨gr,0,none⟩) (Kd.R_types (Kd.R_lower T3.out D3.out.size) BR.out (by decide)) (fun _ h_ => h_.2) (.bool b)) (fun _ h_ => h_.2) (.slice A1 p1.length c1)) (fun _ h_ => h_.2) (.slice A2 q2.length c2)) (fun _ h_ => h_.2) (.slice A3 p3.length c3)) (fun _ _ => trivial),below_set (below_set (below_set (below_set D7.out GR.out) GR.out) GR.out) GR.out⟩

/-! ### impl_within: function 116 -/
def impl_within.f (a0 : Int) (a1 : Int) (a2 : Int) : Option (Bool) := if a0 ≥ a1 then (some (decide (a0 ≤ a2))) else (some false)
set_option maxHeartbeats 8000000 in
set_option maxRecDepth 100000 in
theorem impl_within.calls (a0 : Int) (a1 : Int) (a2 : Int) (r : Bool) (w : World) (h : impl_within.f a0 a1 a2 = some r) :
    Calls Try.prog 116 #[.int .i64 a0, .int .i64 a1, .int .i64 a2] w fun e w' => e = .returned (.bool r) ∧ Drawn0 w w' := by
 have H : (if a0 ≥ a1 then (some (decide (a0 ≤ a2))) else (some false)) = some r := h
 clear h
 by_cases c4 : a0 ≥ a1
 ·rw [if_pos c4] at H
  have c4b0 : decide (a1 ≤ a0) = true := decide_eq_true c4
  clear c4
  obtain rfl := Option.some.inj H
  go_enter Try.func116,Try.ntmps116
  go_wp2
  go_ret
  exact ⟨by first|rfl|(simp;done)|(simp [*];done),by repeat (first|exact Drawn0.refl _|apply Drawn0.step)⟩
 ·rw [if_neg c4] at H
  have c4b0 : decide (a1 ≤ a0) = false := decide_eq_false c4
  clear c4
  obtain rfl := Option.some.inj H
  go_enter Try.func116,Try.ntmps116
  go_wp2
  go_ret
  exact ⟨by first|rfl|(simp;done)|(simp [*];done),by repeat (first|exact Drawn0.refl _|apply Drawn0.step)⟩

/-! ### impl_isRegion: function 85 -/
def impl_isRegion.f (a0 : Int) : Option (Bool) := (impl_within.f a0 0 5).bind fun t325 => (some t325)
set_option maxHeartbeats 8000000 in
set_option maxRecDepth 100000 in
theorem impl_isRegion.calls (a0 : Int) (r : Bool) (w : World) (h : impl_isRegion.f a0 = some r) :
    Calls Try.prog 85 #[.int .i64 a0] w fun e w' => e = .returned (.bool r) ∧ Drawn0 w w' := by
 have H : ((impl_within.f a0 0 5).bind fun t325 => (some t325)) = some r := h
 clear h
 replace H := Option.bind_eq_some_iff.mp H
 obtain ⟨t325,A20,H⟩ := H
 replace H : (some t325) = some r := H
 have A2 := Aside0.mk A20
 clear A20
 obtain rfl := Option.some.inj H
 go_enter Try.func85,Try.ntmps85
 go_wp2_with (first|((with_reducible refine gcal_ (f := 116) rfl ?_);refine gl_ (some 4) Try.func116 #[.int .i64 a0,.int .i64 0,.int .i64 5] ?_;(with_reducible refine (impl_within.calls a0 0 5 t325 _ A2.out).mono ?_);rintro e w' ⟨rfl,⟨nd,rfl⟩⟩;refine ⟨_,rfl,?_⟩))
 go_ret
 exact ⟨by first|rfl|(simp;done)|(simp [*];done),by repeat (first|exact Drawn0.refl _|apply Drawn0.step)⟩

/-! ### impl_isHead: function 124 -/
def impl_isHead.f (a0 : Int) : Option (Bool) := (impl_within.f a0 0 4000003).bind fun t326 => (some t326)
set_option maxHeartbeats 8000000 in
set_option maxRecDepth 100000 in
theorem impl_isHead.calls (a0 : Int) (r : Bool) (w : World) (h : impl_isHead.f a0 = some r) :
    Calls Try.prog 124 #[.int .i64 a0] w fun e w' => e = .returned (.bool r) ∧ Drawn0 w w' := by
 have H : ((impl_within.f a0 0 4000003).bind fun t326 => (some t326)) = some r := h
 clear h
 replace H := Option.bind_eq_some_iff.mp H
 obtain ⟨t326,A20,H⟩ := H
 replace H : (some t326) = some r := H
 have A2 := Aside0.mk A20
 clear A20
 obtain rfl := Option.some.inj H
 go_enter Try.func124,Try.ntmps124
 go_wp2_with (first|((with_reducible refine gcal_ (f := 116) rfl ?_);refine gl_ (some 4) Try.func116 #[.int .i64 a0,.int .i64 0,.int .i64 4000003] ?_;(with_reducible refine (impl_within.calls a0 0 4000003 t326 _ A2.out).mono ?_);rintro e w' ⟨rfl,⟨nd,rfl⟩⟩;refine ⟨_,rfl,?_⟩))
 go_ret
 exact ⟨by first|rfl|(simp;done)|(simp [*];done),by repeat (first|exact Drawn0.refl _|apply Drawn0.step)⟩

/-! ### impl_isValue: function 125 -/
def impl_isValue.f (a0 : Int) : Option (Bool) := (impl_within.f a0 (-1000000000) 1000000000).bind fun t327 => (some t327)
set_option maxHeartbeats 8000000 in
set_option maxRecDepth 100000 in
theorem impl_isValue.calls (a0 : Int) (r : Bool) (w : World) (h : impl_isValue.f a0 = some r) :
    Calls Try.prog 125 #[.int .i64 a0] w fun e w' => e = .returned (.bool r) ∧ Drawn0 w w' := by
 have H : ((impl_within.f a0 (-1000000000) 1000000000).bind fun t327 => (some t327)) = some r := h
 clear h
 replace H := Option.bind_eq_some_iff.mp H
 obtain ⟨t327,A20,H⟩ := H
 replace H : (some t327) = some r := H
 have A2 := Aside0.mk A20
 clear A20
 obtain rfl := Option.some.inj H
 go_enter Try.func125,Try.ntmps125
 go_wp2_with (first|((with_reducible refine gcal_ (f := 116) rfl ?_);refine gl_ (some 4) Try.func116 #[.int .i64 a0,.int .i64 (-1000000000),.int .i64 1000000000] ?_;(with_reducible refine (impl_within.calls a0 (-1000000000) 1000000000 t327 _ A2.out).mono ?_);rintro e w' ⟨rfl,⟨nd,rfl⟩⟩;refine ⟨_,rfl,?_⟩))
 go_ret
 exact ⟨by first|rfl|(simp;done)|(simp [*];done),by repeat (first|exact Drawn0.refl _|apply Drawn0.step)⟩

/-! ### impl_areCells_1: function 123 -/
def impl_areCells_1.f (a0_0 : Int) (a0_1 : Int) : Option (Bool) := (impl_isHead.f a0_0).bind fun t329 => (if t329 = true then ((impl_isValue.f a0_1).bind fun t330 => (if t330 = true then (if (Go.bits .and .i64 a0_0 2) = 0 then (some (a0_1 != 0)) else (some false)) else (some true))) else (some true))
set_option maxHeartbeats 8000000 in
set_option maxRecDepth 100000 in
theorem impl_areCells_1.calls (a0_0 : Int) (a0_1 : Int) (r : Bool) (w : World) (h : impl_areCells_1.f a0_0 a0_1 = some r) :
    Calls Try.prog 123 #[.agg #[.int .i64 a0_0, .int .i64 a0_1]] w fun e w' => e = .returned (.bool r) ∧ Below w.heap.size w w' := by
 have hu92 := Try.underlying92
 have HB := Aside0.mk (Below.refl w.heap.size w)
 have H : ((impl_isHead.f a0_0).bind fun t329 => (if t329 = true then ((impl_isValue.f a0_1).bind fun t330 => (if t330 = true then (if (Go.bits .and .i64 a0_0 2) = 0 then (some (a0_1 != 0)) else (some false)) else (some true))) else (some true))) = some r := h
 clear h
 replace H := Option.bind_eq_some_iff.mp H
 obtain ⟨t329,A20,H⟩ := H
 replace H : (if t329 = true then ((impl_isValue.f a0_1).bind fun t330 => (if t330 = true then (if (Go.bits .and .i64 a0_0 2) = 0 then (some (a0_1 != 0)) else (some false)) else (some true))) else (some true)) = some r := H
 have A2 := Aside0.mk A20
 clear A20
 by_cases c3 : t329 = true
 ·subst c3
  have H1 : ((impl_isValue.f a0_1).bind fun t330 => (if t330 = true then (if (Go.bits .and .i64 a0_0 2) = 0 then (some (a0_1 != 0)) else (some false)) else (some true))) = some r := by rw [if_pos rfl] at H;exact H
  clear H
  have H := H1
  clear H1
  replace H := Option.bind_eq_some_iff.mp H
  obtain ⟨t330,A40,H⟩ := H
  replace H : (if t330 = true then (if (Go.bits .and .i64 a0_0 2) = 0 then (some (a0_1 != 0)) else (some false)) else (some true)) = some r := H
  have A4 := Aside0.mk A40
  clear A40
  by_cases c5 : t330 = true
  ·subst c5
   have H1 : (if (Go.bits .and .i64 a0_0 2) = 0 then (some (a0_1 != 0)) else (some false)) = some r := by rw [if_pos rfl] at H;exact H
   clear H
   have H := H1
   clear H1
   by_cases c6 : (Go.bits .and .i64 a0_0 2) = 0
   ·rw [if_pos c6] at H
    have c6b0 : ((Go.bits .and .i64 a0_0 2) == 0) = true := beq_iff_eq.mpr c6
    have c6b1 : ((Go.bits .and .i64 a0_0 2) != 0) = false := bne_eq_false_iff_eq.mpr c6
    clear c6
    obtain rfl := Option.some.inj H
    go_enter Try.func123,Try.ntmps123
    go_wp2_with (first|((with_reducible refine gate_dst (N := 1) rfl ?_);refine bx_ 1 #[.int .i64 a0_0,.int .i64 a0_1] 92 ?_;intro gb328 hg w7 hbox hb;have BK328 := Aside0.mk (hbox);have GW328 := Aside0.mk ((gw_ (w := w) hg));have GE328 := Aside0.mk ((gw_ (w := w) hg));replace HB := Aside0.mk (below_step b_ hb);clear hb hbox hg;obtain ⟨⟨hcz8_0,hcz8_1⟩,hfz8_0,hfz8_1⟩ := cl2_ BK328.out)|((with_reducible refine gcal_ (f := 124) rfl ?_);refine gl_ (some 5) Try.func124 #[.int .i64 a0_0] ?_;(with_reducible refine (impl_isHead.calls a0_0 true _ A2.out).mono ?_);rintro e w' ⟨rfl,⟨nd,rfl⟩⟩;refine ⟨_,rfl,?_⟩)|(go_at_call 125;(with_reducible refine (impl_isValue.calls a0_1 true _ A4.out).mono ?_);rintro e w' ⟨rfl,⟨nd,rfl⟩⟩))
    go_ret
    exact ⟨by first|rfl|(simp [errW_none,errW_some] <;> rfl)|(simp [*,errW_none,errW_some] <;> rfl),b_⟩
   ·rw [if_neg c6] at H
    have c6b0 : ((Go.bits .and .i64 a0_0 2) == 0) = false := beq_eq_false_iff_ne.mpr c6
    have c6b1 : ((Go.bits .and .i64 a0_0 2) != 0) = true := bne_iff_ne.mpr c6
    obtain rfl := Option.some.inj H
    go_enter Try.func123,Try.ntmps123
    go_wp2_with (first|((with_reducible refine gate_dst (N := 1) rfl ?_);refine bx_ 1 #[.int .i64 a0_0,.int .i64 a0_1] 92 ?_;intro gb328 hg w9 hbox hb;have BK328 := Aside0.mk (hbox);have GW328 := Aside0.mk ((gw_ (w := w) hg));have GE328 := Aside0.mk ((gw_ (w := w) hg));replace HB := Aside0.mk (below_step b_ hb);clear hb hbox hg;obtain ⟨⟨hcz10_0,hcz10_1⟩,hfz10_0,hfz10_1⟩ := cl2_ BK328.out)|((with_reducible refine gcal_ (f := 124) rfl ?_);refine gl_ (some 5) Try.func124 #[.int .i64 a0_0] ?_;(with_reducible refine (impl_isHead.calls a0_0 true _ A2.out).mono ?_);rintro e w' ⟨rfl,⟨nd,rfl⟩⟩;refine ⟨_,rfl,?_⟩)|(go_at_call 125;(with_reducible refine (impl_isValue.calls a0_1 true _ A4.out).mono ?_);rintro e w' ⟨rfl,⟨nd,rfl⟩⟩))
    go_ret
    exact ⟨by first|rfl|(simp [errW_none,errW_some] <;> rfl)|(simp [*,errW_none,errW_some] <;> rfl),b_⟩
  ·replace c5 := Bool.eq_false_iff.mpr c5
   subst c5
   have H1 : (some true) = some r := by rw [if_neg (show ¬ (false = true) by decide)] at H;exact H
   clear H
   have H := H1
   clear H1
   obtain rfl := Option.some.inj H
   go_enter Try.func123,Try.ntmps123
   go_wp2_with (first|((with_reducible refine gate_dst (N := 1) rfl ?_);refine bx_ 1 #[.int .i64 a0_0,.int .i64 a0_1] 92 ?_;intro gb328 hg w11 hbox hb;have BK328 := Aside0.mk (hbox);have GW328 := Aside0.mk ((gw_ (w := w) hg));have GE328 := Aside0.mk ((gw_ (w := w) hg));replace HB := Aside0.mk (below_step b_ hb);clear hb hbox hg;obtain ⟨⟨hcz12_0,hcz12_1⟩,hfz12_0,hfz12_1⟩ := cl2_ BK328.out)|((with_reducible refine gcal_ (f := 124) rfl ?_);refine gl_ (some 5) Try.func124 #[.int .i64 a0_0] ?_;(with_reducible refine (impl_isHead.calls a0_0 true _ A2.out).mono ?_);rintro e w' ⟨rfl,⟨nd,rfl⟩⟩;refine ⟨_,rfl,?_⟩)|(go_at_call 125;(with_reducible refine (impl_isValue.calls a0_1 false _ A4.out).mono ?_);rintro e w' ⟨rfl,⟨nd,rfl⟩⟩))
   go_ret
   exact ⟨by first|rfl|(simp [errW_none,errW_some] <;> rfl)|(simp [*,errW_none,errW_some] <;> rfl),b_⟩
 ·replace c3 := Bool.eq_false_iff.mpr c3
  subst c3
  have H1 : (some true) = some r := by rw [if_neg (show ¬ (false = true) by decide)] at H;exact H
  clear H
  have H := H1
  clear H1
  obtain rfl := Option.some.inj H
  go_enter Try.func123,Try.ntmps123
  go_wp2_with (first|((with_reducible refine gate_dst (N := 1) rfl ?_);refine bx_ 1 #[.int .i64 a0_0,.int .i64 a0_1] 92 ?_;intro gb328 hg w13 hbox hb;have BK328 := Aside0.mk (hbox);have GW328 := Aside0.mk ((gw_ (w := w) hg));have GE328 := Aside0.mk ((gw_ (w := w) hg));replace HB := Aside0.mk (below_step b_ hb);clear hb hbox hg;obtain ⟨⟨hcz14_0,hcz14_1⟩,hfz14_0,hfz14_1⟩ := cl2_ BK328.out)|((with_reducible refine gcal_ (f := 124) rfl ?_);refine gl_ (some 5) Try.func124 #[.int .i64 a0_0] ?_;(with_reducible refine (impl_isHead.calls a0_0 false _ A2.out).mono ?_);rintro e w' ⟨rfl,⟨nd,rfl⟩⟩;refine ⟨_,rfl,?_⟩))
  go_ret
  exact ⟨by first|rfl|(simp [errW_none,errW_some] <;> rfl)|(simp [*,errW_none,errW_some] <;> rfl),b_⟩

/-! ### impl_Cell_143: function 143 -/
set_option maxHeartbeats 8000000 in
set_option maxRecDepth 100000 in
theorem impl_Cell_143.idx (pf : S92 → Option Bool) (g : Nat) (lb : Array Value) (eg : ∀ args w, (callFunc g args).run Try.prog w = .ok (.enter g args) w) (A : Option Addr) (c : Nat) (l : List S92) (w : World)
  (hp : ∀ (x : S92) (b : Bool) (W : World),pf x = some b → Below w.heap.size w W → Calls Try.prog g (#[.agg #[.int .i64 x.f0,.int .i64 x.f1]] ++ lb) W fun e w' => e = .returned (.bool b) ∧ Below w.heap.size w w')
  (hr : Kd.C k92 w A l.length l) (hc : l.length ≤ c) (r : Int) (h : idxFrom pf l 0 = some r) :
    Calls Try.prog 143 #[.slice A l.length c, .func (.func g) #[] lb] w fun e w' => e = .returned (.int .i64 r) ∧ Below w.heap.size w w' := by
 have hu92 := Try.underlying92
 have hlen := hr.2.1
 have HR := Aside0.mk hr
 clear hr
 go_enter Try.func143,Try.ntmps143
 go_wp2
 go_loopg [5,8] l.length (fun gg s5 s8 wr => ∃ kk : Nat,kk ≤ l.length ∧ l.length - kk ≤ gg ∧ s8 = .int .i64 kk ∧ Aside0 (Below w.heap.size w wr) ∧ Aside0 (idxFrom pf (l.drop kk) kk = some r))
 case atStart => exact ⟨0,Nat.zero_le _,by omega,rfl,⟨Below.refl _ w⟩,⟨by simpa using h⟩⟩
 case round =>
  obtain ⟨kk,hkk,hg,rfl,BW,A1⟩ := hrel
  by_cases hlt : kk < l.length
  ·have hltz : (kk : Int) < (l.length : Int) := by omega
   obtain ⟨ad,e0,hx0,hx1⟩ := at_T92 HR.out (kk : Int) (by omega) (by omega)
   cases e0
   replace hx0 := (BW.out.cell (World.block_lt_of_cell? w _ hx0)).trans hx0
   rw [Int.toNat_natCast] at hx0
   replace hx1 := (BW.out.cell (World.block_lt_of_cell? w _ hx1)).trans hx1
   rw [Int.toNat_natCast] at hx1
   have ex : rd_T92 l (kk : Int) = l[kk] := by
    unfold rd_T92
    rw [Int.toNat_natCast,List.getD_eq_getElem?_getD,List.getElem?_eq_getElem hlt];rfl
   have H := A1.out
   rw [List.drop_eq_getElem_cons hlt,← ex] at H
   obtain ⟨b,hb,H2⟩ := Option.bind_eq_some_iff.1 H
   have hcall := hp _ b wr hb BW.out
   have HH := Aside0.mk H2
   have EX := Aside0.mk ex
   clear H H2 ex hb A1 h
   cases b with
   | true =>
    go_wp2_with (go_at_fn g;refine hcall.mono ?_;rintro e w' ⟨rfl,hb'⟩)
    go_ret
    have e1 := HH.out
    simp only [if_true] at e1
    exact ⟨by rw [← Option.some.inj e1];rfl,hb'⟩
   | false =>
    go_wp2_with (go_at_fn g;refine hcall.mono ?_;rintro e w' ⟨rfl,hb'⟩)
    go_roundg (l.length - (kk + 1))
    case measure => omega
    case rel => exact ⟨kk + 1,by omega,by omega,by go_num,⟨hb'⟩,⟨by have e1 := HH.out;simpa using e1⟩⟩
  ·have hltz : ¬ (kk : Int) < (l.length : Int) := by omega
   have : kk = l.length := by omega
   subst this
   go_wp2
   go_ret
   have e1 := A1.out
   rw [List.drop_of_length_le (Nat.le_refl _)] at e1
   have e2 := Option.some.inj e1
   exact ⟨by rw [← e2];rfl,BW.out⟩

/-! ### impl_Cell_122: function 122 -/
def impl_Cell_122.f (l0 : List S92) : Option Bool := (idxFrom (fun x : S92 => impl_areCells_1.f x.f0 x.f1) l0 0).bind fun t => (some (decide (t ≥ 0)))
set_option maxHeartbeats 8000000 in
set_option maxRecDepth 100000 in
theorem impl_Cell_122.calls (A0 : Option Addr) (c0 : Nat) (l0 : List S92) (r : Bool) (w : World) (hr0 : Kd.C k92 w A0 l0.length l0) (hc0 : l0.length ≤ c0) (h : impl_Cell_122.f  l0  = some r) :
    Calls Try.prog 122 #[.slice A0 l0.length c0, .func (.func 123) #[] #[]] w fun e w' => e = .returned (.bool r) ∧ Below w.heap.size w w' := by
 obtain ⟨t,ht,H⟩ := Option.bind_eq_some_iff.1 h
 obtain rfl := Option.some.inj H
 have hi := impl_Cell_143.idx (fun x : S92 => impl_areCells_1.f x.f0 x.f1) 123 #[] (enters_of Try.func123 (by kernel_rfl) rfl) A0 c0 l0 w (fun x b W hb hB => (impl_areCells_1.calls x.f0 x.f1 b W hb).mono fun e w' hh => ⟨hh.1,below_step hB hh.2⟩) hr0 hc0 t ht
 clear hr0 ht H h
 go_enter Try.func122,Try.ntmps122
 go_wp2_with (go_at_call 143;refine hi.mono ?_;rintro e w' ⟨rfl,hb⟩)
 go_ret
 exact ⟨rfl,hb⟩

/-! ### impl_areCells: function 86 -/
def impl_areCells.f (l0 : List (S92)) : Option (Bool) := if (l0.length : Int) = 6 then ((impl_Cell_122.f l0).bind fun t331 => (some (!t331))) else (some false)
set_option maxHeartbeats 8000000 in
set_option maxRecDepth 100000 in
theorem impl_areCells.calls (A0 : Option Addr) (c0 : Nat) (l0 : List (S92)) (r : Bool) (w : World) (hr0 : Kd.C k92 w A0 l0.length l0) (hc0 : l0.length ≤ c0) (h : impl_areCells.f l0 = some r) :
    Calls Try.prog 86 #[.slice A0 l0.length c0] w fun e w' => e = .returned (.bool r) ∧ Below w.heap.size w w' := by
 have HR0 := Aside0.mk hr0
 have HC0 := Aside0.mk hc0
 clear hr0 hc0
 have HB := Aside0.mk (Below.refl w.heap.size w)
 have H : (if (l0.length : Int) = 6 then ((impl_Cell_122.f l0).bind fun t331 => (some (!t331))) else (some false)) = some r := h
 clear h
 by_cases c2 : (l0.length : Int) = 6
 ·rw [if_pos c2] at H
  have c2b0 : ((l0.length : Int) == 6) = true := beq_iff_eq.mpr c2
  have c2b1 : ((l0.length : Int) != 6) = false := bne_eq_false_iff_eq.mpr c2
  clear c2
  replace H := Option.bind_eq_some_iff.mp H
  obtain ⟨t331,A30,H⟩ := H
  replace H : (some (!t331)) = some r := H
  have A3 := Aside0.mk A30
  clear A30
  obtain rfl := Option.some.inj H
  go_enter Try.func86,Try.ntmps86
  go_wp2_with (first|(go_at_call 122;(with_reducible refine (impl_Cell_122.calls _ _ l0  t331 _ ?side1 ?side2 A3.out).mono ?_);(case side1 => repeat (first|exact HR0.out|(with_reducible refine Kd.C_alloc ?_ _)|(with_reducible refine Kd.C_drewN ?_ _)|(with_reducible refine Kd.C_drew ?_)));(case side2 => exact HC0.out);rintro e w4 ⟨rfl,hb⟩;replace HB := Aside0.mk (below_step b_ hb);(try clear hb);(try clear hb2);(try clear hk);(try clear hi)))
  go_ret
  exact ⟨by first|rfl|(simp [errW_none,errW_some] <;> rfl)|(simp [*,errW_none,errW_some] <;> rfl),b_⟩
 ·rw [if_neg c2] at H
  have c2b0 : ((l0.length : Int) == 6) = false := beq_eq_false_iff_ne.mpr c2
  have c2b1 : ((l0.length : Int) != 6) = true := bne_iff_ne.mpr c2
  obtain rfl := Option.some.inj H
  go_enter Try.func86,Try.ntmps86
  go_wp2
  go_ret
  exact ⟨by first|rfl|(simp [errW_none,errW_some] <;> rfl)|(simp [*,errW_none,errW_some] <;> rfl),b_⟩

/-! ### impl_isId: function 92 -/
def impl_isId.f (a0 : Int) : Option (Bool) := (impl_within.f a0 1 1000000).bind fun t332 => (some t332)
set_option maxHeartbeats 8000000 in
set_option maxRecDepth 100000 in
theorem impl_isId.calls (a0 : Int) (r : Bool) (w : World) (h : impl_isId.f a0 = some r) :
    Calls Try.prog 92 #[.int .i64 a0] w fun e w' => e = .returned (.bool r) ∧ Drawn0 w w' := by
 have H : ((impl_within.f a0 1 1000000).bind fun t332 => (some t332)) = some r := h
 clear h
 replace H := Option.bind_eq_some_iff.mp H
 obtain ⟨t332,A20,H⟩ := H
 replace H : (some t332) = some r := H
 have A2 := Aside0.mk A20
 clear A20
 obtain rfl := Option.some.inj H
 go_enter Try.func92,Try.ntmps92
 go_wp2_with (first|((with_reducible refine gcal_ (f := 116) rfl ?_);refine gl_ (some 4) Try.func116 #[.int .i64 a0,.int .i64 1,.int .i64 1000000] ?_;(with_reducible refine (impl_within.calls a0 1 1000000 t332 _ A2.out).mono ?_);rintro e w' ⟨rfl,⟨nd,rfl⟩⟩;refine ⟨_,rfl,?_⟩))
 go_ret
 exact ⟨by first|rfl|(simp;done)|(simp [*];done),by repeat (first|exact Drawn0.refl _|apply Drawn0.step)⟩

/-! ### impl_Set_117: function 117 -/
def impl_Set_117.f (l0 : List (S127)) : Option (Int) := some (l0.length : Int)
set_option maxHeartbeats 8000000 in
set_option maxRecDepth 100000 in
theorem impl_Set_117.calls (A0 : Option Addr) (c0 : Nat) (l0 : List (S127)) (r : Int) (w : World) (hr0 : Kd.C k127 w A0 l0.length l0) (hc0 : l0.length ≤ c0) (h : impl_Set_117.f l0 = some r) :
    Calls Try.prog 117 #[.slice A0 l0.length c0] w fun e w' => e = .returned (.int .i64 r) ∧ Drawn0 w w' := by
 have HR0 := Aside0.mk hr0
 have HC0 := Aside0.mk hc0
 clear hr0 hc0
 have H : (some (l0.length : Int)) = some r := h
 clear h
 obtain rfl := Option.some.inj H
 go_enter Try.func117,Try.ntmps117
 go_wp2
 go_ret
 exact ⟨by first|rfl|(simp;done)|(simp [*];done),by repeat (first|exact Drawn0.refl _|apply Drawn0.step)⟩

/-! ### impl_isSlot: function 156 -/
def impl_isSlot.f (a0 : Int) : Option (Bool) := (impl_within.f a0 0 5).bind fun t333 => (some t333)
set_option maxHeartbeats 8000000 in
set_option maxRecDepth 100000 in
theorem impl_isSlot.calls (a0 : Int) (r : Bool) (w : World) (h : impl_isSlot.f a0 = some r) :
    Calls Try.prog 156 #[.int .i64 a0] w fun e w' => e = .returned (.bool r) ∧ Drawn0 w w' := by
 have H : ((impl_within.f a0 0 5).bind fun t333 => (some t333)) = some r := h
 clear h
 replace H := Option.bind_eq_some_iff.mp H
 obtain ⟨t333,A20,H⟩ := H
 replace H : (some t333) = some r := H
 have A2 := Aside0.mk A20
 clear A20
 obtain rfl := Option.some.inj H
 go_enter Try.func156,Try.ntmps156
 go_wp2_with (first|((with_reducible refine gcal_ (f := 116) rfl ?_);refine gl_ (some 4) Try.func116 #[.int .i64 a0,.int .i64 0,.int .i64 5] ?_;(with_reducible refine (impl_within.calls a0 0 5 t333 _ A2.out).mono ?_);rintro e w' ⟨rfl,⟨nd,rfl⟩⟩;refine ⟨_,rfl,?_⟩))
 go_ret
 exact ⟨by first|rfl|(simp;done)|(simp [*];done),by repeat (first|exact Drawn0.refl _|apply Drawn0.step)⟩

/-! ### impl_isSet: function 141 -/
def impl_isSet.f (a0_0 : Int) (a0_1 : Int) (a0_2 : Int) (a0_3 : Bool) (a0_4 : Int) : Option (Bool) := (impl_isRegion.f a0_0).bind fun t335 => (if t335 = true then ((impl_isSlot.f a0_1).bind fun t336 => (if t336 = true then ((impl_isValue.f a0_2).bind fun t337 => (if t337 = true then ((impl_within.f a0_4 0 999999).bind fun t338 => (some t338)) else (some false))) else (some false))) else (some false))
set_option maxHeartbeats 8000000 in
set_option maxRecDepth 100000 in
theorem impl_isSet.calls (a0_0 : Int) (a0_1 : Int) (a0_2 : Int) (a0_3 : Bool) (a0_4 : Int) (r : Bool) (w : World) (h : impl_isSet.f a0_0 a0_1 a0_2 a0_3 a0_4 = some r) :
    Calls Try.prog 141 #[.agg #[.int .i64 a0_0, .int .i64 a0_1, .int .i64 a0_2, .bool a0_3, .int .i64 a0_4]] w fun e w' => e = .returned (.bool r) ∧ Below w.heap.size w w' := by
 have hu127 := Try.underlying127
 have HB := Aside0.mk (Below.refl w.heap.size w)
 have H : ((impl_isRegion.f a0_0).bind fun t335 => (if t335 = true then ((impl_isSlot.f a0_1).bind fun t336 => (if t336 = true then ((impl_isValue.f a0_2).bind fun t337 => (if t337 = true then ((impl_within.f a0_4 0 999999).bind fun t338 => (some t338)) else (some false))) else (some false))) else (some false))) = some r := h
 clear h
 replace H := Option.bind_eq_some_iff.mp H
 obtain ⟨t335,A20,H⟩ := H
 replace H : (if t335 = true then ((impl_isSlot.f a0_1).bind fun t336 => (if t336 = true then ((impl_isValue.f a0_2).bind fun t337 => (if t337 = true then ((impl_within.f a0_4 0 999999).bind fun t338 => (some t338)) else (some false))) else (some false))) else (some false)) = some r := H
 have A2 := Aside0.mk A20
 clear A20
 by_cases c3 : t335 = true
 ·subst c3
  have H1 : ((impl_isSlot.f a0_1).bind fun t336 => (if t336 = true then ((impl_isValue.f a0_2).bind fun t337 => (if t337 = true then ((impl_within.f a0_4 0 999999).bind fun t338 => (some t338)) else (some false))) else (some false))) = some r := by rw [if_pos rfl] at H;exact H
  clear H
  have H := H1
  clear H1
  replace H := Option.bind_eq_some_iff.mp H
  obtain ⟨t336,A40,H⟩ := H
  replace H : (if t336 = true then ((impl_isValue.f a0_2).bind fun t337 => (if t337 = true then ((impl_within.f a0_4 0 999999).bind fun t338 => (some t338)) else (some false))) else (some false)) = some r := H
  have A4 := Aside0.mk A40
  clear A40
  by_cases c5 : t336 = true
  ·subst c5
   have H1 : ((impl_isValue.f a0_2).bind fun t337 => (if t337 = true then ((impl_within.f a0_4 0 999999).bind fun t338 => (some t338)) else (some false))) = some r := by rw [if_pos rfl] at H;exact H
   clear H
   have H := H1
   clear H1
   replace H := Option.bind_eq_some_iff.mp H
   obtain ⟨t337,A60,H⟩ := H
   replace H : (if t337 = true then ((impl_within.f a0_4 0 999999).bind fun t338 => (some t338)) else (some false)) = some r := H
   have A6 := Aside0.mk A60
   clear A60
   by_cases c7 : t337 = true
   ·subst c7
    have H1 : ((impl_within.f a0_4 0 999999).bind fun t338 => (some t338)) = some r := by rw [if_pos rfl] at H;exact H
    clear H
    have H := H1
    clear H1
    replace H := Option.bind_eq_some_iff.mp H
    obtain ⟨t338,A80,H⟩ := H
    replace H : (some t338) = some r := H
    have A8 := Aside0.mk A80
    clear A80
    obtain rfl := Option.some.inj H
    go_enter Try.func141,Try.ntmps141
    go_wp2_with (first|((with_reducible refine gate_dst (N := 1) rfl ?_);refine bx_ 1 #[.int .i64 a0_0,.int .i64 a0_1,.int .i64 a0_2,.bool a0_3,.int .i64 a0_4] 127 ?_;intro gb334 hg w9 hbox hb;have BK334 := Aside0.mk (hbox);have GW334 := Aside0.mk ((gw_ (w := w) hg));have GE334 := Aside0.mk ((gw_ (w := w) hg));replace HB := Aside0.mk (below_step b_ hb);clear hb hbox hg;obtain ⟨⟨hcz10_0,hcz10_1,hcz10_2,hcz10_3,hcz10_4⟩,hfz10_0,hfz10_1,hfz10_2,hfz10_3,hfz10_4⟩ := cl5_ BK334.out)|((with_reducible refine gcal_ (f := 85) rfl ?_);refine gl_ (some 5) Try.func85 #[.int .i64 a0_0] ?_;(with_reducible refine (impl_isRegion.calls a0_0 true _ A2.out).mono ?_);rintro e w' ⟨rfl,⟨nd,rfl⟩⟩;refine ⟨_,rfl,?_⟩)|(go_at_call 156;(with_reducible refine (impl_isSlot.calls a0_1 true _ A4.out).mono ?_);rintro e w' ⟨rfl,⟨nd,rfl⟩⟩)|(go_at_call 125;(with_reducible refine (impl_isValue.calls a0_2 true _ A6.out).mono ?_);rintro e w' ⟨rfl,⟨nd,rfl⟩⟩)|(go_at_call 116;(with_reducible refine (impl_within.calls a0_4 0 999999 t338 _ A8.out).mono ?_);rintro e w' ⟨rfl,⟨nd,rfl⟩⟩))
    go_ret
    exact ⟨by first|rfl|(simp [errW_none,errW_some] <;> rfl)|(simp [*,errW_none,errW_some] <;> rfl),b_⟩
   ·replace c7 := Bool.eq_false_iff.mpr c7
    subst c7
    have H1 : (some false) = some r := by rw [if_neg (show ¬ (false = true) by decide)] at H;exact H
    clear H
    have H := H1
    clear H1
    obtain rfl := Option.some.inj H
    go_enter Try.func141,Try.ntmps141
    go_wp2_with (first|((with_reducible refine gate_dst (N := 1) rfl ?_);refine bx_ 1 #[.int .i64 a0_0,.int .i64 a0_1,.int .i64 a0_2,.bool a0_3,.int .i64 a0_4] 127 ?_;intro gb334 hg w11 hbox hb;have BK334 := Aside0.mk (hbox);have GW334 := Aside0.mk ((gw_ (w := w) hg));have GE334 := Aside0.mk ((gw_ (w := w) hg));replace HB := Aside0.mk (below_step b_ hb);clear hb hbox hg;obtain ⟨⟨hcz12_0,hcz12_1,hcz12_2,hcz12_3,hcz12_4⟩,hfz12_0,hfz12_1,hfz12_2,hfz12_3,hfz12_4⟩ := cl5_ BK334.out)|((with_reducible refine gcal_ (f := 85) rfl ?_);refine gl_ (some 5) Try.func85 #[.int .i64 a0_0] ?_;(with_reducible refine (impl_isRegion.calls a0_0 true _ A2.out).mono ?_);rintro e w' ⟨rfl,⟨nd,rfl⟩⟩;refine ⟨_,rfl,?_⟩)|(go_at_call 156;(with_reducible refine (impl_isSlot.calls a0_1 true _ A4.out).mono ?_);rintro e w' ⟨rfl,⟨nd,rfl⟩⟩)|(go_at_call 125;(with_reducible refine (impl_isValue.calls a0_2 false _ A6.out).mono ?_);rintro e w' ⟨rfl,⟨nd,rfl⟩⟩))
    go_ret
    exact ⟨by first|rfl|(simp [errW_none,errW_some] <;> rfl)|(simp [*,errW_none,errW_some] <;> rfl),b_⟩
  ·replace c5 := Bool.eq_false_iff.mpr c5
   subst c5
   have H1 : (some false) = some r := by rw [if_neg (show ¬ (false = true) by decide)] at H;exact H
   clear H
   have H := H1
   clear H1
   obtain rfl := Option.some.inj H
   go_enter Try.func141,Try.ntmps141
   go_wp2_with (first|((with_reducible refine gate_dst (N := 1) rfl ?_);refine bx_ 1 #[.int .i64 a0_0,.int .i64 a0_1,.int .i64 a0_2,.bool a0_3,.int .i64 a0_4] 127 ?_;intro gb334 hg w13 hbox hb;have BK334 := Aside0.mk (hbox);have GW334 := Aside0.mk ((gw_ (w := w) hg));have GE334 := Aside0.mk ((gw_ (w := w) hg));replace HB := Aside0.mk (below_step b_ hb);clear hb hbox hg;obtain ⟨⟨hcz14_0,hcz14_1,hcz14_2,hcz14_3,hcz14_4⟩,hfz14_0,hfz14_1,hfz14_2,hfz14_3,hfz14_4⟩ := cl5_ BK334.out)|((with_reducible refine gcal_ (f := 85) rfl ?_);refine gl_ (some 5) Try.func85 #[.int .i64 a0_0] ?_;(with_reducible refine (impl_isRegion.calls a0_0 true _ A2.out).mono ?_);rintro e w' ⟨rfl,⟨nd,rfl⟩⟩;refine ⟨_,rfl,?_⟩)|(go_at_call 156;(with_reducible refine (impl_isSlot.calls a0_1 false _ A4.out).mono ?_);rintro e w' ⟨rfl,⟨nd,rfl⟩⟩))
   go_ret
   exact ⟨by first|rfl|(simp [errW_none,errW_some] <;> rfl)|(simp [*,errW_none,errW_some] <;> rfl),b_⟩
 ·replace c3 := Bool.eq_false_iff.mpr c3
  subst c3
  have H1 : (some false) = some r := by rw [if_neg (show ¬ (false = true) by decide)] at H;exact H
  clear H
  have H := H1
  clear H1
  obtain rfl := Option.some.inj H
  go_enter Try.func141,Try.ntmps141
  go_wp2_with (first|((with_reducible refine gate_dst (N := 1) rfl ?_);refine bx_ 1 #[.int .i64 a0_0,.int .i64 a0_1,.int .i64 a0_2,.bool a0_3,.int .i64 a0_4] 127 ?_;intro gb334 hg w15 hbox hb;have BK334 := Aside0.mk (hbox);have GW334 := Aside0.mk ((gw_ (w := w) hg));have GE334 := Aside0.mk ((gw_ (w := w) hg));replace HB := Aside0.mk (below_step b_ hb);clear hb hbox hg;obtain ⟨⟨hcz16_0,hcz16_1,hcz16_2,hcz16_3,hcz16_4⟩,hfz16_0,hfz16_1,hfz16_2,hfz16_3,hfz16_4⟩ := cl5_ BK334.out)|((with_reducible refine gcal_ (f := 85) rfl ?_);refine gl_ (some 5) Try.func85 #[.int .i64 a0_0] ?_;(with_reducible refine (impl_isRegion.calls a0_0 false _ A2.out).mono ?_);rintro e w' ⟨rfl,⟨nd,rfl⟩⟩;refine ⟨_,rfl,?_⟩))
  go_ret
  exact ⟨by first|rfl|(simp [errW_none,errW_some] <;> rfl)|(simp [*,errW_none,errW_some] <;> rfl),b_⟩

end Go.Proofs.Ythplaakckfhaaaa.XTu
