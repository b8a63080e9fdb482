/- Proved: of each Go function here that a call comes to what the Lean function of its name tells. Written by a program of this session over the translation. No conditions beyond each theorem's own. -/
import Derived.Test.YthplaakckfhaaaaXCd0
import Derived.Test.YthplaakckfhaaaaXCd12
import Derived.Test.YthplaakckfhaaaaXCd14
namespace Go.Proofs.Ythplaakckfhaaaa.XCd
open Go.RowKit Go.Proofs.Ythplaakckfhaaaa.Aid Go.Proofs.YthplaakckfhaaaaW.PrintWords Go.Proofs.YthplaakckfhaaaaW.PrintLast Go.Proofs.YthplaakckfhaaaaW.PrintMore
set_option linter.unusedVariables false
set_option linter.unusedSimpArgs false

/-! ### spec_l6Turn: function 81 -/
def spec_l6Turn.l0 : Nat → List (S45) → Int → Int → Int → Option (List (S45))
  | 0, _, _, _, _ => none
  | k + 1, x0, a1, a2, x5 => if x5 < (x0.length : Int) then (if 0 ≤ x5 then (if (rd_T45 x0 x5).f1 = a1 then (if (rd_T45 x0 x5).f2 = a2 then (if (rd_T45 x0 x5).f0 = 1 then (spec_l6Turn.l0 k (x0.set (x5 : Int).toNat (⟨3, (rd_T45 x0 x5).f1, (rd_T45 x0 x5).f2, (rd_T45 x0 x5).f3⟩ : S45)) a1 a2 (wrap64 (x5 + 1))) else (spec_l6Turn.l0 k x0 a1 a2 (wrap64 (x5 + 1)))) else (spec_l6Turn.l0 k x0 a1 a2 (wrap64 (x5 + 1)))) else (spec_l6Turn.l0 k x0 a1 a2 (wrap64 (x5 + 1)))) else (none)) else (some x0)
def spec_l6Turn.f (k : Nat) (l2 : List (S45)) (a1 a2 : Int) : Option (List (S45)) := spec_l6Turn.l0 k l2 a1 a2 0
set_option maxHeartbeats 8000000 in
set_option maxRecDepth 100000 in
theorem spec_l6Turn.calls (k : Nat) (P0_ : Nat → Prop) (gb : Nat) (b : Bool) (v1 v3 : Value) (A2 : Option Addr) (c2 : Nat) (l2 : List (S45)) (a1 a2 : Int) (r2 : List (S45)) (w0 w : World) (hB : Below w0.heap.size w0 w) (hx : w.heap[gb]? = some (.cells #[.bool b, v1, .slice A2 l2.length c2, v3] 32 (0, 0))) (hP : ¬ P0_ gb) (ho : Kd.S k45 45 w w0.heap.size P0_ (.slice A2 l2.length c2) l2) (h : spec_l6Turn.f k l2 a1 a2 = some r2) :
    Calls Try.prog 81 #[.pointer (some ⟨gb, 0, none⟩), .int .i64 a1, .int .i64 a2] w fun e w' => e = .returned (.tuple #[]) ∧ r2.length = l2.length ∧ Kd.S k45 45 w' w0.heap.size P0_ (.slice A2 l2.length c2) r2 ∧ Below w0.heap.size w0 w' ∧ Kept w w' P0_ := by
 have hu := Try.underlying32
 have hu2 := Try.underlying45
 have HO := ak ho
 have HK := ak (Kept.refl w P0_)
 have HB := ak hB
 have HX := ak hx
 clear hB ho hx
 have H : (spec_l6Turn.l0 k l2 a1 a2 0) = some r2 := h
 clear h
 have H' := ak H
 clear H
 have hcy_0 : w.cell? ⟨gb,0,none⟩ = some (.bool b) := (blk_cell HX.out 0).trans rfl
 have hcy_1 : w.cell? ⟨gb,1,none⟩ = some (v1) := (blk_cell HX.out 1).trans rfl
 have hcy_2 : w.cell? ⟨gb,2,none⟩ = some (.slice A2 l2.length c2) := (blk_cell HX.out 2).trans rfl
 have hcy_3 : w.cell? ⟨gb,3,none⟩ = some (v3) := (blk_cell HX.out 3).trans rfl
 go_enter Try.func81,Try.ntmps81
 go_wp2
 go_loopg [6] k (fun kq v5 w' => ∃ (x0_1 : List (S45)) (x5_1 : Int),v5 = .int .i64 x5_1 ∧ Aside0 (spec_l6Turn.l0 kq x0_1 a1 a2 x5_1 = some r2) ∧ Aside0 (kq ≤ k) ∧ Aside0 (x0_1.length = l2.length) ∧ Aside0 (Kd.S k45 45 w' w0.heap.size P0_ (.slice A2 l2.length c2) x0_1) ∧ Aside0 (Kept w w' P0_) ∧ Aside0 (Below w0.heap.size w0 w'))
 case atStart => exact ⟨l2,0,(by first|rfl|(simp;done)),H',⟨Nat.le_refl _⟩,⟨rfl⟩,⟨HO.out⟩,⟨HK.out⟩,⟨HB.out⟩⟩
 case round =>
  clear H' HO HK HB
  clear hcy_0 hcy_1 hcy_2 hcy_3
  obtain ⟨x0_1,x5_1,rfl,HA,HK1,HL2,HO_0,HK,HB⟩ := hrel
  cases gk with
    | zero => exact absurd HA.out (by simp [spec_l6Turn.l0])
    | succ k1 =>
   have H := HA.out
   clear HA
   simp only [spec_l6Turn.l0] at H
   have BX := (HK.out.2 gb (blk_lt HX.out) hP).trans HX.out
   by_cases c3 : x5_1 < (l2.length : Int)
   ·rw [HL2.out,if_pos c3] at H
    have c3b0 : decide (x5_1 < (l2.length : Int)) = true := decide_eq_true c3
    by_cases c4 : 0 ≤ x5_1
    ·rw [if_pos c4] at H
     have c4b0 : decide (0 ≤ x5_1) = true := decide_eq_true c4
     obtain ⟨go5,co5,eo5,gb5,gl5,cl5,HG5⟩ := Kd.S_form HO_0.out (by have := HL2.out;omega)
     obtain rfl : A2 = some ⟨go5,0,none⟩ := (by injection eo5)
     have GB := ak gb5
     have HM : Aside0 (P0_ go5) := ⟨(Kd.S_R HO_0.out).1 _ rfl⟩
     clear gb5 gl5 HG5 eo5
     obtain ⟨oki,ce,hcl,hM,hcc,hfr,hoki,hH⟩ := Kd.S_elem HO_0.out z45 (x5_1 : Int) c4 c3
     obtain ⟨v0,rfl,hv⟩ := k45_openM hM
     obtain ⟨A1,c1,e1⟩ := Kd.R_slice hv
     subst e1
     have hx19_0 : wr.cell? ⟨go5,(x5_1 : Int).toNat * 4,none⟩ = some (.int .i64 (rd_T45 x0_1 x5_1).f0) := by (have h_ := hcc 0 _ rfl;exact h_)
     have hx19_1 : wr.cell? ⟨go5,(x5_1 : Int).toNat * 4 + 1,none⟩ = some (.int .i64 (rd_T45 x0_1 x5_1).f1) := by (have h_ := hcc 1 _ rfl;exact h_)
     have hx19_2 : wr.cell? ⟨go5,(x5_1 : Int).toNat * 4 + 2,none⟩ = some (.int .i64 (rd_T45 x0_1 x5_1).f2) := by (have h_ := hcc 2 _ rfl;exact h_)
     have hx19_3 : wr.cell? ⟨go5,(x5_1 : Int).toNat * 4 + 3,none⟩ = some (.slice A1 (rd_T45 x0_1 x5_1).f3.length c1) := by (have h_ := hcc 3 _ rfl;exact h_)
     have hf19_0 : wr.frozen? ⟨go5,(x5_1 : Int).toNat * 4,none⟩ = false := by (have h_ := hfr 0;exact h_)
     have hcz_0 : wr.cell? ⟨gb,0,none⟩ = some (.bool b) := (blk_cell BX 0).trans rfl
     have hcz_1 : wr.cell? ⟨gb,1,none⟩ = some (v1) := (blk_cell BX 1).trans rfl
     have hcz_2 : wr.cell? ⟨gb,2,none⟩ = some (.slice (some ⟨go5,0,none⟩) l2.length c2) := (blk_cell BX 2).trans rfl
     have hcz_3 : wr.cell? ⟨gb,3,none⟩ = some (v3) := (blk_cell BX 3).trans rfl
     have P5 := ak c4
     have Q5 : Aside0 ((x5_1 : Int) < (l2.length : Int)) := ⟨c3⟩
     have HV : Aside0 (Kd.R k127 127 wr w0.heap.size oki (.slice A1 (rd_T45 x0_1 x5_1).f3.length c1) ((rd_T45 x0_1 x5_1).f3)) := ⟨hv⟩
     have HH : Aside0 (Kd.H k45 45 wr w0.heap.size P0_ (.slice (some ⟨go5,0,none⟩) l2.length c2) x0_1 (x5_1 : Int) oki [.int .i64 (rd_T45 x0_1 x5_1).f0,.int .i64 (rd_T45 x0_1 x5_1).f1,.int .i64 (rd_T45 x0_1 x5_1).f2,.slice A1 (rd_T45 x0_1 x5_1).f3.length c1]) := ⟨hH⟩
     have HI := ak hoki
     clear hcl hcc hfr hoki hH hv hM BX
     have p5 : (0 ≤ (x5_1 : Int)) = True := eq_true c4
     have q5 : ((x5_1 : Int) < (l2.length : Int)) = True := eq_true c3
     clear c3 c4
     by_cases c21 : (rd_T45 x0_1 x5_1).f1 = a1
     ·rw [if_pos c21] at H
      have c21b0 : ((rd_T45 x0_1 x5_1).f1 == a1) = true := beq_iff_eq.mpr c21
      clear c21
      by_cases c22 : (rd_T45 x0_1 x5_1).f2 = a2
      ·rw [if_pos c22] at H
       have c22b0 : ((rd_T45 x0_1 x5_1).f2 == a2) = true := beq_iff_eq.mpr c22
       clear c22
       by_cases c20 : (rd_T45 x0_1 x5_1).f0 = 1
       ·rw [if_pos c20] at H
        have c20b0 : ((rd_T45 x0_1 x5_1).f0 == 1) = true := beq_iff_eq.mpr c20
        clear c20
        obtain ⟨hH2,hg⟩ := Kd.H_seg (j := 0) (seg := [.int .i64 3]) HH.out P5.out Q5.out (show 0 + 1 ≤ 4 from by decide) (by intro q_ hq_;rw [List.mem_singleton.1 hq_];rfl)
        have hR2 := Kd.R_grown HV.out hg (fun k_ hk_ he_ => (HI.out k_ hk_).2 (by injection he_))
        have n0_ : Aside0 (Kd.S k45 45 (wr.setCell ⟨go5,(x5_1 : Int).toNat * 4,none⟩ (.int .i64 3)) w0.heap.size P0_ (.slice (some ⟨go5,0,none⟩) l2.length c2) (x0_1.set (x5_1 : Int).toNat (⟨3,(rd_T45 x0_1 x5_1).f1,(rd_T45 x0_1 x5_1).f2,(rd_T45 x0_1 x5_1).f3⟩ : S45))) := ⟨Kd.H_back hH2 (k45_mkM _ _ _ (⟨3,(rd_T45 x0_1 x5_1).f1,(rd_T45 x0_1 x5_1).f2,(rd_T45 x0_1 x5_1).f3⟩ : S45) hR2) (fun _ h_ => h_)⟩
        have n1_ : Aside0 (Below w0.heap.size w0 (wr.setCell ⟨go5,(x5_1 : Int).toNat * 4,none⟩ (.int .i64 3))) := ⟨below_set HB.out GB.out⟩
        have n2_ : Aside0 (Kept w (wr.setCell ⟨go5,(x5_1 : Int).toNat * 4,none⟩ (.int .i64 3)) P0_) := ⟨Kept.of_grown (S := (fun k_ => P0_ k_)) hg HK.out (fun k_ e_ => (by injection e_ with e2_;subst e2_;exact (.inl HM.out)))⟩
        have HL3 : Aside0 ((x0_1.set (x5_1 : Int).toNat (⟨3,(rd_T45 x0_1 x5_1).f1,(rd_T45 x0_1 x5_1).f2,(rd_T45 x0_1 x5_1).f3⟩ : S45)).length = l2.length) := ⟨by rw [List.length_set];exact HL2.out⟩
        clear hH2 hg hR2 HH HV
        have H' := ak H
        clear H
        go_wp2
        go_roundg k1
        case measure => have := HK1.out;omega
        case rel => exact ⟨_,(wrap64 (x5_1 + 1)),(by first|rfl|(simp;done)),H',⟨by have := HK1.out;omega⟩,⟨HL3.out⟩,⟨n0_.out⟩,⟨n2_.out⟩,⟨n1_.out⟩⟩
       ·rw [if_neg c20] at H
        have c20b0 : ((rd_T45 x0_1 x5_1).f0 == 1) = false := beq_eq_false_iff_ne.mpr c20
        clear c20
        have H' := ak H
        clear H
        go_wp2
        go_roundg k1
        case measure => have := HK1.out;omega
        case rel => exact ⟨_,(wrap64 (x5_1 + 1)),(by first|rfl|(simp;done)),H',⟨by have := HK1.out;omega⟩,⟨HL2.out⟩,⟨HO_0.out⟩,⟨HK.out⟩,⟨HB.out⟩⟩
      ·rw [if_neg c22] at H
       have c22b0 : ((rd_T45 x0_1 x5_1).f2 == a2) = false := beq_eq_false_iff_ne.mpr c22
       clear c22
       have H' := ak H
       clear H
       go_wp2
       go_roundg k1
       case measure => have := HK1.out;omega
       case rel => exact ⟨_,(wrap64 (x5_1 + 1)),(by first|rfl|(simp;done)),H',⟨by have := HK1.out;omega⟩,⟨HL2.out⟩,⟨HO_0.out⟩,⟨HK.out⟩,⟨HB.out⟩⟩
     ·rw [if_neg c21] at H
      have c21b0 : ((rd_T45 x0_1 x5_1).f1 == a1) = false := beq_eq_false_iff_ne.mpr c21
      clear c21
      have H' := ak H
      clear H
      go_wp2
      go_roundg k1
      case measure => have := HK1.out;omega
      case rel => exact ⟨_,(wrap64 (x5_1 + 1)),(by first|rfl|(simp;done)),H',⟨by have := HK1.out;omega⟩,⟨HL2.out⟩,⟨HO_0.out⟩,⟨HK.out⟩,⟨HB.out⟩⟩
    ·rw [if_neg c4] at H
     exact absurd H (by simp)
   ·rw [HL2.out,if_neg c3] at H
    have c3b0 : decide (x5_1 < (l2.length : Int)) = false := decide_eq_false c3
    clear c3
    obtain rfl := Option.some.inj H
    have hcz_0 : wr.cell? ⟨gb,0,none⟩ = some (.bool b) := (blk_cell BX 0).trans rfl
    have hcz_1 : wr.cell? ⟨gb,1,none⟩ = some (v1) := (blk_cell BX 1).trans rfl
    have hcz_2 : wr.cell? ⟨gb,2,none⟩ = some (.slice A2 l2.length c2) := (blk_cell BX 2).trans rfl
    have hcz_3 : wr.cell? ⟨gb,3,none⟩ = some (v3) := (blk_cell BX 3).trans rfl
    clear BX
    go_wp2
    go_end0
    exact ⟨rfl,HL2.out,HO_0.out,HB.out,HK.out⟩

/-! ### spec_Turn: function 31 -/
theorem hold_31 {p : Prop} (h : Aside0 p) : p := h.out
theorem ty_31 {w : World} {k : Nat} {a b : List Nat} (h1 : ∃ q, q ∈ a ∧ ∃ cs, w.heap[k]? = some (.cells cs q (0, 0))) (h2 : ∃ q, q ∈ b ∧ ∃ cs, w.heap[k]? = some (.cells cs q (0, 0))) (hd : ∀ q, q ∈ a → ¬ q ∈ b) : False := by
 obtain ⟨q,hq,cs,h1⟩ := h1
 obtain ⟨q2,hq2,cs2,h2⟩ := h2
 rw [h1] at h2
 injection h2 with h2
 injection h2 with _ h2
 exact hd q hq (h2 ▸ hq2)
def spec_Turn.f (k : Nat) (a0_0 : Bool) (l0_1 : List (S79)) (l0_2 : List (S45)) (l0_3 : List Int) (a1 a2 : Int) : Option (Bool × (List (S79)) × (List (S45)) × List Int) := (spec_MachineOk.f k a0_0 l0_1 l0_2 l0_3).bind fun t => if t = true then ((spec_l6Copy.f k a0_0 l0_1 l0_2 l0_3).bind fun c => (spec_l6Turn.f k c.2.2.1 a1 a2).bind fun q => some (c.1, c.2.1, q, c.2.2.2)) else some (false, [], [], [])
set_option maxHeartbeats 8000000 in
set_option maxRecDepth 100000 in
theorem spec_Turn.calls (k : Nat) (a0_0 : Bool) (A0_1 : Option Addr) (c0_1 : Nat) (l0_1 : List (S79)) (A0_2 : Option Addr) (c0_2 : Nat) (l0_2 : List (S45)) (A0_3 : Option Addr) (c0_3 : Nat) (l0_3 : List Int) (a1 a2 : Int) (r1 : Bool) (r2 : List (S79)) (r3 : List (S45)) (r4 : List Int) (w : World) (hr0_1 : Kd.C k79 w A0_1 l0_1.length l0_1) (hc0_1 : l0_1.length ≤ c0_1) (hr0_2 : Kd.C k45 w A0_2 l0_2.length l0_2) (hc0_2 : l0_2.length ≤ c0_2) (hr0_3 : Kd.C (Kd.int .i64) w A0_3 l0_3.length l0_3) (hc0_3 : l0_3.length ≤ c0_3) (h : spec_Turn.f k a0_0 l0_1 l0_2 l0_3 a1 a2 = some (r1, r2, r3, r4)) :
    Calls Try.prog 31 #[.agg #[.bool a0_0, .slice A0_1 l0_1.length c0_1, .slice A0_2 l0_2.length c0_2, .slice A0_3 l0_3.length c0_3], .int .i64 a1, .int .i64 a2] w fun e w' => ∃ v1_ v2_ v3_ : Value, e = .returned (.agg #[.bool r1, v1_, v2_, v3_]) ∧ Kd.S k79 79 w' w.heap.size (fun _ => True) v1_ r2 ∧ Kd.S k45 45 w' w.heap.size (fun _ => True) v2_ r3 ∧ Kd.R (Kd.int .i64) 2 w' w.heap.size (fun _ => True) v3_ r4 ∧ Below w.heap.size w w' := by
 have hu := Try.underlying32
 have HR1 := ak hr0_1
 have HC1 := ak hc0_1
 clear hr0_1 hc0_1
 have HR2 := ak hr0_2
 have HC2 := ak hc0_2
 clear hr0_2 hc0_2
 have HR3 := ak hr0_3
 have HC3 := ak hc0_3
 clear hr0_3 hc0_3
 obtain ⟨t,E0,h1⟩ := Option.bind_eq_some_iff.1 h
 clear h
 have H1 := ak h1
 have F0 := ak E0
 clear h1 E0
 go_enter Try.func31,Try.ntmps31
 go_wp2_with ((with_reducible refine gate_dst (N := 3) rfl ?_);refine bx_ 3 #[.bool a0_0,.slice A0_1 l0_1.length c0_1,.slice A0_2 l0_2.length c0_2,.slice A0_3 l0_3.length c0_3] 32 ?_;intro ga hg w1 hbox hb;have hge := ak (Nat.le_of_eq hg.symm);clear hg;refine hold_31 ?_)
 refine ⟨?_⟩
 have D1 := ak hb
 have BM := ak hbox
 clear hb hbox hge
 go_wp2_with ((with_reducible refine gate_dst (N := 6) rfl ?_);refine bx_ 6 #[.bool false,.slice none 0 0,.slice none 0 0,.slice none 0 0] 32 ?_;intro gr hg w2 hbox hb;have hge := ak (Nat.le_of_eq hg.symm);clear hg;refine hold_31 ?_)
 refine ⟨?_⟩
 have GR : Aside0 (w.heap.size ≤ gr) := ⟨Nat.le_trans D1.out.size hge.out⟩
 have D2 := ak (below_step D1.out hb)
 have BM := ak (blk_below BM.out hb)
 have BR := ak hbox
 clear hb hbox hge
 have hcga2_0 : w2.cell? ⟨ga,0,none⟩ = some (.bool a0_0) := (blk_cell BM.out 0).trans rfl
 have hcga2_1 : w2.cell? ⟨ga,1,none⟩ = some (.slice A0_1 l0_1.length c0_1) := (blk_cell BM.out 1).trans rfl
 have hcga2_2 : w2.cell? ⟨ga,2,none⟩ = some (.slice A0_2 l0_2.length c0_2) := (blk_cell BM.out 2).trans rfl
 have hcga2_3 : w2.cell? ⟨ga,3,none⟩ = some (.slice A0_3 l0_3.length c0_3) := (blk_cell BM.out 3).trans rfl
 go_wp2_with ((with_reducible refine gcal_ (f := 11) rfl ?_);refine goesL_ (some 9) rfl rfl Try.func11 (by kernel_rfl) rfl #[.agg #[.bool a0_0,.slice A0_1 l0_1.length c0_1,.slice A0_2 l0_2.length c0_2,.slice A0_3 l0_3.length c0_3]] rfl (by (try simp only [List.map_toArray,List.map_cons,List.map_nil]);first|done|rfl) ?_;refine (spec_MachineOk.calls k a0_0 A0_1 c0_1 l0_1 A0_2 c0_2 l0_2 A0_3 c0_3 l0_3 t _ (Kd.C_below HR1.out D2.out) HC1.out (Kd.C_below HR2.out D2.out) HC2.out (Kd.C_below HR3.out D2.out) HC3.out F0.out).mono ?_;rintro e w3 ⟨rfl,B⟩;refine ⟨_,rfl,?_⟩;refine hold_31 ?_)
 refine ⟨?_⟩
 have D3 := ak (below_step D2.out B)
 have BM := ak (blk_below BM.out B)
 have BR := ak (blk_below BR.out B)
 clear B
 have hcgr3_0 : w3.cell? ⟨gr,0,none⟩ = some (.bool false) := (blk_cell BR.out 0).trans rfl
 have hcgr3_1 : w3.cell? ⟨gr,1,none⟩ = some (.slice none 0 0) := (blk_cell BR.out 1).trans rfl
 have hcgr3_2 : w3.cell? ⟨gr,2,none⟩ = some (.slice none 0 0) := (blk_cell BR.out 2).trans rfl
 have hcgr3_3 : w3.cell? ⟨gr,3,none⟩ = some (.slice none 0 0) := (blk_cell BR.out 3).trans rfl
 have hfr3_0 := blk_frozen BR.out 0
 have hfr3_1 := blk_frozen BR.out 1
 have hfr3_2 := blk_frozen BR.out 2
 have hfr3_3 := blk_frozen BR.out 3
 cases t with
  | false =>
  have h1 := H1.out
  rw [if_neg (by simp)] at h1
  simp only [Option.some.injEq,Prod.mk.injEq] at h1
  obtain ⟨rfl,rfl,rfl,rfl⟩ := h1
  clear H1
  go_wp2
  refine bodyPost_ret (results_cell_row rfl _ _ gr 32 #[.bool false,.slice none 0 0,.slice none 0 0,.slice none 0 0] (0,0) _ rfl (pt4_ BR.out _ _ _ _) Try.underlying32 rfl (by kernel_rfl)) rfl ?_
  exact ⟨.slice none 0 0,.slice none 0 0,.slice none 0 0,by first|rfl|(simp;done),Kd.S_nil _ _ _ _ _,Kd.S_nil _ _ _ _ _,Kd.R_nil _ _ _ _ _,below_set (below_set (below_set (below_set D3.out GR.out) GR.out) GR.out) GR.out⟩
  | true =>
 have h1 := H1.out
 rw [if_pos rfl] at h1
 clear H1
 obtain ⟨⟨b,p1,p2,p3⟩,E1,h2⟩ := Option.bind_eq_some_iff.1 h1
 clear h1
 obtain ⟨q2,E2,h3⟩ := Option.bind_eq_some_iff.1 h2
 clear h2
 simp only [Option.some.injEq,Prod.mk.injEq] at h3
 obtain ⟨rfl,rfl,rfl,rfl⟩ := h3
 have F1 := ak E1
 have F2 := ak E2
 clear E1 E2
 clear hcgr3_0 hfr3_0 hcgr3_1 hfr3_1 hcgr3_2 hfr3_2 hcgr3_3 hfr3_3
 have hcga3_0 : w3.cell? ⟨ga,0,none⟩ = some (.bool a0_0) := (blk_cell BM.out 0).trans rfl
 have hcga3_1 : w3.cell? ⟨ga,1,none⟩ = some (.slice A0_1 l0_1.length c0_1) := (blk_cell BM.out 1).trans rfl
 have hcga3_2 : w3.cell? ⟨ga,2,none⟩ = some (.slice A0_2 l0_2.length c0_2) := (blk_cell BM.out 2).trans rfl
 have hcga3_3 : w3.cell? ⟨ga,3,none⟩ = some (.slice A0_3 l0_3.length c0_3) := (blk_cell BM.out 3).trans rfl
 go_wp2_with ((with_reducible refine gcal_ (f := 73) rfl ?_);refine goesL_ (some 13) rfl rfl Try.func73 (by kernel_rfl) rfl #[.agg #[.bool a0_0,.slice A0_1 l0_1.length c0_1,.slice A0_2 l0_2.length c0_2,.slice A0_3 l0_3.length c0_3]] rfl (by (try simp only [List.map_toArray,List.map_cons,List.map_nil]);first|done|rfl) ?_;refine (spec_l6Copy.calls k a0_0 A0_1 c0_1 l0_1 A0_2 c0_2 l0_2 A0_3 c0_3 l0_3 b p1 p2 p3 _ (Kd.C_below HR1.out D3.out) HC1.out (Kd.C_below HR2.out D3.out) HC2.out (Kd.C_below HR3.out D3.out) HC3.out F1.out).mono ?_;rintro e w4 ⟨v1,v2,v3,rfl,S1,S2,S3,B⟩;refine ⟨_,rfl,?_⟩;refine hold_31 ?_)
 refine ⟨?_⟩
 have T1 := ak S1
 have T2 := ak S2
 have T3 := ak S3
 have G := ak B
 have D4 := ak (below_step D3.out B)
 have BR := ak (blk_below BR.out B)
 clear S1 S2 S3 B BM
 obtain ⟨A1,c1,e1⟩ := Kd.S_slice T1.out
 subst e1
 obtain ⟨A2,c2,e2⟩ := Kd.S_slice T2.out
 subst e2
 obtain ⟨A3,c3,e3⟩ := Kd.R_slice T3.out
 subst e3
 go_wp2_with ((with_reducible refine gate_dst (N := 7) rfl ?_);refine bx_ 7 #[.bool false,.slice none 0 0,.slice none 0 0,.slice none 0 0] 32 ?_;intro go hg w5 hbox hb;have hge := ak (Nat.le_of_eq hg.symm);clear hg;refine hold_31 ?_)
 refine ⟨?_⟩
 have BZ := ak hbox
 have Q0 := ak hb
 have HGE := hge
 clear hbox hb hge
 have hcgoy_0 : w5.cell? ⟨go,0,none⟩ = some (.bool false) := (blk_cell BZ.out 0).trans rfl
 have hcgoy_1 : w5.cell? ⟨go,1,none⟩ = some (.slice none 0 0) := (blk_cell BZ.out 1).trans rfl
 have hcgoy_2 : w5.cell? ⟨go,2,none⟩ = some (.slice none 0 0) := (blk_cell BZ.out 2).trans rfl
 have hcgoy_3 : w5.cell? ⟨go,3,none⟩ = some (.slice none 0 0) := (blk_cell BZ.out 3).trans rfl
 have hfy_0 := blk_frozen BZ.out 0
 have hfy_1 := blk_frozen BZ.out 1
 have hfy_2 := blk_frozen BZ.out 2
 have hfy_3 := blk_frozen BZ.out 3
 go_upto_region 4 with (fail)
 have n0_ : Aside0 (Below w4.heap.size w4 ((((w5.setCell ⟨go,0,none⟩ (.bool b)).setCell ⟨go,1,none⟩ (.slice A1 p1.length c1)).setCell ⟨go,2,none⟩ (.slice A2 p2.length c2)).setCell ⟨go,3,none⟩ (.slice A3 p3.length c3))) := ⟨below_set (below_set (below_set (below_set Q0.out HGE.out) HGE.out) HGE.out) HGE.out⟩
 have n1_ : Aside0 (((((w5.setCell ⟨go,0,none⟩ (.bool b)).setCell ⟨go,1,none⟩ (.slice A1 p1.length c1)).setCell ⟨go,2,none⟩ (.slice A2 p2.length c2)).setCell ⟨go,3,none⟩ (.slice A3 p3.length c3)).heap[go]? = some (.cells #[.bool b,.slice A1 p1.length c1,.slice A2 p2.length c2,.slice A3 p3.length c3] 32 (0,0))) := ⟨pt4_ BZ.out _ _ _ _⟩
 clear BZ Q0
 clear hcgoy_0 hfy_0 hcgoy_1 hfy_1 hcgoy_2 hfy_2 hcgoy_3 hfy_3
 generalize ((((w5.setCell ⟨go,0,none⟩ (.bool b)).setCell ⟨go,1,none⟩ (.slice A1 p1.length c1)).setCell ⟨go,2,none⟩ (.slice A2 p2.length c2)).setCell ⟨go,3,none⟩ (.slice A3 p3.length c3)) = w6 at n0_ n1_ ⊢
 have B := n0_.out
 have BG := n1_
 clear n0_ n1_
 have T1 := ak (Kd.S_bound (Kd.S_below T1.out B))
 have T2 := ak (Kd.S_bound (Kd.S_below T2.out B))
 have T3 := ak (Kd.R_bound (Kd.R_below T3.out B))
 have G := ak (below_step G.out B)
 have D6 := ak (below_step D4.out B)
 have BR := ak (blk_below BR.out B)
 clear B D4
 go_wp2_with ((with_reducible refine gcal_ (f := 81) rfl ?_);refine goesL_ (some 16) rfl rfl Try.func81 (by kernel_rfl) rfl #[.pointer (some ⟨go,0,none⟩),.int .i64 a1,.int .i64 a2] rfl (by (try simp only [List.map_toArray,List.map_cons,List.map_nil]);first|done|rfl) ?_;refine (spec_l6Turn.calls k (fun k_ => True ∧ w3.heap.size ≤ k_ ∧ k_ < w6.heap.size ∧ ∃ q,q ∈ 45 :: (k45).E ∧ ∃ cells,w6.heap[k_]? = some (.cells cells q (0,0))) go b (.slice A1 p1.length c1) (.slice A3 p3.length c3) A2 c2 p2 a1 a2 q2 w3 _ G.out BG.out (fun hs_ => ty_31 ⟨32,List.mem_singleton.2 rfl,_,BG.out⟩ hs_.2.2.2 (by decide)) T2.out F2.out).mono ?_;rintro e w7 ⟨rfl,L,S,B,K⟩;refine ⟨_,rfl,?_⟩;refine hold_31 ?_)
 refine ⟨?_⟩
 have T1 := ak (Kd.S_step T1.out (fun k_ hk_ hlt_ => K.2 k_ hlt_ (fun hs_ => ty_31 hk_.2.2.2 hs_.2.2.2 (by decide))))
 have T3 := ak (Kd.R_step T3.out (fun k_ hk_ hlt_ => K.2 k_ hlt_ (fun hs_ => ty_31 hk_.2.2.2 hs_.2.2.2 (by decide))))
 have T2 := ak S
 have BG2 := ak ((K.2 go (blk_lt BG.out) (fun hs_ => ty_31 ⟨32,List.mem_singleton.2 rfl,_,BG.out⟩ hs_.2.2.2 (by decide))).trans BG.out)
 have BR2 := ak ((K.2 gr (blk_lt BR.out) (fun hs_ => ty_31 ⟨32,List.mem_singleton.2 rfl,_,BR.out⟩ hs_.2.2.2 (by decide))).trans BR.out)
 have D7 := ak (below_step D3.out B)
 rw [← L] at T2 BG2
 clear S B K L BG BR
 have BR := BR2
 clear BR2
 have hcgo7_0 : w7.cell? ⟨go,0,none⟩ = some (.bool b) := (blk_cell BG2.out 0).trans rfl
 have hcgo7_1 : w7.cell? ⟨go,1,none⟩ = some (.slice A1 p1.length c1) := (blk_cell BG2.out 1).trans rfl
 have hcgo7_2 : w7.cell? ⟨go,2,none⟩ = some (.slice A2 q2.length c2) := (blk_cell BG2.out 2).trans rfl
 have hcgo7_3 : w7.cell? ⟨go,3,none⟩ = some (.slice A3 p3.length c3) := (blk_cell BG2.out 3).trans rfl
 have hcgr7_0 : w7.cell? ⟨gr,0,none⟩ = some (.bool false) := (blk_cell BR.out 0).trans rfl
 have hcgr7_1 : w7.cell? ⟨gr,1,none⟩ = some (.slice none 0 0) := (blk_cell BR.out 1).trans rfl
 have hcgr7_2 : w7.cell? ⟨gr,2,none⟩ = some (.slice none 0 0) := (blk_cell BR.out 2).trans rfl
 have hcgr7_3 : w7.cell? ⟨gr,3,none⟩ = some (.slice none 0 0) := (blk_cell BR.out 3).trans rfl
 have hfr7_0 := blk_frozen BR.out 0
 have hfr7_1 := blk_frozen BR.out 1
 have hfr7_2 := blk_frozen BR.out 2
 have hfr7_3 := blk_frozen BR.out 3
 go_wp2
 refine bodyPost_ret (results_cell_row rfl _ _ gr 32 #[.bool b,.slice A1 p1.length c1,.slice A2 q2.length c2,.slice A3 p3.length c3] (0,0) _ rfl (pt4_ BR.out _ _ _ _) Try.underlying32 rfl (by kernel_rfl)) rfl ?_
 exact ⟨.slice A1 p1.length c1,.slice A2 q2.length c2,.slice A3 p3.length c3,by first|rfl|(simp;done),Kd.S_mono (Kd.S_far (p := ⟨gr,3,none⟩) (Kd.S_far (p := ⟨gr,2,none⟩) (Kd.S_far (p := ⟨gr,1,none⟩) (Kd.S_far (p := ⟨gr,0,none⟩) (Kd.S_types (Kd.S_lower T1.out D3.out.size) BR.out (by decide)) (fun _ h_ => h_.2) (.bool b)) (fun _ h_ => h_.2) (.slice A1 p1.length c1)) (fun _ h_ => h_.2) (.slice A2 q2.length c2)) (fun _ h_ => h_.2) (.slice A3 p3.length c3)) (fun _ _ => trivial),Kd.S_mono (Kd.S_far (p := ⟨gr,3,none⟩) (Kd.S_far (p := ⟨gr,2,none⟩) (Kd.S_far (p := ⟨gr,1,none⟩) (Kd.S_far (p := ⟨gr,0,none⟩) (Kd.S_types (Kd.S_lower T2.out D3.out.size) BR.out (by decide)) (fun _ h_ => h_.2) (.bool b)) (fun _ h_ => h_.2) (.slice A1 p1.length c1)) (fun _ h_ => h_.2) (.slice A2 q2.length c2)) (fun _ h_ => h_.2) (.slice A3 p3.length c3)) (fun _ _ => trivial),Kd.R_mono (Kd.R_far (p := ⟨gr,3,none⟩) (Kd.R_far (p := ⟨gr,2,none⟩) (Kd.R_far (p := ⟨gr,1,none⟩) (Kd.R_far (p := ⟨gr,0,none⟩) (Kd.R_types (Kd.R_lower T3.out D3.out.size) BR.out (by decide)) (fun _ h_ => h_.2) (.bool b)) (fun _ h_ => h_.2) (.slice A1 p1.length c1)) (fun _ h_ => h_.2) (.slice A2 q2.length c2)) (fun _ h_ => h_.2) (.slice A3 p3.length c3)) (fun _ _ => trivial),below_set (below_set (below_set (below_set D7.out GR.out) GR.out) GR.out) GR.out⟩

/-! ### impl_Cell_60: function 60 -/
def impl_Cell_60.f (l0 : List (S92)) : Option ((List (S92))) := (some (([] : List (S92)) : List (S92))).bind fun y236 => (if y236.length + l0.length < 8796093022208 then (some (y236 ++ l0)) else (none))
set_option maxHeartbeats 8000000 in
set_option maxRecDepth 100000 in
theorem impl_Cell_60.calls (A0 : Option Addr) (c0 : Nat) (l0 : List (S92)) (r : List (S92)) (w : World) (hr0 : Kd.C k92 w A0 l0.length l0) (hc0 : l0.length ≤ c0) (h : impl_Cell_60.f l0 = some r) :
    Calls Try.prog 60 #[.slice A0 l0.length c0] w fun e w' => ∃ v0_ : Value, e = .returned (v0_) ∧ Kd.R k92 92 w' w.heap.size (fun _ => True) v0_ r ∧ Below w.heap.size w w' := by
 cases A0 with
  | none =>
  have hnil := fun (W : World) => Go.Lib.run_eql_slice_nil (P := Try.prog) W 36 92 none l0.length c0 0 0 Try.underlying36
  simp only [Option.isNone_none] at hnil
  have hl : l0 = [] := by
   rcases Nat.eq_zero_or_pos l0.length with h1 | h1
   ·exact List.length_eq_zero_iff.1 h1
   ·obtain ⟨_,e,_⟩ := hr0.2.2 h1
    cases e
  have hr : r = [] := by
   subst hl
   have h2 : some ([] : List _) = some r := by rw [← h];simp [impl_Cell_60.f]
   exact (Option.some.inj h2).symm
  subst hr
  clear h hr0
  subst hl
  simp only [List.length_nil] at hnil
  go_enter Try.func60,Try.ntmps60
  go_wp2
  go_ret
  exact ⟨_,rfl,Kd.R_nil _ _ _ _ _,Below.refl _ _⟩
  | some ad0 =>
  have hnil := fun (W : World) => Go.Lib.run_eql_slice_nil (P := Try.prog) W 36 92 (some ad0) l0.length c0 0 0 Try.underlying36
  simp only [Option.isNone_some] at hnil
  have HR0 := ak hr0
  have HC0 := ak hc0
  clear hr0 hc0
  have HB := ak (Below.refl w.heap.size w)
  have H : ((some (([] : List (S92)) : List (S92))).bind fun y236 => (if y236.length + l0.length < 8796093022208 then (some (y236 ++ l0)) else (none))) = some r := h
  clear h
  obtain ⟨y236,hy236⟩ : ∃ y_ : List (S92),y_ = (([] : List (S92))) := ⟨_,rfl⟩
  replace H : (if y236.length + l0.length < 8796093022208 then (some (y236 ++ l0)) else (none)) = some r := by first|(rw [hy236];with_reducible exact H)|(have H2_ := (Option.bind_some _ _).symm.trans H;rw [hy236];with_reducible exact H2_)|(have H2_ := (Option.bind_some _ _).symm.trans H;with_reducible exact H2_)|with_reducible exact H|(rw [hy236];exact H)|exact H
  have Ny236 := ak hy236
  clear hy236
  by_cases c2 : y236.length + l0.length < 8796093022208
  ·rw [if_pos c2] at H
   have LMc2 := ak c2
   clear c2
   obtain ⟨y239,hy239⟩ : ∃ y_ : List (S92),y_ = (y236 ++ l0) := ⟨_,rfl⟩
   replace H : (some y239) = some r := by first|(rw [hy239];with_reducible exact H)|(have H2_ := (Option.bind_some _ _).symm.trans H;rw [hy239];with_reducible exact H2_)|(have H2_ := (Option.bind_some _ _).symm.trans H;with_reducible exact H2_)|with_reducible exact H|(rw [hy239];exact H)|exact H
   have Ny239 := ak hy239
   clear hy239
   obtain rfl := Option.some.inj H
   go_enter Try.func60,Try.ntmps60
   go_wp2_with (first|((with_reducible refine gate_dst (N := 5) rfl ?_);refine Kd.R_lit k92 _ 92 ?hg (N := 5) ?hd (xs := ([] : List (S92))) (inner := []) (ok := fun _ => True) (okp := fun _ => True) ?hr ?hp (fun _ hk => hk) trivial (Below.refl _ _) (Nat.le_refl _) (by simp) ?_;(case hd => rfl);(case hg => rfl);(case hr => first|(go_simp;done)|(go_simp;rfl));(case hp => exact (Reps.none _ _));intro v237 w3 ho4 hb hg_ hnew_;clear hg_ hnew_;(first|rw [← Ny236.out] at ho4|(simp only [Int.reduceToNat] at ho4;rw [← Ny236.out] at ho4));have HO238 := ak (Kd.R_lower ho4 (below_size b_));replace HB := ak (below_step b_ hb);clear hb ho4)|((with_reducible refine gblt_ (b := .append) (xs := #[.tmp 5,.tmp 6]) rfl ?_);at_builtin;refine Kd.R_append_rows k92 (w0 := w) w.heap.size rfl (.tmp 5) (.tmp 6) 36 92 (.agg #[(.int .i64 0),(.int .i64 0)]) 16 rfl Try.underlying36 info92 rfl (by decide) (by omega) v237 y236 l0 _ _ _ (fun _ => True) (fun _ => False) rfl rfl ?aO ?aR (fun _ _ h => h) (fun _ h => h.elim) ?aF ?aB ?aS ?aL ?_;(case aR => repeat (first|exact (Kd.C_below HR0.out HB.out)|(with_reducible refine Kd.C_alloc ?_ _)|(with_reducible refine Kd.C_drewN ?_ _)|(with_reducible refine Kd.C_drew ?_)));(case aB => exact b_);(case aF => exact (fun _ _ => trivial));(case aO => exact (by (with_reducible repeat (first|apply Kd.R_alloc|apply Kd.R_drewN|apply Kd.R_drew));exact HO238.out));(case aS => exact (below_size b_));(case aL => have := LMc2.out;omega);intro v240 w5 ho hb hg hat;rw [← Ny239.out] at ho;replace HB := ak (hb);have HO241 := ak (ho);clear HO238;clear ho hb hg hat))
   go_ret
   exact ⟨_,rf_,by (with_reducible repeat (first|apply Kd.R_alloc|apply Kd.R_drewN|apply Kd.R_drew));exact HO241.out,b_⟩
  ·rw [if_neg c2] at H
   exact absurd H (by simp)

/-! ### slices_Clone_int64_int64: function 121 -/
def slices_Clone_int64_int64.f (l0 : List Int) : Option (List Int) := (some (([] : List Int) : List Int)).bind fun y242 => (if y242.length + l0.length < 17592186044416 then (some (y242 ++ l0)) else (none))
set_option maxHeartbeats 8000000 in
set_option maxRecDepth 100000 in
theorem slices_Clone_int64_int64.calls (A0 : Option Addr) (c0 : Nat) (l0 : List Int) (r : List Int) (w : World) (hr0 : Kd.C (Kd.int .i64) w A0 l0.length l0) (hc0 : l0.length ≤ c0) (h : slices_Clone_int64_int64.f l0 = some r) :
    Calls Try.prog 121 #[.slice A0 l0.length c0] w fun e w' => ∃ v0_ : Value, e = .returned (v0_) ∧ Kd.R (Kd.int .i64) 2 w' w.heap.size (fun _ => True) v0_ r ∧ Below w.heap.size w w' := by
 cases A0 with
  | none =>
  have hnil := fun (W : World) => Go.Lib.run_eql_slice_nil (P := Try.prog) W 24 2 none l0.length c0 0 0 Try.underlying24
  simp only [Option.isNone_none] at hnil
  have hl : l0 = [] := by
   rcases Nat.eq_zero_or_pos l0.length with h1 | h1
   ·exact List.length_eq_zero_iff.1 h1
   ·obtain ⟨_,e,_⟩ := hr0.2.2 h1
    cases e
  have hr : r = [] := by
   subst hl
   have h2 : some ([] : List _) = some r := by rw [← h];simp [slices_Clone_int64_int64.f]
   exact (Option.some.inj h2).symm
  subst hr
  clear h hr0
  subst hl
  simp only [List.length_nil] at hnil
  go_enter Try.func121,Try.ntmps121
  go_wp2
  go_ret
  exact ⟨_,rfl,Kd.R_nil _ _ _ _ _,Below.refl _ _⟩
  | some ad0 =>
  have hnil := fun (W : World) => Go.Lib.run_eql_slice_nil (P := Try.prog) W 24 2 (some ad0) l0.length c0 0 0 Try.underlying24
  simp only [Option.isNone_some] at hnil
  have HR0 := ak hr0
  have HC0 := ak hc0
  clear hr0 hc0
  have HB := ak (Below.refl w.heap.size w)
  have H : ((some (([] : List Int) : List Int)).bind fun y242 => (if y242.length + l0.length < 17592186044416 then (some (y242 ++ l0)) else (none))) = some r := h
  clear h
  obtain ⟨y242,hy242⟩ : ∃ y_ : List Int,y_ = (([] : List Int)) := ⟨_,rfl⟩
  replace H : (if y242.length + l0.length < 17592186044416 then (some (y242 ++ l0)) else (none)) = some r := by first|(rw [hy242];with_reducible exact H)|(have H2_ := (Option.bind_some _ _).symm.trans H;rw [hy242];with_reducible exact H2_)|(have H2_ := (Option.bind_some _ _).symm.trans H;with_reducible exact H2_)|with_reducible exact H|(rw [hy242];exact H)|exact H
  have Ny242 := ak hy242
  clear hy242
  by_cases c2 : y242.length + l0.length < 17592186044416
  ·rw [if_pos c2] at H
   have LMc2 := ak c2
   clear c2
   obtain ⟨y245,hy245⟩ : ∃ y_ : List Int,y_ = (y242 ++ l0) := ⟨_,rfl⟩
   replace H : (some y245) = some r := by first|(rw [hy245];with_reducible exact H)|(have H2_ := (Option.bind_some _ _).symm.trans H;rw [hy245];with_reducible exact H2_)|(have H2_ := (Option.bind_some _ _).symm.trans H;with_reducible exact H2_)|with_reducible exact H|(rw [hy245];exact H)|exact H
   have Ny245 := ak hy245
   clear hy245
   obtain rfl := Option.some.inj H
   go_enter Try.func121,Try.ntmps121
   go_wp2_with (first|((with_reducible refine gate_dst (N := 5) rfl ?_);refine Kd.R_lit (Kd.int .i64) _ 2 ?hg (N := 5) ?hd (xs := ([] : List Int)) (inner := []) (ok := fun _ => True) (okp := fun _ => True) ?hr ?hp (fun _ hk => hk) trivial (Below.refl _ _) (Nat.le_refl _) (by simp) ?_;(case hd => rfl);(case hg => rfl);(case hr => first|(go_simp;done)|(go_simp;rfl));(case hp => exact (Reps.none _ _));intro v243 w3 ho4 hb hg_ hnew_;clear hg_ hnew_;(first|rw [← Ny242.out] at ho4|(simp only [Int.reduceToNat] at ho4;rw [← Ny242.out] at ho4));have HO244 := ak (Kd.R_lower ho4 (below_size b_));replace HB := ak (below_step b_ hb);clear hb ho4)|((with_reducible refine gblt_ (b := .append) (xs := #[.tmp 5,.tmp 6]) rfl ?_);at_builtin;refine Kd.R_append_rows (Kd.int .i64) (w0 := w) w.heap.size rfl (.tmp 5) (.tmp 6) 24 2 (.int .i64 0) 8 rfl Try.underlying24 info2 rfl (by decide) (by omega) v243 y242 l0 _ _ _ (fun _ => True) (fun _ => False) rfl rfl ?aO ?aR (fun _ _ h => h) (fun _ h => h.elim) ?aF ?aB ?aS ?aL ?_;(case aR => repeat (first|exact (Kd.C_below HR0.out HB.out)|(with_reducible refine Kd.C_alloc ?_ _)|(with_reducible refine Kd.C_drewN ?_ _)|(with_reducible refine Kd.C_drew ?_)));(case aB => exact b_);(case aF => exact (fun _ _ => trivial));(case aO => exact (by (with_reducible repeat (first|apply Kd.R_alloc|apply Kd.R_drewN|apply Kd.R_drew));exact HO244.out));(case aS => exact (below_size b_));(case aL => have := LMc2.out;omega);intro v246 w5 ho hb hg hat;rw [← Ny245.out] at ho;replace HB := ak (hb);have HO247 := ak (ho);clear HO244;clear ho hb hg hat))
   go_ret
   exact ⟨_,rf_,by (with_reducible repeat (first|apply Kd.R_alloc|apply Kd.R_drewN|apply Kd.R_drew));exact HO247.out,b_⟩
  ·rw [if_neg c2] at H
   exact absurd H (by simp)

end Go.Proofs.Ythplaakckfhaaaa.XCd
