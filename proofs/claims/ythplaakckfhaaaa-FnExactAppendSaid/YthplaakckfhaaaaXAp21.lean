/- Proved: of each Go function here that a call comes to what the Lean function of its name tells. Written by a program of this session over the translation. No conditions beyond each theorem's own. -/
import Derived.Test.YthplaakckfhaaaaXAp0
import Derived.Test.YthplaakckfhaaaaXAp1
import Derived.Test.YthplaakckfhaaaaXAp2
import Derived.Test.YthplaakckfhaaaaXAp4
import Derived.Test.YthplaakckfhaaaaXAp5
import Derived.Test.YthplaakckfhaaaaXAp13
import Derived.Test.YthplaakckfhaaaaXAp19
import Derived.Test.YthplaakckfhaaaaXAp20
namespace Go.Proofs.Ythplaakckfhaaaa.XAp
open Go.RowKit Go.Proofs.Ythplaakckfhaaaa.Aid Go.Proofs.YthplaakckfhaaaaW.PrintWords Go.Proofs.YthplaakckfhaaaaW.PrintLast Go.Proofs.YthplaakckfhaaaaW.PrintMore
set_option linter.unusedVariables false
set_option linter.unusedSimpArgs false

/-! ### laws_FnExactAppend: function 6 -/
theorem hold_6 {p : Prop} (h : Aside0 p) : p := h.out
theorem ty_6 {w : World} {k : Nat} {a b : List Nat} (h1 : ∃ q, q ∈ a ∧ ∃ cs, w.heap[k]? = some (.cells cs q (0, 0))) (h2 : ∃ q, q ∈ b ∧ ∃ cs, w.heap[k]? = some (.cells cs q (0, 0))) (hd : ∀ q, q ∈ a → ¬ q ∈ b) : False := by
 obtain ⟨q,hq,cs,h1⟩ := h1
 obtain ⟨q2,hq2,cs2,h2⟩ := h2
 rw [h1] at h2
 injection h2 with h2
 injection h2 with _ h2
 exact hd q hq (h2 ▸ hq2)
theorem ite_some_6 {α : Type} {c : Prop} [Decidable c] {x : Option α} {r : α} (h : (if c then x else none) = some r) : c ∧ x = some r := by
 by_cases hc : c
 ·rw [if_pos hc] at h;exact ⟨hc,h⟩
 ·rw [if_neg hc] at h;cases h
theorem ite_none_6 {α : Type} {c : Prop} [Decidable c] {x : Option α} {r : α} (h : (if c then none else x) = some r) : ¬ c ∧ x = some r := by
 by_cases hc : c
 ·rw [if_pos hc] at h;cases h
 ·rw [if_neg hc] at h;exact ⟨hc,h⟩
def laws_FnExactAppend.f (k : Nat) (a0_0 : Bool) (l0_1 : List (S123)) (l0_2 : List (S53)) (l0_3 : List Int) (a1_0 : Int) (a1_1 : Int) (a1_2 : Int) (l1_3 : List (S135)) : Option (Bool) := (laws_szMachine.f k a0_0 l0_1 l0_2 l0_3 1048576).bind fun s => if s < 0 then some true else (laws_szRecord.f a1_0 a1_1 a1_2 l1_3 s).bind fun s2 => if s2 < 0 then some true else (laws_toMachine.f k a0_0 l0_1 l0_2 l0_3).bind fun p => (laws_toRecord.f k a1_0 a1_1 a1_2 l1_3).bind fun n => (spec_Append.f k p.1 p.2.1 p.2.2.1 p.2.2.2 n.1 n.2.1 n.2.2.1 n.2.2.2).bind fun u => (impl_Append.f k p.1 p.2.1 p.2.2.1 p.2.2.2 n.1 n.2.1 n.2.2.1 n.2.2.2).bind fun v => (laws_eqMachine.f k v.1 v.2.1 v.2.2.1 v.2.2.2.1 u.1 u.2.1 u.2.2.1 u.2.2.2.1).bind fun e1 => if e1 = true then (if v.2.2.2.2 = u.2.2.2.2 then ((laws_eqMachine.f k p.1 p.2.1 p.2.2.1 p.2.2.2 p.1 p.2.1 p.2.2.1 p.2.2.2).bind fun e2 => if e2 = true then ((laws_eqRecord.f k n.1 n.2.1 n.2.2.1 n.2.2.2 n.1 n.2.1 n.2.2.1 n.2.2.2).bind fun e3 => if e3 = true then ((laws_markMachine.f k p.2.1 p.2.2.1 p.2.2.2 1).bind fun mx => (laws_markRecord.f k n.1 n.2.1 n.2.2.1 n.2.2.2 mx.1).bind fun mr => if mr.1 < 0 then none else ((laws_markMachine.f k v.2.1 v.2.2.1 v.2.2.2.1 1).bind fun m => (laws_heldMachine.f k v.1 m.2.1 m.2.2.1 m.2.2.2 1).bind fun q => if q < 0 then none else if q = m.1 then some true else none)) else none) else none) else none) else none
set_option maxHeartbeats 8000000 in
set_option maxRecDepth 100000 in
theorem laws_FnExactAppend.calls (k : Nat) (a0_0 : Bool) (A0_1 : Option Addr) (c0_1 : Nat) (l0_1 : List (S123)) (A0_2 : Option Addr) (c0_2 : Nat) (l0_2 : List (S53)) (A0_3 : Option Addr) (c0_3 : Nat) (l0_3 : List Int) (a1_0 : Int) (a1_1 : Int) (a1_2 : Int) (A1_3 : Option Addr) (c1_3 : Nat) (l1_3 : List (S135)) (r : Bool) (w : World) (hr0_1 : Kd.C k123 w A0_1 l0_1.length l0_1) (hc0_1 : l0_1.length ≤ c0_1) (hr0_2 : Kd.C k53 w A0_2 l0_2.length l0_2) (hc0_2 : l0_2.length ≤ c0_2) (hr0_3 : Kd.C (Kd.int .i64) w A0_3 l0_3.length l0_3) (hc0_3 : l0_3.length ≤ c0_3) (hr1_3 : Kd.C k135 w A1_3 l1_3.length l1_3) (hc1_3 : l1_3.length ≤ c1_3) (h : laws_FnExactAppend.f k a0_0 l0_1 l0_2 l0_3 a1_0 a1_1 a1_2 l1_3 = some r) :
    Calls Try.prog 6 #[.agg #[.bool a0_0, .slice A0_1 l0_1.length c0_1, .slice A0_2 l0_2.length c0_2, .slice A0_3 l0_3.length c0_3], .agg #[.int .i64 a1_0, .int .i64 a1_1, .int .i64 a1_2, .slice A1_3 l1_3.length c1_3]] w fun e w' => e = .returned (.bool r) ∧ Below w.heap.size w w' := by
 have hu1 := Try.underlying26
 have hu2 := Try.underlying32
 have hu3 := Try.underlying53
 have hu4 := Try.underlying45
 have HR1 := Aside0.mk hr0_1
 have HC1 := Aside0.mk hc0_1
 have HR2 := Aside0.mk hr0_2
 have HC2 := Aside0.mk hc0_2
 have HR3 := Aside0.mk hr0_3
 have HC3 := Aside0.mk hc0_3
 have HR4 := Aside0.mk hr1_3
 have HC4 := Aside0.mk hc1_3
 clear hr0_1 hc0_1 hr0_2 hc0_2 hr0_3 hc0_3 hr1_3 hc1_3
 obtain ⟨s,E0,h1⟩ := Option.bind_eq_some_iff.1 h
 clear h
 have H2 := Aside0.mk h1
 have F0 := Aside0.mk E0
 clear h1 E0
 go_enter Try.func6,Try.ntmps6
 go_wp2_with ((with_reducible refine gate_dst (N := 2) rfl ?_);refine bx_ 2 #[.bool a0_0,.slice A0_1 l0_1.length c0_1,.slice A0_2 l0_2.length c0_2,.slice A0_3 l0_3.length c0_3] 26 ?_;intro ga hg wa hbox hb;have hge := Aside0.mk (Nat.le_of_eq hg.symm);clear hg;refine hold_6 ?_)
 refine ⟨?_⟩
 have BA := Aside0.mk hbox
 have D0 := Aside0.mk hb
 clear hbox hb hge
 go_wp2_with ((with_reducible refine gate_dst (N := 3) rfl ?_);refine bx_ 3 #[.int .i64 a1_0,.int .i64 a1_1,.int .i64 a1_2,.slice A1_3 l1_3.length c1_3] 53 ?_;intro ge hg wb hbox hb;have hge := Aside0.mk (Nat.le_of_eq hg.symm);clear hg;refine hold_6 ?_)
 refine ⟨?_⟩
 have BE := Aside0.mk hbox
 have BA := Aside0.mk (blk_below BA.out hb)
 have D0 := Aside0.mk (below_step D0.out hb)
 clear hbox hb hge
 have HR1 := Aside0.mk (Kd.C_below HR1.out D0.out)
 have HR2 := Aside0.mk (Kd.C_below HR2.out D0.out)
 have HR3 := Aside0.mk (Kd.C_below HR3.out D0.out)
 have HR4 := Aside0.mk (Kd.C_below HR4.out D0.out)
 have hcga1_0 : wb.cell? ⟨ga,0,none⟩ = some (.bool a0_0) := (blk_cell BA.out 0).trans rfl
 have hcga1_1 : wb.cell? ⟨ga,1,none⟩ = some (.slice A0_1 l0_1.length c0_1) := (blk_cell BA.out 1).trans rfl
 have hcga1_2 : wb.cell? ⟨ga,2,none⟩ = some (.slice A0_2 l0_2.length c0_2) := (blk_cell BA.out 2).trans rfl
 have hcga1_3 : wb.cell? ⟨ga,3,none⟩ = some (.slice A0_3 l0_3.length c0_3) := (blk_cell BA.out 3).trans rfl
 go_wp2_with ((with_reducible refine gcal_ (f := 10) rfl ?_);refine goesL_ (some 19) rfl rfl Try.func10 (by kernel_rfl) rfl #[.agg #[.bool a0_0,.slice A0_1 l0_1.length c0_1,.slice A0_2 l0_2.length c0_2,.slice A0_3 l0_3.length c0_3],.int .i64 1048576] rfl (by (try simp only [List.map_toArray,List.map_cons,List.map_nil]);first|done|rfl) ?_;refine (laws_szMachine.calls k a0_0 A0_1 c0_1 l0_1 A0_2 c0_2 l0_2 A0_3 c0_3 l0_3 1048576 s _ HR1.out HC1.out HR2.out HC2.out HR3.out HC3.out F0.out).mono ?_;rintro e w1 ⟨rfl,B⟩;refine ⟨_,rfl,?_⟩;refine hold_6 ?_)
 refine ⟨?_⟩
 have D1 := Aside0.mk B
 clear B
 by_cases hs : s < 0
 ·have h1 := H2.out;rw [if_pos hs] at h1;obtain rfl := Option.some.inj h1;clear h1 H2;go_wp2;go_ret;exact ⟨rfl,below_step D0.out D1.out⟩
 have h2 := H2.out
 rw [if_neg hs] at h2
 clear H2
 obtain ⟨s2,E01,h3⟩ := Option.bind_eq_some_iff.1 h2
 clear h2
 have H2 := Aside0.mk h3
 have F01 := Aside0.mk E01
 clear h3 E01
 have hcge2_0 : w1.cell? ⟨ge,0,none⟩ = some (.int .i64 a1_0) := (blk_cell (blk_below BE.out D1.out) 0).trans rfl
 have hcge2_1 : w1.cell? ⟨ge,1,none⟩ = some (.int .i64 a1_1) := (blk_cell (blk_below BE.out D1.out) 1).trans rfl
 have hcge2_2 : w1.cell? ⟨ge,2,none⟩ = some (.int .i64 a1_2) := (blk_cell (blk_below BE.out D1.out) 2).trans rfl
 have hcge2_3 : w1.cell? ⟨ge,3,none⟩ = some (.slice A1_3 l1_3.length c1_3) := (blk_cell (blk_below BE.out D1.out) 3).trans rfl
 go_wp2_with ((with_reducible refine gcal_ (f := 26) rfl ?_);refine goesL_ (some 24) rfl rfl Try.func26 (by kernel_rfl) rfl #[.agg #[.int .i64 a1_0,.int .i64 a1_1,.int .i64 a1_2,.slice A1_3 l1_3.length c1_3],.int .i64 s] rfl (by (try simp only [List.map_toArray,List.map_cons,List.map_nil]);first|done|rfl) ?_;refine (laws_szRecord.calls a1_0 a1_1 a1_2 A1_3 c1_3 l1_3 s s2 _ (Kd.C_below HR4.out D1.out) HC4.out F01.out).mono ?_;rintro e w2 ⟨rfl,B⟩;refine ⟨_,rfl,?_⟩;refine hold_6 ?_)
 refine ⟨?_⟩
 have D1 := Aside0.mk (below_step D1.out B)
 clear B
 by_cases hs : s2 < 0
 ·have h1 := H2.out;rw [if_pos hs] at h1;obtain rfl := Option.some.inj h1;clear h1 H2;go_wp2;go_ret;exact ⟨rfl,below_step D0.out D1.out⟩
 have h2 := H2.out
 rw [if_neg hs] at h2
 clear H2
 obtain ⟨⟨b,p1,p2,p3⟩,E1,h3⟩ := Option.bind_eq_some_iff.1 h2
 clear h2
 obtain ⟨⟨n0,n1,n2,n3⟩,E2,h4⟩ := Option.bind_eq_some_iff.1 h3
 clear h3
 obtain ⟨⟨ub,u1,u2,u3,u4⟩,E3,h5⟩ := Option.bind_eq_some_iff.1 h4
 clear h4
 obtain ⟨⟨vb,v1,v2,v3,v4⟩,E4,h6⟩ := Option.bind_eq_some_iff.1 h5
 clear h5
 obtain ⟨e1,E5,h7⟩ := Option.bind_eq_some_iff.1 h6
 clear h6
 obtain ⟨he1,h8⟩ := ite_some_6 h7
 clear h7
 subst he1
 obtain ⟨hv,h9⟩ := ite_some_6 h8
 clear h8
 replace hv : v4 = u4 := hv
 subst hv
 obtain ⟨e2,E6,h10⟩ := Option.bind_eq_some_iff.1 h9
 clear h9
 obtain ⟨he2,h11⟩ := ite_some_6 h10
 clear h10
 subst he2
 obtain ⟨e3,E7,h12⟩ := Option.bind_eq_some_iff.1 h11
 clear h11
 obtain ⟨he3,h13⟩ := ite_some_6 h12
 clear h12
 subst he3
 obtain ⟨⟨mx,mx1,mx2,mx3⟩,E8,h14⟩ := Option.bind_eq_some_iff.1 h13
 clear h13
 obtain ⟨⟨mr,mr1⟩,E9,h15⟩ := Option.bind_eq_some_iff.1 h14
 clear h14
 obtain ⟨hmx,h16⟩ := ite_none_6 h15
 clear h15
 obtain ⟨⟨m,y1,y2,y3⟩,E10,h17⟩ := Option.bind_eq_some_iff.1 h16
 clear h16
 obtain ⟨q,E11,h18⟩ := Option.bind_eq_some_iff.1 h17
 clear h17
 obtain ⟨hq,h19⟩ := ite_none_6 h18
 clear h18
 obtain ⟨hqm,h20⟩ := ite_some_6 h19
 clear h19
 replace hqm : q = m := hqm
 subst hqm
 obtain rfl := Option.some.inj h20
 clear h20
 have F1 := Aside0.mk E1
 have F2 := Aside0.mk E2
 have F3 := Aside0.mk E3
 have F4 := Aside0.mk E4
 have F5 := Aside0.mk E5
 have F6 := Aside0.mk E6
 have F7 := Aside0.mk E7
 have F8 := Aside0.mk E8
 have F9 := Aside0.mk E9
 have F10 := Aside0.mk E10
 have F11 := Aside0.mk E11
 replace hmx : ¬ mr < 0 := hmx
 have fmx : 0 ≤ mr := Int.not_lt.1 hmx
 have fq : 0 ≤ q := Int.not_lt.1 hq
 clear E1 E2 E3 E4 E5 E6 E7 E8 E9 E10 E11 hmx hq
 go_upto_region 8 with (fail)
 have B : Below w2.heap.size w2 w2.drew := below_drew1 (Below.refl _ _)
 have D1 := Aside0.mk (below_step D1.out B)
 clear B
 refine start_ (n := 11) (S := fun w' => w'.cell? ⟨ga,0,none⟩ = some (.bool a0_0) ∧ w'.cell? ⟨ga,1,none⟩ = some (.slice A0_1 l0_1.length c0_1) ∧ w'.cell? ⟨ga,2,none⟩ = some (.slice A0_2 l0_2.length c0_2) ∧ w'.cell? ⟨ga,3,none⟩ = some (.slice A0_3 l0_3.length c0_3) ∧ w'.cell? ⟨ge,0,none⟩ = some (.int .i64 a1_0) ∧ w'.cell? ⟨ge,1,none⟩ = some (.int .i64 a1_1) ∧ w'.cell? ⟨ge,2,none⟩ = some (.int .i64 a1_2) ∧ w'.cell? ⟨ge,3,none⟩ = some (.slice A1_3 l1_3.length c1_3)) (ds := [9]) #[false,false,false,false,false,false,false,false,false,false,false] (by kernel_rfl) rfl rfl ⟨(blk_cell (blk_below BA.out D1.out) 0).trans rfl,(blk_cell (blk_below BA.out D1.out) 1).trans rfl,(blk_cell (blk_below BA.out D1.out) 2).trans rfl,(blk_cell (blk_below BA.out D1.out) 3).trans rfl,(blk_cell (blk_below BE.out D1.out) 0).trans rfl,(blk_cell (blk_below BE.out D1.out) 1).trans rfl,(blk_cell (blk_below BE.out D1.out) 2).trans rfl,(blk_cell (blk_below BE.out D1.out) 3).trans rfl⟩ (fun hHeld => ?_)
 generalize w2.drew = w2c at D1 hHeld ⊢
 refine take_ (i := 0) (N := some 28) (v := ?_) (a' := ?_) #[true,false,false,false,false,false,false,false,false,false,false] rfl rfl (by kernel_rfl) (fun _ _ _ h => h) (Or.inl ⟨by rfl,?_⟩) hHeld ?_ ?_
 rotate_left
 ·rintro w' ⟨s0,s1,s2,s3,s4,s5,s6,s7⟩
  go_simp
  with_reducible rfl
 rotate_left
 ·simp only [Act.put,q1,q2,q3,i64_w,i32_w]
  rfl
 refine take_ (i := 2) (N := some 30) (v := ?_) (a' := ?_) #[true,false,true,false,false,false,false,false,false,false,false] rfl rfl (by kernel_rfl) (fun _ _ _ h => h) (Or.inl ⟨by rfl,?_⟩) hHeld ?_ ?_
 rotate_left
 ·rintro w' ⟨s0,s1,s2,s3,s4,s5,s6,s7⟩
  go_simp
  with_reducible rfl
 rotate_left
 ·simp only [Act.put,q1,q2,q3,i64_w,i32_w]
  rfl
 have GI := Aside0.mk (Below.refl w2c.heap.size w2c)
 refine join_ (σ := Value × Value × Value × Value × Value × Value × Value × Nat) 2 #[true,true,true,true,true,true,true,true,true,false,false] (fun s_ => [(29,.agg #[.bool b,s_.1,s_.2.1,s_.2.2.1]),(31,.agg #[.int .i64 n0,.int .i64 n1,.int .i64 n2,s_.2.2.2.1]),(32,.tuple #[.agg #[.bool ub,s_.2.2.2.2.1,s_.2.2.2.2.2.1,s_.2.2.2.2.2.2.1],.bool v4]),(27,.tuple #[.agg #[.bool ub,s_.2.2.2.2.1,s_.2.2.2.2.2.1,s_.2.2.2.2.2.2.1],.bool v4]),(33,.agg #[.bool ub,s_.2.2.2.2.1,s_.2.2.2.2.2.1,s_.2.2.2.2.2.2.1]),(34,.bool v4),(6,.pointer (some ⟨s_.2.2.2.2.2.2.2,0,none⟩))]) (fun s_ w' => Below w2c.heap.size w2c w' ∧ Kd.S k79 79 w' w2c.heap.size (fun _ => True) s_.2.2.2.2.1 u1 ∧ Kd.S k45 45 w' w2c.heap.size (fun _ => True) s_.2.2.2.2.2.1 u2 ∧ Kd.R (Kd.int .i64) 2 w' w2c.heap.size (fun _ => True) s_.2.2.2.2.2.2.1 u3 ∧ w'.heap[s_.2.2.2.2.2.2.2]? = some (.cells #[.bool false,.slice none 0 0,.slice none 0 0,.slice none 0 0] 32 (0,0)) ∧ w2c.heap.size ≤ s_.2.2.2.2.2.2.2) (fun s_ wq hF_ => ?_) (fun JT => ?_)
 rotate_left
 ·refine join_ (σ := Value × Value × Value × Value × Nat) 6 #[true,true,true,true,false,false,false,false,true,false,false] (fun s_ => [(29,.agg #[.bool b,s_.1,s_.2.1,s_.2.2.1]),(31,.agg #[.int .i64 n0,.int .i64 n1,.int .i64 n2,s_.2.2.2.1]),(6,.pointer (some ⟨s_.2.2.2.2,0,none⟩))]) (fun s_ w' => Below w2c.heap.size w2c w' ∧ Kd.S k79 79 w' w2c.heap.size (fun _ => True) s_.1 p1 ∧ Kd.S k45 45 w' w2c.heap.size (fun _ => True) s_.2.1 p2 ∧ Kd.R (Kd.int .i64) 2 w' w2c.heap.size (fun _ => True) s_.2.2.1 p3 ∧ Kd.R k127 127 w' w2c.heap.size (fun _ => True) s_.2.2.2.1 n3 ∧ w'.heap[s_.2.2.2.2]? = some (.cells #[.bool false,.slice none 0 0,.slice none 0 0,.slice none 0 0] 32 (0,0)) ∧ w2c.heap.size ≤ s_.2.2.2.2) (fun s_ w' hF_ => ?_) (fun J4g => ?_)
  ·obtain ⟨ma1,ma2,ma3,mra,gn⟩ := s_
   obtain ⟨g_,ma1_,ma2_,ma3_,mra_,bn_,gnE_⟩ := hF_
   refine norm_ (a' := ?_) ?_ ?_
   rotate_left
   ·simp only [putAll,Act.put,List.setIfInBounds_toArray,List.set_cons_zero,List.set_cons_succ]
    rfl
   have GI := Aside0.mk g_
   clear g_
   have BN := Aside0.mk bn_
   have gnE := Aside0.mk gnE_
   clear bn_ gnE_
   have Ta1 := Aside0.mk ma1_
   have Ta2 := Aside0.mk ma2_
   have Ta3 := Aside0.mk ma3_
   clear ma1_ ma2_ ma3_
   obtain ⟨Aa1,ca1,ea1⟩ := Kd.S_slice Ta1.out
   subst ea1
   obtain ⟨Aa2,ca2,ea2⟩ := Kd.S_slice Ta2.out
   subst ea2
   obtain ⟨Aa3,ca3,ea3⟩ := Kd.R_slice Ta3.out
   subst ea3
   have Tqa := Aside0.mk mra_
   clear mra_
   obtain ⟨Ara,cra,era⟩ := Kd.R_slice Tqa.out
   subst era
   refine one_ (i := 4) (N := some 32) #[true,true,true,true,true,false,false,false,true,false,false] rfl rfl (by kernel_rfl) (by decide) (fun K hK => ?_)
   refine goes_ Try.func27 (by kernel_rfl) rfl #[.agg #[.bool b,.slice Aa1 p1.length ca1,.slice Aa2 p2.length ca2,.slice Aa3 p3.length ca3],.agg #[.int .i64 n0,.int .i64 n1,.int .i64 n2,.slice Ara n3.length cra]] (by rfl) rfl rfl (by (try simp only [List.map_toArray,List.map_cons,List.map_nil]);first|done|rfl) ?_
   refine (spec_Append.calls k b Aa1 ca1 p1 Aa2 ca2 p2 Aa3 ca3 p3 n0 n1 n2 Ara cra n3 ub u1 u2 u3 v4 _ (Kd.S_reads' Ta1.out).2.2 (Kd.S_reads' Ta1.out).2.1 (Kd.S_reads' Ta2.out).2.2 (Kd.S_reads' Ta2.out).2.1 (Kd.R_reads' Ta3.out).2.2 (Kd.R_reads' Ta3.out).2.1 (Kd.R_reads' Tqa.out).2.2 (Kd.R_reads' Tqa.out).2.1 F3.out).mono ?_
   rintro e wq ⟨mu1,mu2,mu3,rfl,S1,S2,S3,B⟩
   refine ⟨_,rfl,?_⟩
   have Tu1 := Aside0.mk (Kd.S_lower S1 GI.out.size)
   have Tu2 := Aside0.mk (Kd.S_lower S2 GI.out.size)
   have Tu3 := Aside0.mk (Kd.R_lower S3 GI.out.size)
   clear S1 S2 S3
   have Ta1 := Aside0.mk (Kd.S_below Ta1.out B)
   have Ta2 := Aside0.mk (Kd.S_below Ta2.out B)
   have Ta3 := Aside0.mk (Kd.R_below Ta3.out B)
   have Tqa := Aside0.mk (Kd.R_below Tqa.out B)
   have BN := Aside0.mk (blk_below BN.out B)
   have GI := Aside0.mk (below_step GI.out B)
   clear B
   obtain ⟨Au1,cu1,eu1⟩ := Kd.S_slice Tu1.out
   subst eu1
   obtain ⟨Au2,cu2,eu2⟩ := Kd.S_slice Tu2.out
   subst eu2
   obtain ⟨Au3,cu3,eu3⟩ := Kd.R_slice Tu3.out
   subst eu3
   refine hK.out _ _ ⟨(blk_cell (blk_below BA.out (below_step D1.out GI.out)) 0).trans rfl,(blk_cell (blk_below BA.out (below_step D1.out GI.out)) 1).trans rfl,(blk_cell (blk_below BA.out (below_step D1.out GI.out)) 2).trans rfl,(blk_cell (blk_below BA.out (below_step D1.out GI.out)) 3).trans rfl,(blk_cell (blk_below BE.out (below_step D1.out GI.out)) 0).trans rfl,(blk_cell (blk_below BE.out (below_step D1.out GI.out)) 1).trans rfl,(blk_cell (blk_below BE.out (below_step D1.out GI.out)) 2).trans rfl,(blk_cell (blk_below BE.out (below_step D1.out GI.out)) 3).trans rfl⟩ (fun hHeld => ?_)
   clear hK K
   refine nr_ (some 32) _ ?_
   refine pure_ (i := 5) (N := some 27) (v := ?_) (a' := ?_) #[true,true,true,true,true,true,false,false,true,false,false] rfl rfl (by kernel_rfl) (fun _ _ _ h => h) (Or.inl ⟨by rfl,?_⟩) ?_ ?_
   rotate_left
   ·intro w'
    go_simp
    with_reducible rfl
   rotate_left
   ·simp only [Act.put,q1,q2,q3,i64_w,i32_w]
    rfl
   refine pure_ (i := 6) (N := some 33) (v := ?_) (a' := ?_) #[true,true,true,true,true,true,true,false,true,false,false] rfl rfl (by kernel_rfl) (fun _ _ _ h => h) (Or.inl ⟨by rfl,?_⟩) ?_ ?_
   rotate_left
   ·intro w'
    go_simp
    with_reducible rfl
   rotate_left
   ·simp only [Act.put,q1,q2,q3,i64_w,i32_w]
    rfl
   refine pure_ (i := 7) (N := some 34) (v := ?_) (a' := ?_) #[true,true,true,true,true,true,true,true,true,false,false] rfl rfl (by kernel_rfl) (fun _ _ _ h => h) (Or.inl ⟨by rfl,?_⟩) ?_ ?_
   rotate_left
   ·intro w'
    go_simp
    with_reducible rfl
   rotate_left
   ·simp only [Act.put,q1,q2,q3,i64_w,i32_w]
    rfl
   exact norm_ (by simp only [putAll,Act.put,List.setIfInBounds_toArray,List.set_cons_zero,List.set_cons_succ]) (JT (.slice Aa1 p1.length ca1,.slice Aa2 p2.length ca2,.slice Aa3 p3.length ca3,.slice Ara n3.length cra,.slice Au1 u1.length cu1,.slice Au2 u2.length cu2,.slice Au3 u3.length cu3,gn) _ ⟨GI.out,Tu1.out,Tu2.out,Tu3.out,BN.out,gnE.out⟩)
  refine join_ (σ := Value × Value × Value × Value) 7 #[true,true,true,true,false,false,false,false,false,false,false] (fun s_ => [(29,.agg #[.bool b,s_.1,s_.2.1,s_.2.2.1]),(31,.agg #[.int .i64 n0,.int .i64 n1,.int .i64 n2,s_.2.2.2])]) (fun s_ w' => Below w2c.heap.size w2c w' ∧ Kd.S k79 79 w' w2c.heap.size (fun _ => True) s_.1 p1 ∧ Kd.S k45 45 w' w2c.heap.size (fun _ => True) s_.2.1 p2 ∧ Kd.R (Kd.int .i64) 2 w' w2c.heap.size (fun _ => True) s_.2.2.1 p3 ∧ Kd.R k127 127 w' w2c.heap.size (fun _ => True) s_.2.2.2 n3) (fun s_ w' hF_ => ?_) (fun J4 => ?_)
  ·obtain ⟨ma1,ma2,ma3,mra⟩ := s_
   obtain ⟨g_,ma1_,ma2_,ma3_,mra_⟩ := hF_
   refine norm_ (a' := ?_) ?_ ?_
   rotate_left
   ·simp only [putAll,Act.put,List.setIfInBounds_toArray,List.set_cons_zero,List.set_cons_succ]
    rfl
   have GI := Aside0.mk g_
   clear g_
   have Ta1 := Aside0.mk ma1_
   have Ta2 := Aside0.mk ma2_
   have Ta3 := Aside0.mk ma3_
   clear ma1_ ma2_ ma3_
   obtain ⟨Aa1,ca1,ea1⟩ := Kd.S_slice Ta1.out
   subst ea1
   obtain ⟨Aa2,ca2,ea2⟩ := Kd.S_slice Ta2.out
   subst ea2
   obtain ⟨Aa3,ca3,ea3⟩ := Kd.R_slice Ta3.out
   subst ea3
   have Tqa := Aside0.mk mra_
   clear mra_
   obtain ⟨Ara,cra,era⟩ := Kd.R_slice Tqa.out
   subst era
   refine two_ (i := 4) (j := 8) (Ni := some 32) (Nj := some 6) #[true,true,true,true,true,false,false,false,false,false,false] #[true,true,true,true,false,false,false,false,true,false,false] rfl rfl rfl rfl (by kernel_rfl) (by decide) (by decide) (fun K hK => ?_) (fun K hK => ?_)
   ·refine goes_ Try.func27 (by kernel_rfl) rfl #[.agg #[.bool b,.slice Aa1 p1.length ca1,.slice Aa2 p2.length ca2,.slice Aa3 p3.length ca3],.agg #[.int .i64 n0,.int .i64 n1,.int .i64 n2,.slice Ara n3.length cra]] (by rfl) rfl rfl (by (try simp only [List.map_toArray,List.map_cons,List.map_nil]);first|done|rfl) ?_
    refine (spec_Append.calls k b Aa1 ca1 p1 Aa2 ca2 p2 Aa3 ca3 p3 n0 n1 n2 Ara cra n3 ub u1 u2 u3 v4 _ (Kd.S_reads' Ta1.out).2.2 (Kd.S_reads' Ta1.out).2.1 (Kd.S_reads' Ta2.out).2.2 (Kd.S_reads' Ta2.out).2.1 (Kd.R_reads' Ta3.out).2.2 (Kd.R_reads' Ta3.out).2.1 (Kd.R_reads' Tqa.out).2.2 (Kd.R_reads' Tqa.out).2.1 F3.out).mono ?_
    rintro e wq ⟨mu1,mu2,mu3,rfl,S1,S2,S3,B⟩
    refine ⟨_,rfl,?_⟩
    have Tu1 := Aside0.mk (Kd.S_lower S1 GI.out.size)
    have Tu2 := Aside0.mk (Kd.S_lower S2 GI.out.size)
    have Tu3 := Aside0.mk (Kd.R_lower S3 GI.out.size)
    clear S1 S2 S3
    have Ta1 := Aside0.mk (Kd.S_below Ta1.out B)
    have Ta2 := Aside0.mk (Kd.S_below Ta2.out B)
    have Ta3 := Aside0.mk (Kd.R_below Ta3.out B)
    have Tqa := Aside0.mk (Kd.R_below Tqa.out B)
    have GI := Aside0.mk (below_step GI.out B)
    clear B
    obtain ⟨Au1,cu1,eu1⟩ := Kd.S_slice Tu1.out
    subst eu1
    obtain ⟨Au2,cu2,eu2⟩ := Kd.S_slice Tu2.out
    subst eu2
    obtain ⟨Au3,cu3,eu3⟩ := Kd.R_slice Tu3.out
    subst eu3
    refine hK.out _ _ ⟨(blk_cell (blk_below BA.out (below_step D1.out GI.out)) 0).trans rfl,(blk_cell (blk_below BA.out (below_step D1.out GI.out)) 1).trans rfl,(blk_cell (blk_below BA.out (below_step D1.out GI.out)) 2).trans rfl,(blk_cell (blk_below BA.out (below_step D1.out GI.out)) 3).trans rfl,(blk_cell (blk_below BE.out (below_step D1.out GI.out)) 0).trans rfl,(blk_cell (blk_below BE.out (below_step D1.out GI.out)) 1).trans rfl,(blk_cell (blk_below BE.out (below_step D1.out GI.out)) 2).trans rfl,(blk_cell (blk_below BE.out (below_step D1.out GI.out)) 3).trans rfl⟩ (fun hHeld => ?_)
    clear hK K
    refine nr_ (some 32) _ ?_
    refine pure_ (i := 5) (N := some 27) (v := ?_) (a' := ?_) #[true,true,true,true,true,true,false,false,false,false,false] rfl rfl (by kernel_rfl) (fun _ _ _ h => h) (Or.inl ⟨by rfl,?_⟩) ?_ ?_
    rotate_left
    ·intro w'
     go_simp
     with_reducible rfl
    rotate_left
    ·simp only [Act.put,q1,q2,q3,i64_w,i32_w]
     rfl
    refine pure_ (i := 6) (N := some 33) (v := ?_) (a' := ?_) #[true,true,true,true,true,true,true,false,false,false,false] rfl rfl (by kernel_rfl) (fun _ _ _ h => h) (Or.inl ⟨by rfl,?_⟩) ?_ ?_
    rotate_left
    ·intro w'
     go_simp
     with_reducible rfl
    rotate_left
    ·simp only [Act.put,q1,q2,q3,i64_w,i32_w]
     rfl
    refine pure_ (i := 7) (N := some 34) (v := ?_) (a' := ?_) #[true,true,true,true,true,true,true,true,false,false,false] rfl rfl (by kernel_rfl) (fun _ _ _ h => h) (Or.inl ⟨by rfl,?_⟩) ?_ ?_
    rotate_left
    ·intro w'
     go_simp
     with_reducible rfl
    rotate_left
    ·simp only [Act.put,q1,q2,q3,i64_w,i32_w]
     rfl
    refine one_ (i := 8) (N := some 6) #[true,true,true,true,true,true,true,true,true,false,false] rfl rfl (by kernel_rfl) (by decide) (fun K hK => ?_)
    refine box_step ?hg (N := 6) ?hd (cs := #[.bool false,.slice none 0 0,.slice none 0 0,.slice none 0 0]) (t := 32) ?hr ?_;(case hd => rfl);(case hg => rfl);(case hr => first|(go_simp;done)|(go_simp;rfl))
    intro gn hg wq hbox hb
    have gnE : Aside0 (w2c.heap.size ≤ gn) := ⟨by rw [hg];exact GI.out.size⟩
    have BN := Aside0.mk hbox
    have B := hb
    clear hg hbox hb
    have Tu1 := Aside0.mk (Kd.S_below Tu1.out B)
    have Tu2 := Aside0.mk (Kd.S_below Tu2.out B)
    have Tu3 := Aside0.mk (Kd.R_below Tu3.out B)
    have GI := Aside0.mk (below_step GI.out B)
    clear B
    refine hK.out _ _ ⟨(blk_cell (blk_below BA.out (below_step D1.out GI.out)) 0).trans rfl,(blk_cell (blk_below BA.out (below_step D1.out GI.out)) 1).trans rfl,(blk_cell (blk_below BA.out (below_step D1.out GI.out)) 2).trans rfl,(blk_cell (blk_below BA.out (below_step D1.out GI.out)) 3).trans rfl,(blk_cell (blk_below BE.out (below_step D1.out GI.out)) 0).trans rfl,(blk_cell (blk_below BE.out (below_step D1.out GI.out)) 1).trans rfl,(blk_cell (blk_below BE.out (below_step D1.out GI.out)) 2).trans rfl,(blk_cell (blk_below BE.out (below_step D1.out GI.out)) 3).trans rfl⟩ (fun hHeld => ?_)
    clear hK K
    refine nr_ (some 6) _ ?_
    exact norm_ (by simp only [putAll,Act.put,List.setIfInBounds_toArray,List.set_cons_zero,List.set_cons_succ]) (JT (.slice Aa1 p1.length ca1,.slice Aa2 p2.length ca2,.slice Aa3 p3.length ca3,.slice Ara n3.length cra,.slice Au1 u1.length cu1,.slice Au2 u2.length cu2,.slice Au3 u3.length cu3,gn) _ ⟨GI.out,Tu1.out,Tu2.out,Tu3.out,BN.out,gnE.out⟩)
   ·refine box_step ?hg (N := 6) ?hd (cs := #[.bool false,.slice none 0 0,.slice none 0 0,.slice none 0 0]) (t := 32) ?hr ?_;(case hd => rfl);(case hg => rfl);(case hr => first|(go_simp;done)|(go_simp;rfl))
    intro gn hg wq hbox hb
    have gnE : Aside0 (w2c.heap.size ≤ gn) := ⟨by rw [hg];exact GI.out.size⟩
    have BN := Aside0.mk hbox
    have B := hb
    clear hg hbox hb
    have Ta1 := Aside0.mk (Kd.S_below Ta1.out B)
    have Ta2 := Aside0.mk (Kd.S_below Ta2.out B)
    have Ta3 := Aside0.mk (Kd.R_below Ta3.out B)
    have Tqa := Aside0.mk (Kd.R_below Tqa.out B)
    have GI := Aside0.mk (below_step GI.out B)
    clear B
    refine hK.out _ _ ⟨(blk_cell (blk_below BA.out (below_step D1.out GI.out)) 0).trans rfl,(blk_cell (blk_below BA.out (below_step D1.out GI.out)) 1).trans rfl,(blk_cell (blk_below BA.out (below_step D1.out GI.out)) 2).trans rfl,(blk_cell (blk_below BA.out (below_step D1.out GI.out)) 3).trans rfl,(blk_cell (blk_below BE.out (below_step D1.out GI.out)) 0).trans rfl,(blk_cell (blk_below BE.out (below_step D1.out GI.out)) 1).trans rfl,(blk_cell (blk_below BE.out (below_step D1.out GI.out)) 2).trans rfl,(blk_cell (blk_below BE.out (below_step D1.out GI.out)) 3).trans rfl⟩ (fun hHeld => ?_)
    clear hK K
    refine nr_ (some 6) _ ?_
    exact norm_ (by simp only [putAll,Act.put,List.setIfInBounds_toArray,List.set_cons_zero,List.set_cons_succ]) (J4g (.slice Aa1 p1.length ca1,.slice Aa2 p2.length ca2,.slice Aa3 p3.length ca3,.slice Ara n3.length cra,gn) _ ⟨GI.out,Ta1.out,Ta2.out,Ta3.out,Tqa.out,BN.out,gnE.out⟩)
  refine join_ (σ := Value × Value × Value × Nat) 7 #[true,true,true,false,false,false,false,false,true,false,false] (fun s_ => [(29,.agg #[.bool b,s_.1,s_.2.1,s_.2.2.1]),(6,.pointer (some ⟨s_.2.2.2,0,none⟩))]) (fun s_ w' => Below w2c.heap.size w2c w' ∧ Kd.S k79 79 w' w2c.heap.size (fun _ => True) s_.1 p1 ∧ Kd.S k45 45 w' w2c.heap.size (fun _ => True) s_.2.1 p2 ∧ Kd.R (Kd.int .i64) 2 w' w2c.heap.size (fun _ => True) s_.2.2.1 p3 ∧ w'.heap[s_.2.2.2]? = some (.cells #[.bool false,.slice none 0 0,.slice none 0 0,.slice none 0 0] 32 (0,0)) ∧ w2c.heap.size ≤ s_.2.2.2) (fun s_ w' hF_ => ?_) (fun J3g => ?_)
  ·obtain ⟨ma1,ma2,ma3,gn⟩ := s_
   obtain ⟨g_,ma1_,ma2_,ma3_,bn_,gnE_⟩ := hF_
   refine norm_ (a' := ?_) ?_ ?_
   rotate_left
   ·simp only [putAll,Act.put,List.setIfInBounds_toArray,List.set_cons_zero,List.set_cons_succ]
    rfl
   have GI := Aside0.mk g_
   clear g_
   have BN := Aside0.mk bn_
   have gnE := Aside0.mk gnE_
   clear bn_ gnE_
   have Ta1 := Aside0.mk ma1_
   have Ta2 := Aside0.mk ma2_
   have Ta3 := Aside0.mk ma3_
   clear ma1_ ma2_ ma3_
   obtain ⟨Aa1,ca1,ea1⟩ := Kd.S_slice Ta1.out
   subst ea1
   obtain ⟨Aa2,ca2,ea2⟩ := Kd.S_slice Ta2.out
   subst ea2
   obtain ⟨Aa3,ca3,ea3⟩ := Kd.R_slice Ta3.out
   subst ea3
   refine one_ (i := 3) (N := some 31) #[true,true,true,true,false,false,false,false,true,false,false] rfl rfl (by kernel_rfl) (by decide) (fun K hK => ?_)
   refine goes_ Try.func28 (by kernel_rfl) rfl #[.agg #[.int .i64 a1_0,.int .i64 a1_1,.int .i64 a1_2,.slice A1_3 l1_3.length c1_3]] (by rfl) rfl rfl (by (try simp only [List.map_toArray,List.map_cons,List.map_nil]);first|done|rfl) ?_
   refine (laws_toRecord.calls k a1_0 a1_1 a1_2 A1_3 c1_3 l1_3 n0 n1 n2 n3 _ (Kd.C_below HR4.out (below_step D1.out GI.out)) HC4.out F2.out).mono ?_
   rintro e wq ⟨mra,rfl,S,B⟩
   refine ⟨_,rfl,?_⟩
   have Tqa := Aside0.mk (Kd.R_lower S GI.out.size)
   clear S
   have Ta1 := Aside0.mk (Kd.S_below Ta1.out B)
   have Ta2 := Aside0.mk (Kd.S_below Ta2.out B)
   have Ta3 := Aside0.mk (Kd.R_below Ta3.out B)
   have BN := Aside0.mk (blk_below BN.out B)
   have GI := Aside0.mk (below_step GI.out B)
   clear B
   obtain ⟨Ara,cra,era⟩ := Kd.R_slice Tqa.out
   subst era
   refine hK.out _ _ ⟨(blk_cell (blk_below BA.out (below_step D1.out GI.out)) 0).trans rfl,(blk_cell (blk_below BA.out (below_step D1.out GI.out)) 1).trans rfl,(blk_cell (blk_below BA.out (below_step D1.out GI.out)) 2).trans rfl,(blk_cell (blk_below BA.out (below_step D1.out GI.out)) 3).trans rfl,(blk_cell (blk_below BE.out (below_step D1.out GI.out)) 0).trans rfl,(blk_cell (blk_below BE.out (below_step D1.out GI.out)) 1).trans rfl,(blk_cell (blk_below BE.out (below_step D1.out GI.out)) 2).trans rfl,(blk_cell (blk_below BE.out (below_step D1.out GI.out)) 3).trans rfl⟩ (fun hHeld => ?_)
   clear hK K
   refine nr_ (some 31) _ ?_
   exact norm_ (by simp only [putAll,Act.put,List.setIfInBounds_toArray,List.set_cons_zero,List.set_cons_succ]) (J4g (.slice Aa1 p1.length ca1,.slice Aa2 p2.length ca2,.slice Aa3 p3.length ca3,.slice Ara n3.length cra,gn) _ ⟨GI.out,Ta1.out,Ta2.out,Ta3.out,Tqa.out,BN.out,gnE.out⟩)
  refine join_ (σ := Value × Value × Value) 8 #[true,true,true,false,false,false,false,false,false,false,false] (fun s_ => [(29,.agg #[.bool b,s_.1,s_.2.1,s_.2.2])]) (fun s_ w' => Below w2c.heap.size w2c w' ∧ Kd.S k79 79 w' w2c.heap.size (fun _ => True) s_.1 p1 ∧ Kd.S k45 45 w' w2c.heap.size (fun _ => True) s_.2.1 p2 ∧ Kd.R (Kd.int .i64) 2 w' w2c.heap.size (fun _ => True) s_.2.2 p3) (fun s_ w' hF_ => ?_) (fun J3 => ?_)
  ·obtain ⟨ma1,ma2,ma3⟩ := s_
   obtain ⟨g_,ma1_,ma2_,ma3_⟩ := hF_
   refine norm_ (a' := ?_) ?_ ?_
   rotate_left
   ·simp only [putAll,Act.put,List.setIfInBounds_toArray,List.set_cons_zero,List.set_cons_succ]
    rfl
   have GI := Aside0.mk g_
   clear g_
   have Ta1 := Aside0.mk ma1_
   have Ta2 := Aside0.mk ma2_
   have Ta3 := Aside0.mk ma3_
   clear ma1_ ma2_ ma3_
   obtain ⟨Aa1,ca1,ea1⟩ := Kd.S_slice Ta1.out
   subst ea1
   obtain ⟨Aa2,ca2,ea2⟩ := Kd.S_slice Ta2.out
   subst ea2
   obtain ⟨Aa3,ca3,ea3⟩ := Kd.R_slice Ta3.out
   subst ea3
   refine two_ (i := 3) (j := 8) (Ni := some 31) (Nj := some 6) #[true,true,true,true,false,false,false,false,false,false,false] #[true,true,true,false,false,false,false,false,true,false,false] rfl rfl rfl rfl (by kernel_rfl) (by decide) (by decide) (fun K hK => ?_) (fun K hK => ?_)
   ·refine goes_ Try.func28 (by kernel_rfl) rfl #[.agg #[.int .i64 a1_0,.int .i64 a1_1,.int .i64 a1_2,.slice A1_3 l1_3.length c1_3]] (by rfl) rfl rfl (by (try simp only [List.map_toArray,List.map_cons,List.map_nil]);first|done|rfl) ?_
    refine (laws_toRecord.calls k a1_0 a1_1 a1_2 A1_3 c1_3 l1_3 n0 n1 n2 n3 _ (Kd.C_below HR4.out (below_step D1.out GI.out)) HC4.out F2.out).mono ?_
    rintro e wq ⟨mra,rfl,S,B⟩
    refine ⟨_,rfl,?_⟩
    have Tqa := Aside0.mk (Kd.R_lower S GI.out.size)
    clear S
    have Ta1 := Aside0.mk (Kd.S_below Ta1.out B)
    have Ta2 := Aside0.mk (Kd.S_below Ta2.out B)
    have Ta3 := Aside0.mk (Kd.R_below Ta3.out B)
    have GI := Aside0.mk (below_step GI.out B)
    clear B
    obtain ⟨Ara,cra,era⟩ := Kd.R_slice Tqa.out
    subst era
    refine hK.out _ _ ⟨(blk_cell (blk_below BA.out (below_step D1.out GI.out)) 0).trans rfl,(blk_cell (blk_below BA.out (below_step D1.out GI.out)) 1).trans rfl,(blk_cell (blk_below BA.out (below_step D1.out GI.out)) 2).trans rfl,(blk_cell (blk_below BA.out (below_step D1.out GI.out)) 3).trans rfl,(blk_cell (blk_below BE.out (below_step D1.out GI.out)) 0).trans rfl,(blk_cell (blk_below BE.out (below_step D1.out GI.out)) 1).trans rfl,(blk_cell (blk_below BE.out (below_step D1.out GI.out)) 2).trans rfl,(blk_cell (blk_below BE.out (below_step D1.out GI.out)) 3).trans rfl⟩ (fun hHeld => ?_)
    clear hK K
    refine nr_ (some 31) _ ?_
    exact norm_ (by simp only [putAll,Act.put,List.setIfInBounds_toArray,List.set_cons_zero,List.set_cons_succ]) (J4 (.slice Aa1 p1.length ca1,.slice Aa2 p2.length ca2,.slice Aa3 p3.length ca3,.slice Ara n3.length cra) _ ⟨GI.out,Ta1.out,Ta2.out,Ta3.out,Tqa.out⟩)
   ·refine box_step ?hg (N := 6) ?hd (cs := #[.bool false,.slice none 0 0,.slice none 0 0,.slice none 0 0]) (t := 32) ?hr ?_;(case hd => rfl);(case hg => rfl);(case hr => first|(go_simp;done)|(go_simp;rfl))
    intro gn hg wq hbox hb
    have gnE : Aside0 (w2c.heap.size ≤ gn) := ⟨by rw [hg];exact GI.out.size⟩
    have BN := Aside0.mk hbox
    have B := hb
    clear hg hbox hb
    have Ta1 := Aside0.mk (Kd.S_below Ta1.out B)
    have Ta2 := Aside0.mk (Kd.S_below Ta2.out B)
    have Ta3 := Aside0.mk (Kd.R_below Ta3.out B)
    have GI := Aside0.mk (below_step GI.out B)
    clear B
    refine hK.out _ _ ⟨(blk_cell (blk_below BA.out (below_step D1.out GI.out)) 0).trans rfl,(blk_cell (blk_below BA.out (below_step D1.out GI.out)) 1).trans rfl,(blk_cell (blk_below BA.out (below_step D1.out GI.out)) 2).trans rfl,(blk_cell (blk_below BA.out (below_step D1.out GI.out)) 3).trans rfl,(blk_cell (blk_below BE.out (below_step D1.out GI.out)) 0).trans rfl,(blk_cell (blk_below BE.out (below_step D1.out GI.out)) 1).trans rfl,(blk_cell (blk_below BE.out (below_step D1.out GI.out)) 2).trans rfl,(blk_cell (blk_below BE.out (below_step D1.out GI.out)) 3).trans rfl⟩ (fun hHeld => ?_)
    clear hK K
    refine nr_ (some 6) _ ?_
    exact norm_ (by simp only [putAll,Act.put,List.setIfInBounds_toArray,List.set_cons_zero,List.set_cons_succ]) (J3g (.slice Aa1 p1.length ca1,.slice Aa2 p2.length ca2,.slice Aa3 p3.length ca3,gn) _ ⟨GI.out,Ta1.out,Ta2.out,Ta3.out,BN.out,gnE.out⟩)
  refine two_ (i := 1) (j := 8) (Ni := some 29) (Nj := some 6) #[true,true,true,false,false,false,false,false,false,false,false] #[true,false,true,false,false,false,false,false,true,false,false] rfl rfl rfl rfl (by kernel_rfl) (by decide) (by decide) (fun K hK => ?_) (fun K hK => ?_)
  ·refine goes_ Try.func12 (by kernel_rfl) rfl #[.agg #[.bool a0_0,.slice A0_1 l0_1.length c0_1,.slice A0_2 l0_2.length c0_2,.slice A0_3 l0_3.length c0_3]] (by rfl) rfl rfl (by (try simp only [List.map_toArray,List.map_cons,List.map_nil]);first|done|rfl) ?_
   refine (laws_toMachine.calls k a0_0 A0_1 c0_1 l0_1 A0_2 c0_2 l0_2 A0_3 c0_3 l0_3 b p1 p2 p3 _ (Kd.C_below HR1.out (below_step D1.out GI.out)) HC1.out (Kd.C_below HR2.out (below_step D1.out GI.out)) HC2.out (Kd.C_below HR3.out (below_step D1.out GI.out)) HC3.out F1.out).mono ?_
   rintro e wq ⟨ma1,ma2,ma3,rfl,S1,S2,S3,B⟩
   refine ⟨_,rfl,?_⟩
   have Ta1 := Aside0.mk (Kd.S_lower S1 GI.out.size)
   have Ta2 := Aside0.mk (Kd.S_lower S2 GI.out.size)
   have Ta3 := Aside0.mk (Kd.R_lower S3 GI.out.size)
   clear S1 S2 S3
   have GI := Aside0.mk (below_step GI.out B)
   clear B
   obtain ⟨Aa1,ca1,ea1⟩ := Kd.S_slice Ta1.out
   subst ea1
   obtain ⟨Aa2,ca2,ea2⟩ := Kd.S_slice Ta2.out
   subst ea2
   obtain ⟨Aa3,ca3,ea3⟩ := Kd.R_slice Ta3.out
   subst ea3
   refine hK.out _ _ ⟨(blk_cell (blk_below BA.out (below_step D1.out GI.out)) 0).trans rfl,(blk_cell (blk_below BA.out (below_step D1.out GI.out)) 1).trans rfl,(blk_cell (blk_below BA.out (below_step D1.out GI.out)) 2).trans rfl,(blk_cell (blk_below BA.out (below_step D1.out GI.out)) 3).trans rfl,(blk_cell (blk_below BE.out (below_step D1.out GI.out)) 0).trans rfl,(blk_cell (blk_below BE.out (below_step D1.out GI.out)) 1).trans rfl,(blk_cell (blk_below BE.out (below_step D1.out GI.out)) 2).trans rfl,(blk_cell (blk_below BE.out (below_step D1.out GI.out)) 3).trans rfl⟩ (fun hHeld => ?_)
   clear hK K
   refine nr_ (some 29) _ ?_
   exact norm_ (by simp only [putAll,Act.put,List.setIfInBounds_toArray,List.set_cons_zero,List.set_cons_succ]) (J3 (.slice Aa1 p1.length ca1,.slice Aa2 p2.length ca2,.slice Aa3 p3.length ca3) _ ⟨GI.out,Ta1.out,Ta2.out,Ta3.out⟩)
  ·refine box_step ?hg (N := 6) ?hd (cs := #[.bool false,.slice none 0 0,.slice none 0 0,.slice none 0 0]) (t := 32) ?hr ?_;(case hd => rfl);(case hg => rfl);(case hr => first|(go_simp;done)|(go_simp;rfl))
   intro gn hg wq hbox hb
   have gnE : Aside0 (w2c.heap.size ≤ gn) := ⟨by rw [hg];exact GI.out.size⟩
   have BN := Aside0.mk hbox
   have B := hb
   clear hg hbox hb
   have GI := Aside0.mk (below_step GI.out B)
   clear B
   refine hK.out _ _ ⟨(blk_cell (blk_below BA.out (below_step D1.out GI.out)) 0).trans rfl,(blk_cell (blk_below BA.out (below_step D1.out GI.out)) 1).trans rfl,(blk_cell (blk_below BA.out (below_step D1.out GI.out)) 2).trans rfl,(blk_cell (blk_below BA.out (below_step D1.out GI.out)) 3).trans rfl,(blk_cell (blk_below BE.out (below_step D1.out GI.out)) 0).trans rfl,(blk_cell (blk_below BE.out (below_step D1.out GI.out)) 1).trans rfl,(blk_cell (blk_below BE.out (below_step D1.out GI.out)) 2).trans rfl,(blk_cell (blk_below BE.out (below_step D1.out GI.out)) 3).trans rfl⟩ (fun hHeld => ?_)
   clear hK K
   refine nr_ (some 6) _ ?_
   refine one_ (i := 1) (N := some 29) #[true,true,true,false,false,false,false,false,true,false,false] rfl rfl (by kernel_rfl) (by decide) (fun K hK => ?_)
   refine goes_ Try.func12 (by kernel_rfl) rfl #[.agg #[.bool a0_0,.slice A0_1 l0_1.length c0_1,.slice A0_2 l0_2.length c0_2,.slice A0_3 l0_3.length c0_3]] (by rfl) rfl rfl (by (try simp only [List.map_toArray,List.map_cons,List.map_nil]);first|done|rfl) ?_
   refine (laws_toMachine.calls k a0_0 A0_1 c0_1 l0_1 A0_2 c0_2 l0_2 A0_3 c0_3 l0_3 b p1 p2 p3 _ (Kd.C_below HR1.out (below_step D1.out GI.out)) HC1.out (Kd.C_below HR2.out (below_step D1.out GI.out)) HC2.out (Kd.C_below HR3.out (below_step D1.out GI.out)) HC3.out F1.out).mono ?_
   rintro e wq ⟨ma1,ma2,ma3,rfl,S1,S2,S3,B⟩
   refine ⟨_,rfl,?_⟩
   have Ta1 := Aside0.mk (Kd.S_lower S1 GI.out.size)
   have Ta2 := Aside0.mk (Kd.S_lower S2 GI.out.size)
   have Ta3 := Aside0.mk (Kd.R_lower S3 GI.out.size)
   clear S1 S2 S3
   have BN := Aside0.mk (blk_below BN.out B)
   have GI := Aside0.mk (below_step GI.out B)
   clear B
   obtain ⟨Aa1,ca1,ea1⟩ := Kd.S_slice Ta1.out
   subst ea1
   obtain ⟨Aa2,ca2,ea2⟩ := Kd.S_slice Ta2.out
   subst ea2
   obtain ⟨Aa3,ca3,ea3⟩ := Kd.R_slice Ta3.out
   subst ea3
   refine hK.out _ _ ⟨(blk_cell (blk_below BA.out (below_step D1.out GI.out)) 0).trans rfl,(blk_cell (blk_below BA.out (below_step D1.out GI.out)) 1).trans rfl,(blk_cell (blk_below BA.out (below_step D1.out GI.out)) 2).trans rfl,(blk_cell (blk_below BA.out (below_step D1.out GI.out)) 3).trans rfl,(blk_cell (blk_below BE.out (below_step D1.out GI.out)) 0).trans rfl,(blk_cell (blk_below BE.out (below_step D1.out GI.out)) 1).trans rfl,(blk_cell (blk_below BE.out (below_step D1.out GI.out)) 2).trans rfl,(blk_cell (blk_below BE.out (below_step D1.out GI.out)) 3).trans rfl⟩ (fun hHeld => ?_)
   clear hK K
   refine nr_ (some 29) _ ?_
   exact norm_ (by simp only [putAll,Act.put,List.setIfInBounds_toArray,List.set_cons_zero,List.set_cons_succ]) (J3g (.slice Aa1 p1.length ca1,.slice Aa2 p2.length ca2,.slice Aa3 p3.length ca3,gn) _ ⟨GI.out,Ta1.out,Ta2.out,Ta3.out,BN.out,gnE.out⟩)
 obtain ⟨ma1,ma2,ma3,mra,mu1,mu2,mu3,gw⟩ := s_
 obtain ⟨g_,mu1_,mu2_,mu3_,bn_,gnE_⟩ := hF_
 refine norm_ (a' := ?_) ?_ ?_
 rotate_left
 ·simp only [putAll,Act.put,List.setIfInBounds_toArray,List.set_cons_zero,List.set_cons_succ]
  rfl
 have GI := Aside0.mk g_
 have BN := Aside0.mk bn_
 have GN := Aside0.mk gnE_
 clear g_ bn_ gnE_
 have Tu1 := Aside0.mk mu1_
 have Tu2 := Aside0.mk mu2_
 have Tu3 := Aside0.mk mu3_
 clear mu1_ mu2_ mu3_
 obtain ⟨Au1,cu1,eu1⟩ := Kd.S_slice Tu1.out
 subst eu1
 obtain ⟨Au2,cu2,eu2⟩ := Kd.S_slice Tu2.out
 subst eu2
 obtain ⟨Au3,cu3,eu3⟩ := Kd.R_slice Tu3.out
 subst eu3
 have hcgwn_0 : wq.cell? ⟨gw,0,none⟩ = some (.bool false) := (blk_cell BN.out 0).trans rfl
 have hcgwn_1 : wq.cell? ⟨gw,1,none⟩ = some (.slice none 0 0) := (blk_cell BN.out 1).trans rfl
 have hcgwn_2 : wq.cell? ⟨gw,2,none⟩ = some (.slice none 0 0) := (blk_cell BN.out 2).trans rfl
 have hcgwn_3 : wq.cell? ⟨gw,3,none⟩ = some (.slice none 0 0) := (blk_cell BN.out 3).trans rfl
 have hfn_0 := blk_frozen BN.out 0
 have hfn_1 := blk_frozen BN.out 1
 have hfn_2 := blk_frozen BN.out 2
 have hfn_3 := blk_frozen BN.out 3
 refine last_ (i := 9) (N := none) #[true,true,true,true,true,true,true,true,true,true,false] rfl rfl (by kernel_rfl) (by decide) (fun K hK => ?_)
 refine skip_ (w1 := ((((wq.setCell ⟨gw,0,none⟩ (.bool ub)).setCell ⟨gw,1,none⟩ (.slice Au1 u1.length cu1)).setCell ⟨gw,2,none⟩ (.slice Au2 u2.length cu2)).setCell ⟨gw,3,none⟩ (.slice Au3 u3.length cu3))) (by rfl) rfl ?_ ?_
 ·first|(go_simp;done)|(go_simp;rfl)|(go_simp;simp)
 refine hK.out _ _ ?_
 clear hK K
 refine pure_ (i := 10) (N := some 7) (v := ?_) (a' := ?_) #[true,true,true,true,true,true,true,true,true,true,true] rfl rfl (by kernel_rfl) (fun _ _ _ h => h) (Or.inl ⟨by rfl,?_⟩) ?_ ?_
 rotate_left
 ·intro w'
  go_simp
  with_reducible rfl
 rotate_left
 ·simp only [Act.put,q1,q2,q3,i64_w,i32_w]
  rfl
 refine done_ (by kernel_rfl) ?_
 clear hcgwn_0 hfn_0 hcgwn_1 hfn_1 hcgwn_2 hfn_2 hcgwn_3 hfn_3
 have n1_ := Aside0.mk (Kd.S_mono (Kd.S_far (p := ⟨gw,3,none⟩) (Kd.S_far (p := ⟨gw,2,none⟩) (Kd.S_far (p := ⟨gw,1,none⟩) (Kd.S_far (p := ⟨gw,0,none⟩) (Kd.S_types Tu1.out BN.out (by decide)) (fun _ h_ => h_.2) (.bool ub)) (fun _ h_ => h_.2) (.slice Au1 u1.length cu1)) (fun _ h_ => h_.2) (.slice Au2 u2.length cu2)) (fun _ h_ => h_.2) (.slice Au3 u3.length cu3)) (fun _ _ => trivial))
 have n2_ := Aside0.mk (Kd.S_mono (Kd.S_far (p := ⟨gw,3,none⟩) (Kd.S_far (p := ⟨gw,2,none⟩) (Kd.S_far (p := ⟨gw,1,none⟩) (Kd.S_far (p := ⟨gw,0,none⟩) (Kd.S_types Tu2.out BN.out (by decide)) (fun _ h_ => h_.2) (.bool ub)) (fun _ h_ => h_.2) (.slice Au1 u1.length cu1)) (fun _ h_ => h_.2) (.slice Au2 u2.length cu2)) (fun _ h_ => h_.2) (.slice Au3 u3.length cu3)) (fun _ _ => trivial))
 have n3_ := Aside0.mk (Kd.R_mono (Kd.R_far (p := ⟨gw,3,none⟩) (Kd.R_far (p := ⟨gw,2,none⟩) (Kd.R_far (p := ⟨gw,1,none⟩) (Kd.R_far (p := ⟨gw,0,none⟩) (Kd.R_types Tu3.out BN.out (by decide)) (fun _ h_ => h_.2) (.bool ub)) (fun _ h_ => h_.2) (.slice Au1 u1.length cu1)) (fun _ h_ => h_.2) (.slice Au2 u2.length cu2)) (fun _ h_ => h_.2) (.slice Au3 u3.length cu3)) (fun _ _ => trivial))
 have n4_ : Aside0 (((((wq.setCell ⟨gw,0,none⟩ (.bool ub)).setCell ⟨gw,1,none⟩ (.slice Au1 u1.length cu1)).setCell ⟨gw,2,none⟩ (.slice Au2 u2.length cu2)).setCell ⟨gw,3,none⟩ (.slice Au3 u3.length cu3)).heap[gw]? = some (.cells #[.bool ub,.slice Au1 u1.length cu1,.slice Au2 u2.length cu2,.slice Au3 u3.length cu3] 32 (0,0))) := ⟨by refine blk_put (cs := #[.bool ub,.slice Au1 u1.length cu1,.slice Au2 u2.length cu2,.slice none 0 0]) ?_ 3 _ rfl;refine blk_put (cs := #[.bool ub,.slice Au1 u1.length cu1,.slice none 0 0,.slice none 0 0]) ?_ 2 _ rfl;refine blk_put (cs := #[.bool ub,.slice none 0 0,.slice none 0 0,.slice none 0 0]) ?_ 1 _ rfl;refine blk_put (cs := #[.bool false,.slice none 0 0,.slice none 0 0,.slice none 0 0]) ?_ 0 _ rfl;exact BN.out⟩
 have n5_ : Aside0 (Below w2c.heap.size w2c ((((wq.setCell ⟨gw,0,none⟩ (.bool ub)).setCell ⟨gw,1,none⟩ (.slice Au1 u1.length cu1)).setCell ⟨gw,2,none⟩ (.slice Au2 u2.length cu2)).setCell ⟨gw,3,none⟩ (.slice Au3 u3.length cu3))) := ⟨below_set (below_set (below_set (below_set GI.out GN.out) GN.out) GN.out) GN.out⟩
 clear BN GI hHeld Tu1 Tu2 Tu3
 generalize ((((wq.setCell ⟨gw,0,none⟩ (.bool ub)).setCell ⟨gw,1,none⟩ (.slice Au1 u1.length cu1)).setCell ⟨gw,2,none⟩ (.slice Au2 u2.length cu2)).setCell ⟨gw,3,none⟩ (.slice Au3 u3.length cu3)) = w3b at n1_ n2_ n3_ n4_ n5_ ⊢
 have Tu1 := n1_
 have Tu2 := n2_
 have Tu3 := n3_
 have BW := n4_
 have B := n5_.out
 have GNgw := GN
 clear n1_ n2_ n3_ n4_ n5_ GN
 have D3 := Aside0.mk (below_step D1.out B)
 clear B
 have hcga3_0 : w3b.cell? ⟨ga,0,none⟩ = some (.bool a0_0) := (blk_cell (blk_below BA.out D3.out) 0).trans rfl
 have hcga3_1 : w3b.cell? ⟨ga,1,none⟩ = some (.slice A0_1 l0_1.length c0_1) := (blk_cell (blk_below BA.out D3.out) 1).trans rfl
 have hcga3_2 : w3b.cell? ⟨ga,2,none⟩ = some (.slice A0_2 l0_2.length c0_2) := (blk_cell (blk_below BA.out D3.out) 2).trans rfl
 have hcga3_3 : w3b.cell? ⟨ga,3,none⟩ = some (.slice A0_3 l0_3.length c0_3) := (blk_cell (blk_below BA.out D3.out) 3).trans rfl
 go_wp2_with ((with_reducible refine gcal_ (f := 12) rfl ?_);refine goesL_ (some 36) rfl rfl Try.func12 (by kernel_rfl) rfl #[.agg #[.bool a0_0,.slice A0_1 l0_1.length c0_1,.slice A0_2 l0_2.length c0_2,.slice A0_3 l0_3.length c0_3]] rfl (by (try simp only [List.map_toArray,List.map_cons,List.map_nil]);first|done|rfl) ?_;refine (laws_toMachine.calls k a0_0 A0_1 c0_1 l0_1 A0_2 c0_2 l0_2 A0_3 c0_3 l0_3 b p1 p2 p3 _ (Kd.C_below HR1.out D3.out) HC1.out (Kd.C_below HR2.out D3.out) HC2.out (Kd.C_below HR3.out D3.out) HC3.out F1.out).mono ?_;rintro e w4 ⟨vx1,vx2,vx3,rfl,S1,S2,S3,B⟩;refine ⟨_,rfl,?_⟩;refine hold_6 ?_)
 refine ⟨?_⟩
 have Tx1 := Aside0.mk S1
 have Tx2 := Aside0.mk S2
 have Tx3 := Aside0.mk S3
 clear S1 S2 S3
 have G := Aside0.mk B
 clear B
 obtain ⟨Ax1,cx1,ex1⟩ := Kd.S_slice Tx1.out
 subst ex1
 obtain ⟨Ax2,cx2,ex2⟩ := Kd.S_slice Tx2.out
 subst ex2
 obtain ⟨Ax3,cx3,ex3⟩ := Kd.R_slice Tx3.out
 subst ex3
 go_wp2_with ((with_reducible refine gate_dst (N := 8) rfl ?_);refine bx_ 8 #[.bool false,.slice none 0 0,.slice none 0 0,.slice none 0 0] 32 ?_;intro gx hg wc hbox hb;have hge := Aside0.mk (Nat.le_of_eq hg.symm);clear hg;refine hold_6 ?_)
 refine ⟨?_⟩
 have BZ := Aside0.mk hbox
 have Q0 := Aside0.mk hb
 have HGE := hge
 clear hbox hb hge
 have hcgxy_0 : wc.cell? ⟨gx,0,none⟩ = some (.bool false) := (blk_cell BZ.out 0).trans rfl
 have hcgxy_1 : wc.cell? ⟨gx,1,none⟩ = some (.slice none 0 0) := (blk_cell BZ.out 1).trans rfl
 have hcgxy_2 : wc.cell? ⟨gx,2,none⟩ = some (.slice none 0 0) := (blk_cell BZ.out 2).trans rfl
 have hcgxy_3 : wc.cell? ⟨gx,3,none⟩ = some (.slice none 0 0) := (blk_cell BZ.out 3).trans rfl
 have hfy_0 := blk_frozen BZ.out 0
 have hfy_1 := blk_frozen BZ.out 1
 have hfy_2 := blk_frozen BZ.out 2
 have hfy_3 := blk_frozen BZ.out 3
 go_upto_region 10 with (fail)
 have n0_ : Aside0 (Below w4.heap.size w4 ((((wc.setCell ⟨gx,0,none⟩ (.bool b)).setCell ⟨gx,1,none⟩ (.slice Ax1 p1.length cx1)).setCell ⟨gx,2,none⟩ (.slice Ax2 p2.length cx2)).setCell ⟨gx,3,none⟩ (.slice Ax3 p3.length cx3))) := ⟨below_set (below_set (below_set (below_set Q0.out HGE.out) HGE.out) HGE.out) HGE.out⟩
 have n1_ : Aside0 (((((wc.setCell ⟨gx,0,none⟩ (.bool b)).setCell ⟨gx,1,none⟩ (.slice Ax1 p1.length cx1)).setCell ⟨gx,2,none⟩ (.slice Ax2 p2.length cx2)).setCell ⟨gx,3,none⟩ (.slice Ax3 p3.length cx3)).heap[gx]? = some (.cells #[.bool b,.slice Ax1 p1.length cx1,.slice Ax2 p2.length cx2,.slice Ax3 p3.length cx3] 32 (0,0))) := ⟨by refine blk_put (cs := #[.bool b,.slice Ax1 p1.length cx1,.slice Ax2 p2.length cx2,.slice none 0 0]) ?_ 3 _ rfl;refine blk_put (cs := #[.bool b,.slice Ax1 p1.length cx1,.slice none 0 0,.slice none 0 0]) ?_ 2 _ rfl;refine blk_put (cs := #[.bool b,.slice none 0 0,.slice none 0 0,.slice none 0 0]) ?_ 1 _ rfl;refine blk_put (cs := #[.bool false,.slice none 0 0,.slice none 0 0,.slice none 0 0]) ?_ 0 _ rfl;exact BZ.out⟩
 clear BZ Q0
 clear hcgxy_0 hfy_0 hcgxy_1 hfy_1 hcgxy_2 hfy_2 hcgxy_3 hfy_3
 generalize ((((wc.setCell ⟨gx,0,none⟩ (.bool b)).setCell ⟨gx,1,none⟩ (.slice Ax1 p1.length cx1)).setCell ⟨gx,2,none⟩ (.slice Ax2 p2.length cx2)).setCell ⟨gx,3,none⟩ (.slice Ax3 p3.length cx3)) = w4c at n0_ n1_ ⊢
 have B := n0_.out
 have BX := n1_
 clear n0_ n1_
 have Tx1 := Aside0.mk (Kd.S_mono (ok' := fun k_ => True ∧ k_ < w4.heap.size) (Kd.S_below (Kd.S_bound Tx1.out) B) (fun _ h_ => ⟨h_.1,h_.2.2.1⟩))
 have Tx2 := Aside0.mk (Kd.S_mono (ok' := fun k_ => True ∧ k_ < w4.heap.size) (Kd.S_below (Kd.S_bound Tx2.out) B) (fun _ h_ => ⟨h_.1,h_.2.2.1⟩))
 have Tx3 := Aside0.mk (Kd.R_mono (ok' := fun k_ => True ∧ k_ < w4.heap.size) (Kd.R_below (Kd.R_bound Tx3.out) B) (fun _ h_ => ⟨h_.1,h_.2.2.1⟩))
 have Z44 := Aside0.mk B.size
 have G := Aside0.mk (below_step G.out B)
 have Z4 := Aside0.mk G.out.size
 have D4 := Aside0.mk (below_step D3.out G.out)
 have hcge4_0 : w4c.cell? ⟨ge,0,none⟩ = some (.int .i64 a1_0) := (blk_cell (blk_below BE.out D4.out) 0).trans rfl
 have hcge4_1 : w4c.cell? ⟨ge,1,none⟩ = some (.int .i64 a1_1) := (blk_cell (blk_below BE.out D4.out) 1).trans rfl
 have hcge4_2 : w4c.cell? ⟨ge,2,none⟩ = some (.int .i64 a1_2) := (blk_cell (blk_below BE.out D4.out) 2).trans rfl
 have hcge4_3 : w4c.cell? ⟨ge,3,none⟩ = some (.slice A1_3 l1_3.length c1_3) := (blk_cell (blk_below BE.out D4.out) 3).trans rfl
 clear B
 go_wp2_with ((with_reducible refine gcal_ (f := 28) rfl ?_);refine goesL_ (some 38) rfl rfl Try.func28 (by kernel_rfl) rfl #[.agg #[.int .i64 a1_0,.int .i64 a1_1,.int .i64 a1_2,.slice A1_3 l1_3.length c1_3]] rfl (by (try simp only [List.map_toArray,List.map_cons,List.map_nil]);first|done|rfl) ?_;refine (laws_toRecord.calls k a1_0 a1_1 a1_2 A1_3 c1_3 l1_3 n0 n1 n2 n3 _ (Kd.C_below HR4.out D4.out) HC4.out F2.out).mono ?_;rintro e w5 ⟨vry,rfl,S,B⟩;refine ⟨_,rfl,?_⟩;refine hold_6 ?_)
 refine ⟨?_⟩
 have Tqy := Aside0.mk S
 have Z45 := Aside0.mk (Nat.le_trans Z44.out B.size)
 have Tx1 := Aside0.mk (Kd.S_below Tx1.out B)
 have Tx2 := Aside0.mk (Kd.S_below Tx2.out B)
 have Tx3 := Aside0.mk (Kd.R_below Tx3.out B)
 have G := Aside0.mk (below_step G.out B)
 have BX := Aside0.mk (blk_below BX.out B)
 clear S B
 obtain ⟨Ary,cry,ery⟩ := Kd.R_slice Tqy.out
 subst ery
 go_wp2_with ((with_reducible refine gate_dst (N := 9) rfl ?_);refine bx_ 9 #[.int .i64 0,.int .i64 0,.int .i64 0,.slice none 0 0] 45 ?_;intro gy hg wd hbox hb;have hge := Aside0.mk (Nat.le_of_eq hg.symm);clear hg;refine hold_6 ?_)
 refine ⟨?_⟩
 have BZ := Aside0.mk hbox
 have Q0 := Aside0.mk hb
 have HGE := hge
 clear hbox hb hge
 have hcgyy_0 : wd.cell? ⟨gy,0,none⟩ = some (.int .i64 0) := (blk_cell BZ.out 0).trans rfl
 have hcgyy_1 : wd.cell? ⟨gy,1,none⟩ = some (.int .i64 0) := (blk_cell BZ.out 1).trans rfl
 have hcgyy_2 : wd.cell? ⟨gy,2,none⟩ = some (.int .i64 0) := (blk_cell BZ.out 2).trans rfl
 have hcgyy_3 : wd.cell? ⟨gy,3,none⟩ = some (.slice none 0 0) := (blk_cell BZ.out 3).trans rfl
 have hfy_0 := blk_frozen BZ.out 0
 have hfy_1 := blk_frozen BZ.out 1
 have hfy_2 := blk_frozen BZ.out 2
 have hfy_3 := blk_frozen BZ.out 3
 go_upto_region 11 with (fail)
 have n0_ : Aside0 (Below w5.heap.size w5 ((((wd.setCell ⟨gy,0,none⟩ (.int .i64 n0)).setCell ⟨gy,1,none⟩ (.int .i64 n1)).setCell ⟨gy,2,none⟩ (.int .i64 n2)).setCell ⟨gy,3,none⟩ (.slice Ary n3.length cry))) := ⟨below_set (below_set (below_set (below_set Q0.out HGE.out) HGE.out) HGE.out) HGE.out⟩
 have n1_ : Aside0 (((((wd.setCell ⟨gy,0,none⟩ (.int .i64 n0)).setCell ⟨gy,1,none⟩ (.int .i64 n1)).setCell ⟨gy,2,none⟩ (.int .i64 n2)).setCell ⟨gy,3,none⟩ (.slice Ary n3.length cry)).heap[gy]? = some (.cells #[.int .i64 n0,.int .i64 n1,.int .i64 n2,.slice Ary n3.length cry] 45 (0,0))) := ⟨by refine blk_put (cs := #[.int .i64 n0,.int .i64 n1,.int .i64 n2,.slice none 0 0]) ?_ 3 _ rfl;refine blk_put (cs := #[.int .i64 n0,.int .i64 n1,.int .i64 0,.slice none 0 0]) ?_ 2 _ rfl;refine blk_put (cs := #[.int .i64 n0,.int .i64 0,.int .i64 0,.slice none 0 0]) ?_ 1 _ rfl;refine blk_put (cs := #[.int .i64 0,.int .i64 0,.int .i64 0,.slice none 0 0]) ?_ 0 _ rfl;exact BZ.out⟩
 clear BZ Q0
 clear hcgyy_0 hfy_0 hcgyy_1 hfy_1 hcgyy_2 hfy_2 hcgyy_3 hfy_3
 generalize ((((wd.setCell ⟨gy,0,none⟩ (.int .i64 n0)).setCell ⟨gy,1,none⟩ (.int .i64 n1)).setCell ⟨gy,2,none⟩ (.int .i64 n2)).setCell ⟨gy,3,none⟩ (.slice Ary n3.length cry)) = w5c at n0_ n1_ ⊢
 have B := n0_.out
 have BY := n1_
 clear n0_ n1_
 have Tx1 := Aside0.mk (Kd.S_below Tx1.out B)
 have Tx2 := Aside0.mk (Kd.S_below Tx2.out B)
 have Tx3 := Aside0.mk (Kd.R_below Tx3.out B)
 have Tqy := Aside0.mk (Kd.R_mono (ok' := fun k_ => w4c.heap.size ≤ k_ ∧ k_ < w5.heap.size) (Kd.R_below (Kd.R_bound Tqy.out) B) (fun _ h_ => ⟨h_.2.1,h_.2.2.1⟩))
 have GY4 := Aside0.mk (Nat.le_trans Z45.out HGE.out)
 have Z5 := Aside0.mk B.size
 have G := Aside0.mk (below_step G.out B)
 have Z6 := Aside0.mk G.out.size
 have BX := Aside0.mk (blk_below BX.out B)
 have hcgx5_0 : w5c.cell? ⟨gx,0,none⟩ = some (.bool b) := (blk_cell BX.out 0).trans rfl
 have hcgx5_1 : w5c.cell? ⟨gx,1,none⟩ = some (.slice Ax1 p1.length cx1) := (blk_cell BX.out 1).trans rfl
 have hcgx5_2 : w5c.cell? ⟨gx,2,none⟩ = some (.slice Ax2 p2.length cx2) := (blk_cell BX.out 2).trans rfl
 have hcgx5_3 : w5c.cell? ⟨gx,3,none⟩ = some (.slice Ax3 p3.length cx3) := (blk_cell BX.out 3).trans rfl
 have hcgy6_0 : w5c.cell? ⟨gy,0,none⟩ = some (.int .i64 n0) := (blk_cell BY.out 0).trans rfl
 have hcgy6_1 : w5c.cell? ⟨gy,1,none⟩ = some (.int .i64 n1) := (blk_cell BY.out 1).trans rfl
 have hcgy6_2 : w5c.cell? ⟨gy,2,none⟩ = some (.int .i64 n2) := (blk_cell BY.out 2).trans rfl
 have hcgy6_3 : w5c.cell? ⟨gy,3,none⟩ = some (.slice Ary n3.length cry) := (blk_cell BY.out 3).trans rfl
 clear B
 go_wp2_with ((with_reducible refine gcal_ (f := 29) rfl ?_);refine goesL_ (some 42) rfl rfl Try.func29 (by kernel_rfl) rfl #[.agg #[.bool b,.slice Ax1 p1.length cx1,.slice Ax2 p2.length cx2,.slice Ax3 p3.length cx3],.agg #[.int .i64 n0,.int .i64 n1,.int .i64 n2,.slice Ary n3.length cry]] rfl (by (try simp only [List.map_toArray,List.map_cons,List.map_nil]);first|done|rfl) ?_;refine (impl_Append.calls k b Ax1 cx1 p1 Ax2 cx2 p2 Ax3 cx3 p3 n0 n1 n2 Ary cry n3 vb v1 v2 v3 v4 _ (Kd.S_reads' Tx1.out).2.2 (Kd.S_reads' Tx1.out).2.1 (Kd.S_reads' Tx2.out).2.2 (Kd.S_reads' Tx2.out).2.1 (Kd.R_reads' Tx3.out).2.2 (Kd.R_reads' Tx3.out).2.1 (Kd.R_reads' Tqy.out).2.2 (Kd.R_reads' Tqy.out).2.1 F4.out).mono ?_;rintro e w6 ⟨vv1,vv2,vv3,rfl,S1,S2,S3,B⟩;refine ⟨_,rfl,?_⟩;refine hold_6 ?_)
 refine ⟨?_⟩
 have Tv1 := Aside0.mk S1
 have Tv2 := Aside0.mk S2
 have Tv3 := Aside0.mk S3
 clear S1 S2 S3
 have Tx1 := Aside0.mk (Kd.S_below Tx1.out B)
 have Tx2 := Aside0.mk (Kd.S_below Tx2.out B)
 have Tx3 := Aside0.mk (Kd.R_below Tx3.out B)
 have Tqy := Aside0.mk (Kd.R_below Tqy.out B)
 have G := Aside0.mk (below_step G.out B)
 have BX := Aside0.mk (blk_below BX.out B)
 have BY := Aside0.mk (blk_below BY.out B)
 have Z56 := Aside0.mk (Nat.le_trans Z5.out B.size)
 clear B
 obtain ⟨Av1,cv1,ev1⟩ := Kd.S_slice Tv1.out
 subst ev1
 obtain ⟨Av2,cv2,ev2⟩ := Kd.S_slice Tv2.out
 subst ev2
 obtain ⟨Av3,cv3,ev3⟩ := Kd.R_slice Tv3.out
 subst ev3
 go_wp2_with ((with_reducible refine gate_dst (N := 10) rfl ?_);refine bx_ 10 #[.bool false,.slice none 0 0,.slice none 0 0,.slice none 0 0] 32 ?_;intro gg hg we hbox hb;have hge := Aside0.mk (Nat.le_of_eq hg.symm);clear hg;refine hold_6 ?_)
 refine ⟨?_⟩
 have BZ := Aside0.mk hbox
 have Q0 := Aside0.mk hb
 have HGE := hge
 clear hbox hb hge
 have hcggy_0 : we.cell? ⟨gg,0,none⟩ = some (.bool false) := (blk_cell BZ.out 0).trans rfl
 have hcggy_1 : we.cell? ⟨gg,1,none⟩ = some (.slice none 0 0) := (blk_cell BZ.out 1).trans rfl
 have hcggy_2 : we.cell? ⟨gg,2,none⟩ = some (.slice none 0 0) := (blk_cell BZ.out 2).trans rfl
 have hcggy_3 : we.cell? ⟨gg,3,none⟩ = some (.slice none 0 0) := (blk_cell BZ.out 3).trans rfl
 have hfy_0 := blk_frozen BZ.out 0
 have hfy_1 := blk_frozen BZ.out 1
 have hfy_2 := blk_frozen BZ.out 2
 have hfy_3 := blk_frozen BZ.out 3
 go_upto_region 12 with (fail)
 have n0_ : Aside0 (Below w6.heap.size w6 ((((we.setCell ⟨gg,0,none⟩ (.bool vb)).setCell ⟨gg,1,none⟩ (.slice Av1 v1.length cv1)).setCell ⟨gg,2,none⟩ (.slice Av2 v2.length cv2)).setCell ⟨gg,3,none⟩ (.slice Av3 v3.length cv3))) := ⟨below_set (below_set (below_set (below_set Q0.out HGE.out) HGE.out) HGE.out) HGE.out⟩
 have n1_ : Aside0 (((((we.setCell ⟨gg,0,none⟩ (.bool vb)).setCell ⟨gg,1,none⟩ (.slice Av1 v1.length cv1)).setCell ⟨gg,2,none⟩ (.slice Av2 v2.length cv2)).setCell ⟨gg,3,none⟩ (.slice Av3 v3.length cv3)).heap[gg]? = some (.cells #[.bool vb,.slice Av1 v1.length cv1,.slice Av2 v2.length cv2,.slice Av3 v3.length cv3] 32 (0,0))) := ⟨by refine blk_put (cs := #[.bool vb,.slice Av1 v1.length cv1,.slice Av2 v2.length cv2,.slice none 0 0]) ?_ 3 _ rfl;refine blk_put (cs := #[.bool vb,.slice Av1 v1.length cv1,.slice none 0 0,.slice none 0 0]) ?_ 2 _ rfl;refine blk_put (cs := #[.bool vb,.slice none 0 0,.slice none 0 0,.slice none 0 0]) ?_ 1 _ rfl;refine blk_put (cs := #[.bool false,.slice none 0 0,.slice none 0 0,.slice none 0 0]) ?_ 0 _ rfl;exact BZ.out⟩
 clear BZ Q0
 clear hcggy_0 hfy_0 hcggy_1 hfy_1 hcggy_2 hfy_2 hcggy_3 hfy_3
 generalize ((((we.setCell ⟨gg,0,none⟩ (.bool vb)).setCell ⟨gg,1,none⟩ (.slice Av1 v1.length cv1)).setCell ⟨gg,2,none⟩ (.slice Av2 v2.length cv2)).setCell ⟨gg,3,none⟩ (.slice Av3 v3.length cv3)) = w6b at n0_ n1_ ⊢
 have B := n0_.out
 have BG := n1_
 clear n0_ n1_
 have Tx1 := Aside0.mk (Kd.S_below Tx1.out B)
 have Tx2 := Aside0.mk (Kd.S_below Tx2.out B)
 have Tx3 := Aside0.mk (Kd.R_below Tx3.out B)
 have Tv1 := Aside0.mk (Kd.S_below Tv1.out B)
 have Tv2 := Aside0.mk (Kd.S_below Tv2.out B)
 have Tv3 := Aside0.mk (Kd.R_below Tv3.out B)
 have Tqy := Aside0.mk (Kd.R_below Tqy.out B)
 have G := Aside0.mk (below_step G.out B)
 have BX := Aside0.mk (blk_below BX.out B)
 have BY := Aside0.mk (blk_below BY.out B)
 have GG5 := Aside0.mk (Nat.le_trans Z56.out HGE.out)
 have GG4 := Aside0.mk (Nat.le_trans (Nat.le_trans Z45.out Z56.out) HGE.out)
 have Tm1 := Aside0.mk (Kd.S_below Tu1.out G.out)
 have Tm2 := Aside0.mk (Kd.S_below Tu2.out G.out)
 have Tm3 := Aside0.mk (Kd.R_below Tu3.out G.out)
 have hcgg7_0 : w6b.cell? ⟨gg,0,none⟩ = some (.bool vb) := (blk_cell BG.out 0).trans rfl
 have hcgg7_1 : w6b.cell? ⟨gg,1,none⟩ = some (.slice Av1 v1.length cv1) := (blk_cell BG.out 1).trans rfl
 have hcgg7_2 : w6b.cell? ⟨gg,2,none⟩ = some (.slice Av2 v2.length cv2) := (blk_cell BG.out 2).trans rfl
 have hcgg7_3 : w6b.cell? ⟨gg,3,none⟩ = some (.slice Av3 v3.length cv3) := (blk_cell BG.out 3).trans rfl
 have hcgw8_0 : w6b.cell? ⟨gw,0,none⟩ = some (.bool ub) := (blk_cell (blk_below BW.out G.out) 0).trans rfl
 have hcgw8_1 : w6b.cell? ⟨gw,1,none⟩ = some (.slice Au1 u1.length cu1) := (blk_cell (blk_below BW.out G.out) 1).trans rfl
 have hcgw8_2 : w6b.cell? ⟨gw,2,none⟩ = some (.slice Au2 u2.length cu2) := (blk_cell (blk_below BW.out G.out) 2).trans rfl
 have hcgw8_3 : w6b.cell? ⟨gw,3,none⟩ = some (.slice Au3 u3.length cu3) := (blk_cell (blk_below BW.out G.out) 3).trans rfl
 clear B
 go_wp2_with ((with_reducible refine gcal_ (f := 14) rfl ?_);refine goesL_ (some 47) rfl rfl Try.func14 (by kernel_rfl) rfl #[.agg #[.bool vb,.slice Av1 v1.length cv1,.slice Av2 v2.length cv2,.slice Av3 v3.length cv3],.agg #[.bool ub,.slice Au1 u1.length cu1,.slice Au2 u2.length cu2,.slice Au3 u3.length cu3]] rfl (by (try simp only [List.map_toArray,List.map_cons,List.map_nil]);first|done|rfl) ?_;refine (laws_eqMachine.calls k vb Av1 cv1 v1 Av2 cv2 v2 Av3 cv3 v3 ub Au1 cu1 u1 Au2 cu2 u2 Au3 cu3 u3 true _ (Kd.S_reads' Tv1.out).2.2 (Kd.S_reads' Tv1.out).2.1 (Kd.S_reads' Tv2.out).2.2 (Kd.S_reads' Tv2.out).2.1 (Kd.R_reads' Tv3.out).2.2 (Kd.R_reads' Tv3.out).2.1 (Kd.S_reads' Tm1.out).2.2 (Kd.S_reads' Tm1.out).2.1 (Kd.S_reads' Tm2.out).2.2 (Kd.S_reads' Tm2.out).2.1 (Kd.R_reads' Tm3.out).2.2 (Kd.R_reads' Tm3.out).2.1 F5.out).mono ?_;rintro e w7 ⟨rfl,B⟩;refine ⟨_,rfl,?_⟩;refine hold_6 ?_)
 refine ⟨?_⟩
 have Tx1 := Aside0.mk (Kd.S_below Tx1.out B)
 have Tx2 := Aside0.mk (Kd.S_below Tx2.out B)
 have Tx3 := Aside0.mk (Kd.R_below Tx3.out B)
 have Tv1 := Aside0.mk (Kd.S_below Tv1.out B)
 have Tv2 := Aside0.mk (Kd.S_below Tv2.out B)
 have Tv3 := Aside0.mk (Kd.R_below Tv3.out B)
 have Tqy := Aside0.mk (Kd.R_below Tqy.out B)
 have G := Aside0.mk (below_step G.out B)
 have BX := Aside0.mk (blk_below BX.out B)
 have BY := Aside0.mk (blk_below BY.out B)
 have BG := Aside0.mk (blk_below BG.out B)
 clear B
 clear Tm1 Tm2 Tm3
 go_upto_region 14 with (fail)
 have B : Below w7.heap.size w7 w7.drew := below_drew1 (Below.refl _ _)
 have Tx1 := Aside0.mk (Kd.S_below Tx1.out B)
 have Tx2 := Aside0.mk (Kd.S_below Tx2.out B)
 have Tx3 := Aside0.mk (Kd.R_below Tx3.out B)
 have Tv1 := Aside0.mk (Kd.S_below Tv1.out B)
 have Tv2 := Aside0.mk (Kd.S_below Tv2.out B)
 have Tv3 := Aside0.mk (Kd.R_below Tv3.out B)
 have Tqy := Aside0.mk (Kd.R_below Tqy.out B)
 have G := Aside0.mk (below_step G.out B)
 have BX := Aside0.mk (blk_below BX.out B)
 have BY := Aside0.mk (blk_below BY.out B)
 have BG := Aside0.mk (blk_below BG.out B)
 clear B
 have D6 := Aside0.mk (below_step D3.out G.out)
 refine start_ (n := 5) (S := fun w' => w'.cell? ⟨gx,0,none⟩ = some (.bool b) ∧ w'.cell? ⟨gx,1,none⟩ = some (.slice Ax1 p1.length cx1) ∧ w'.cell? ⟨gx,2,none⟩ = some (.slice Ax2 p2.length cx2) ∧ w'.cell? ⟨gx,3,none⟩ = some (.slice Ax3 p3.length cx3) ∧ w'.cell? ⟨ga,0,none⟩ = some (.bool a0_0) ∧ w'.cell? ⟨ga,1,none⟩ = some (.slice A0_1 l0_1.length c0_1) ∧ w'.cell? ⟨ga,2,none⟩ = some (.slice A0_2 l0_2.length c0_2) ∧ w'.cell? ⟨ga,3,none⟩ = some (.slice A0_3 l0_3.length c0_3)) (ds := []) #[false,false,false,false,false] (by kernel_rfl) rfl rfl ⟨(blk_cell BX.out 0).trans rfl,(blk_cell BX.out 1).trans rfl,(blk_cell BX.out 2).trans rfl,(blk_cell BX.out 3).trans rfl,(blk_cell (blk_below BA.out D6.out) 0).trans rfl,(blk_cell (blk_below BA.out D6.out) 1).trans rfl,(blk_cell (blk_below BA.out D6.out) 2).trans rfl,(blk_cell (blk_below BA.out D6.out) 3).trans rfl⟩ (fun hHeld => ?_)
 generalize w7.drew = w7d at Tx1 Tx2 Tx3 Tv1 Tv2 Tv3 Tqy G BX BY BG D6 hHeld ⊢
 refine take_ (i := 0) (N := some 54) (v := ?_) (a' := ?_) #[true,false,false,false,false] rfl rfl (by kernel_rfl) (fun _ _ _ h => h) (Or.inl ⟨by rfl,?_⟩) hHeld ?_ ?_
 rotate_left
 ·rintro w' ⟨s0,s1,s2,s3,s4,s5,s6,s7⟩
  go_simp
  with_reducible rfl
 rotate_left
 ·simp only [Act.put,q1,q2,q3,i64_w,i32_w]
  rfl
 refine take_ (i := 1) (N := some 55) (v := ?_) (a' := ?_) #[true,true,false,false,false] rfl rfl (by kernel_rfl) (fun _ _ _ h => h) (Or.inl ⟨by rfl,?_⟩) hHeld ?_ ?_
 rotate_left
 ·rintro w' ⟨s0,s1,s2,s3,s4,s5,s6,s7⟩
  go_simp
  with_reducible rfl
 rotate_left
 ·simp only [Act.put,q1,q2,q3,i64_w,i32_w]
  rfl
 refine one_ (i := 2) (N := some 56) #[true,true,true,false,false] rfl rfl (by kernel_rfl) (by decide) (fun K hK => ?_)
 refine goes_ Try.func12 (by kernel_rfl) rfl #[.agg #[.bool a0_0,.slice A0_1 l0_1.length c0_1,.slice A0_2 l0_2.length c0_2,.slice A0_3 l0_3.length c0_3]] (by rfl) rfl rfl (by (try simp only [List.map_toArray,List.map_cons,List.map_nil]);first|done|rfl) ?_
 refine (laws_toMachine.calls k a0_0 A0_1 c0_1 l0_1 A0_2 c0_2 l0_2 A0_3 c0_3 l0_3 b p1 p2 p3 _ (Kd.C_below HR1.out D6.out) HC1.out (Kd.C_below HR2.out D6.out) HC2.out (Kd.C_below HR3.out D6.out) HC3.out F1.out).mono ?_
 rintro e w8 ⟨vy1,vy2,vy3,rfl,S1,S2,S3,B⟩
 refine ⟨_,rfl,?_⟩
 have Ty1 := Aside0.mk S1
 have Ty2 := Aside0.mk S2
 have Ty3 := Aside0.mk S3
 clear S1 S2 S3
 have Tx1 := Aside0.mk (Kd.S_below Tx1.out B)
 have Tx2 := Aside0.mk (Kd.S_below Tx2.out B)
 have Tx3 := Aside0.mk (Kd.R_below Tx3.out B)
 have Tv1 := Aside0.mk (Kd.S_below Tv1.out B)
 have Tv2 := Aside0.mk (Kd.S_below Tv2.out B)
 have Tv3 := Aside0.mk (Kd.R_below Tv3.out B)
 have Tqy := Aside0.mk (Kd.R_below Tqy.out B)
 have G := Aside0.mk (below_step G.out B)
 have BX := Aside0.mk (blk_below BX.out B)
 have BY := Aside0.mk (blk_below BY.out B)
 have BG := Aside0.mk (blk_below BG.out B)
 clear B
 obtain ⟨Ay1,cy1,ey1⟩ := Kd.S_slice Ty1.out
 subst ey1
 obtain ⟨Ay2,cy2,ey2⟩ := Kd.S_slice Ty2.out
 subst ey2
 obtain ⟨Ay3,cy3,ey3⟩ := Kd.R_slice Ty3.out
 subst ey3
 have D6 := Aside0.mk (below_step D3.out G.out)
 refine hK.out _ _ ⟨(blk_cell BX.out 0).trans rfl,(blk_cell BX.out 1).trans rfl,(blk_cell BX.out 2).trans rfl,(blk_cell BX.out 3).trans rfl,(blk_cell (blk_below BA.out D6.out) 0).trans rfl,(blk_cell (blk_below BA.out D6.out) 1).trans rfl,(blk_cell (blk_below BA.out D6.out) 2).trans rfl,(blk_cell (blk_below BA.out D6.out) 3).trans rfl⟩ (fun hHeld => ?_)
 clear hK K
 refine nr_ (some 56) _ ?_
 refine one_ (i := 3) (N := some 57) #[true,true,true,true,false] rfl rfl (by kernel_rfl) (by decide) (fun K hK => ?_)
 refine goes_ Try.func14 (by kernel_rfl) rfl #[.agg #[.bool b,.slice Ax1 p1.length cx1,.slice Ax2 p2.length cx2,.slice Ax3 p3.length cx3],.agg #[.bool b,.slice Ay1 p1.length cy1,.slice Ay2 p2.length cy2,.slice Ay3 p3.length cy3]] (by rfl) rfl rfl (by (try simp only [List.map_toArray,List.map_cons,List.map_nil]);first|done|rfl) ?_
 refine (laws_eqMachine.calls k b Ax1 cx1 p1 Ax2 cx2 p2 Ax3 cx3 p3 b Ay1 cy1 p1 Ay2 cy2 p2 Ay3 cy3 p3 true _ (Kd.S_reads' Tx1.out).2.2 (Kd.S_reads' Tx1.out).2.1 (Kd.S_reads' Tx2.out).2.2 (Kd.S_reads' Tx2.out).2.1 (Kd.R_reads' Tx3.out).2.2 (Kd.R_reads' Tx3.out).2.1 (Kd.S_reads' Ty1.out).2.2 (Kd.S_reads' Ty1.out).2.1 (Kd.S_reads' Ty2.out).2.2 (Kd.S_reads' Ty2.out).2.1 (Kd.R_reads' Ty3.out).2.2 (Kd.R_reads' Ty3.out).2.1 F6.out).mono ?_
 rintro e w9 ⟨rfl,B⟩
 refine ⟨_,rfl,?_⟩
 have Tx1 := Aside0.mk (Kd.S_below Tx1.out B)
 have Tx2 := Aside0.mk (Kd.S_below Tx2.out B)
 have Tx3 := Aside0.mk (Kd.R_below Tx3.out B)
 have Tv1 := Aside0.mk (Kd.S_below Tv1.out B)
 have Tv2 := Aside0.mk (Kd.S_below Tv2.out B)
 have Tv3 := Aside0.mk (Kd.R_below Tv3.out B)
 have Tqy := Aside0.mk (Kd.R_below Tqy.out B)
 have G := Aside0.mk (below_step G.out B)
 have BX := Aside0.mk (blk_below BX.out B)
 have BY := Aside0.mk (blk_below BY.out B)
 have BG := Aside0.mk (blk_below BG.out B)
 clear B
 clear Ty1 Ty2 Ty3
 clear D6
 have D6 := Aside0.mk (below_step D3.out G.out)
 refine hK.out _ _ ⟨(blk_cell BX.out 0).trans rfl,(blk_cell BX.out 1).trans rfl,(blk_cell BX.out 2).trans rfl,(blk_cell BX.out 3).trans rfl,(blk_cell (blk_below BA.out D6.out) 0).trans rfl,(blk_cell (blk_below BA.out D6.out) 1).trans rfl,(blk_cell (blk_below BA.out D6.out) 2).trans rfl,(blk_cell (blk_below BA.out D6.out) 3).trans rfl⟩ (fun hHeld => ?_)
 clear hK K
 refine nr_ (some 57) _ ?_
 refine pure_ (i := 4) (N := some 58) (v := ?_) (a' := ?_) #[true,true,true,true,true] rfl rfl (by kernel_rfl) (fun _ _ _ h => h) (Or.inl ⟨by rfl,?_⟩) ?_ ?_
 rotate_left
 ·intro w'
  go_simp
  with_reducible rfl
 rotate_left
 ·simp only [Act.put,q1,q2,q3,i64_w,i32_w]
  rfl
 refine done_ (by kernel_rfl) ?_
 clear hHeld
 go_upto_region 16 with (fail)
 have B : Below w9.heap.size w9 w9.drew := below_drew1 (Below.refl _ _)
 have Tx1 := Aside0.mk (Kd.S_below Tx1.out B)
 have Tx2 := Aside0.mk (Kd.S_below Tx2.out B)
 have Tx3 := Aside0.mk (Kd.R_below Tx3.out B)
 have Tv1 := Aside0.mk (Kd.S_below Tv1.out B)
 have Tv2 := Aside0.mk (Kd.S_below Tv2.out B)
 have Tv3 := Aside0.mk (Kd.R_below Tv3.out B)
 have Tqy := Aside0.mk (Kd.R_below Tqy.out B)
 have G := Aside0.mk (below_step G.out B)
 have BX := Aside0.mk (blk_below BX.out B)
 have BY := Aside0.mk (blk_below BY.out B)
 have BG := Aside0.mk (blk_below BG.out B)
 clear B
 have D6 := Aside0.mk (below_step D3.out G.out)
 refine start_ (n := 5) (S := fun w' => w'.cell? ⟨gy,0,none⟩ = some (.int .i64 n0) ∧ w'.cell? ⟨gy,1,none⟩ = some (.int .i64 n1) ∧ w'.cell? ⟨gy,2,none⟩ = some (.int .i64 n2) ∧ w'.cell? ⟨gy,3,none⟩ = some (.slice Ary n3.length cry) ∧ w'.cell? ⟨ge,0,none⟩ = some (.int .i64 a1_0) ∧ w'.cell? ⟨ge,1,none⟩ = some (.int .i64 a1_1) ∧ w'.cell? ⟨ge,2,none⟩ = some (.int .i64 a1_2) ∧ w'.cell? ⟨ge,3,none⟩ = some (.slice A1_3 l1_3.length c1_3)) (ds := []) #[false,false,false,false,false] (by kernel_rfl) rfl rfl ⟨(blk_cell BY.out 0).trans rfl,(blk_cell BY.out 1).trans rfl,(blk_cell BY.out 2).trans rfl,(blk_cell BY.out 3).trans rfl,(blk_cell (blk_below BE.out D6.out) 0).trans rfl,(blk_cell (blk_below BE.out D6.out) 1).trans rfl,(blk_cell (blk_below BE.out D6.out) 2).trans rfl,(blk_cell (blk_below BE.out D6.out) 3).trans rfl⟩ (fun hHeld => ?_)
 generalize w9.drew = w9d at Tx1 Tx2 Tx3 Tv1 Tv2 Tv3 Tqy G BX BY BG D6 hHeld ⊢
 refine take_ (i := 0) (N := some 59) (v := ?_) (a' := ?_) #[true,false,false,false,false] rfl rfl (by kernel_rfl) (fun _ _ _ h => h) (Or.inl ⟨by rfl,?_⟩) hHeld ?_ ?_
 rotate_left
 ·rintro w' ⟨s0,s1,s2,s3,s4,s5,s6,s7⟩
  go_simp
  with_reducible rfl
 rotate_left
 ·simp only [Act.put,q1,q2,q3,i64_w,i32_w]
  rfl
 refine take_ (i := 1) (N := some 60) (v := ?_) (a' := ?_) #[true,true,false,false,false] rfl rfl (by kernel_rfl) (fun _ _ _ h => h) (Or.inl ⟨by rfl,?_⟩) hHeld ?_ ?_
 rotate_left
 ·rintro w' ⟨s0,s1,s2,s3,s4,s5,s6,s7⟩
  go_simp
  with_reducible rfl
 rotate_left
 ·simp only [Act.put,q1,q2,q3,i64_w,i32_w]
  rfl
 refine one_ (i := 2) (N := some 61) #[true,true,true,false,false] rfl rfl (by kernel_rfl) (by decide) (fun K hK => ?_)
 refine goes_ Try.func28 (by kernel_rfl) rfl #[.agg #[.int .i64 a1_0,.int .i64 a1_1,.int .i64 a1_2,.slice A1_3 l1_3.length c1_3]] (by rfl) rfl rfl (by (try simp only [List.map_toArray,List.map_cons,List.map_nil]);first|done|rfl) ?_
 refine (laws_toRecord.calls k a1_0 a1_1 a1_2 A1_3 c1_3 l1_3 n0 n1 n2 n3 _ (Kd.C_below HR4.out D6.out) HC4.out F2.out).mono ?_
 rintro e w10 ⟨vrk,rfl,S,B⟩
 refine ⟨_,rfl,?_⟩
 have Tqk := Aside0.mk S
 clear S
 have Tx1 := Aside0.mk (Kd.S_below Tx1.out B)
 have Tx2 := Aside0.mk (Kd.S_below Tx2.out B)
 have Tx3 := Aside0.mk (Kd.R_below Tx3.out B)
 have Tv1 := Aside0.mk (Kd.S_below Tv1.out B)
 have Tv2 := Aside0.mk (Kd.S_below Tv2.out B)
 have Tv3 := Aside0.mk (Kd.R_below Tv3.out B)
 have Tqy := Aside0.mk (Kd.R_below Tqy.out B)
 have G := Aside0.mk (below_step G.out B)
 have BX := Aside0.mk (blk_below BX.out B)
 have BY := Aside0.mk (blk_below BY.out B)
 have BG := Aside0.mk (blk_below BG.out B)
 clear B
 obtain ⟨Ark,crk,erk⟩ := Kd.R_slice Tqk.out
 subst erk
 have D6 := Aside0.mk (below_step D3.out G.out)
 refine hK.out _ _ ⟨(blk_cell BY.out 0).trans rfl,(blk_cell BY.out 1).trans rfl,(blk_cell BY.out 2).trans rfl,(blk_cell BY.out 3).trans rfl,(blk_cell (blk_below BE.out D6.out) 0).trans rfl,(blk_cell (blk_below BE.out D6.out) 1).trans rfl,(blk_cell (blk_below BE.out D6.out) 2).trans rfl,(blk_cell (blk_below BE.out D6.out) 3).trans rfl⟩ (fun hHeld => ?_)
 clear hK K
 refine nr_ (some 61) _ ?_
 refine one_ (i := 3) (N := some 62) #[true,true,true,true,false] rfl rfl (by kernel_rfl) (by decide) (fun K hK => ?_)
 refine goes_ Try.func23 (by kernel_rfl) rfl #[.agg #[.int .i64 n0,.int .i64 n1,.int .i64 n2,.slice Ary n3.length cry],.agg #[.int .i64 n0,.int .i64 n1,.int .i64 n2,.slice Ark n3.length crk]] (by rfl) rfl rfl (by (try simp only [List.map_toArray,List.map_cons,List.map_nil]);first|done|rfl) ?_
 refine (laws_eqRecord.calls k n0 n1 n2 Ary cry n3 n0 n1 n2 Ark crk n3 true _ (Kd.R_reads' Tqy.out).2.2 (Kd.R_reads' Tqy.out).2.1 (Kd.R_reads' Tqk.out).2.2 (Kd.R_reads' Tqk.out).2.1 F7.out).mono ?_
 rintro e w11 ⟨rfl,B⟩
 refine ⟨_,rfl,?_⟩
 have Tx1 := Aside0.mk (Kd.S_below Tx1.out B)
 have Tx2 := Aside0.mk (Kd.S_below Tx2.out B)
 have Tx3 := Aside0.mk (Kd.R_below Tx3.out B)
 have Tv1 := Aside0.mk (Kd.S_below Tv1.out B)
 have Tv2 := Aside0.mk (Kd.S_below Tv2.out B)
 have Tv3 := Aside0.mk (Kd.R_below Tv3.out B)
 have Tqy := Aside0.mk (Kd.R_below Tqy.out B)
 have G := Aside0.mk (below_step G.out B)
 have BX := Aside0.mk (blk_below BX.out B)
 have BY := Aside0.mk (blk_below BY.out B)
 have BG := Aside0.mk (blk_below BG.out B)
 clear B
 clear Tqk
 have D6 := Aside0.mk (below_step D3.out G.out)
 refine hK.out _ _ ⟨(blk_cell BY.out 0).trans rfl,(blk_cell BY.out 1).trans rfl,(blk_cell BY.out 2).trans rfl,(blk_cell BY.out 3).trans rfl,(blk_cell (blk_below BE.out D6.out) 0).trans rfl,(blk_cell (blk_below BE.out D6.out) 1).trans rfl,(blk_cell (blk_below BE.out D6.out) 2).trans rfl,(blk_cell (blk_below BE.out D6.out) 3).trans rfl⟩ (fun hHeld => ?_)
 clear hK K
 refine nr_ (some 62) _ ?_
 refine pure_ (i := 4) (N := some 63) (v := ?_) (a' := ?_) #[true,true,true,true,true] rfl rfl (by kernel_rfl) (fun _ _ _ h => h) (Or.inl ⟨by rfl,?_⟩) ?_ ?_
 rotate_left
 ·intro w'
  go_simp
  with_reducible rfl
 rotate_left
 ·simp only [Act.put,q1,q2,q3,i64_w,i32_w]
  rfl
 refine done_ (by kernel_rfl) ?_
 clear hHeld
 have hcgx9_0 : w11.cell? ⟨gx,0,none⟩ = some (.bool b) := (blk_cell BX.out 0).trans rfl
 have hcgx9_1 : w11.cell? ⟨gx,1,none⟩ = some (.slice Ax1 p1.length cx1) := (blk_cell BX.out 1).trans rfl
 have hcgx9_2 : w11.cell? ⟨gx,2,none⟩ = some (.slice Ax2 p2.length cx2) := (blk_cell BX.out 2).trans rfl
 have hcgx9_3 : w11.cell? ⟨gx,3,none⟩ = some (.slice Ax3 p3.length cx3) := (blk_cell BX.out 3).trans rfl
 go_wp2_with ((with_reducible refine gcal_ (f := 18) rfl ?_);refine goesL_ (some 66) rfl rfl Try.func18 (by kernel_rfl) rfl #[.agg #[.bool b,.slice Ax1 p1.length cx1,.slice Ax2 p2.length cx2,.slice Ax3 p3.length cx3],.int .i64 1] rfl (by (try simp only [List.map_toArray,List.map_cons,List.map_nil]);first|done|rfl) ?_;refine (laws_markMachine.calls k (fun k_ => True ∧ k_ < w4.heap.size) b (.slice Ax1 p1.length cx1) (.slice Ax2 p2.length cx2) (.slice Ax3 p3.length cx3) p1 p2 p3 1 mx mx1 mx2 mx3 w3b _ G.out Tx1.out Tx2.out Tx3.out F8.out).mono ?_;rintro e w12 ⟨rfl,S1,S2,S3,B,K⟩;refine ⟨_,rfl,?_⟩;refine hold_6 ?_)
 refine ⟨?_⟩
 have G := Aside0.mk B
 have Tv1 := Aside0.mk (Kd.S_step (Kd.S_bound Tv1.out) (fun k_ hk_ hlt_ => K.2 k_ hlt_ (fun hs_ => absurd hs_.2 (Nat.not_lt.2 (Nat.le_trans (Nat.le_trans Z45.out Z5.out) hk_.2.1)))))
 have Tv2 := Aside0.mk (Kd.S_step (Kd.S_bound Tv2.out) (fun k_ hk_ hlt_ => K.2 k_ hlt_ (fun hs_ => absurd hs_.2 (Nat.not_lt.2 (Nat.le_trans (Nat.le_trans Z45.out Z5.out) hk_.2.1)))))
 have Tv3 := Aside0.mk (Kd.R_step (Kd.R_bound Tv3.out) (fun k_ hk_ hlt_ => K.2 k_ hlt_ (fun hs_ => absurd hs_.2 (Nat.not_lt.2 (Nat.le_trans (Nat.le_trans Z45.out Z5.out) hk_.2.1)))))
 have Tqy := Aside0.mk (Kd.R_step Tqy.out (fun k_ hk_ hlt_ => K.2 k_ hlt_ (fun hs_ => absurd hs_.2 (Nat.not_lt.2 (Nat.le_trans Z44.out hk_.1)))))
 have BG := Aside0.mk ((K.2 gg (blk_lt BG.out) (fun hs_ => absurd hs_.2 (Nat.not_lt.2 GG4.out))).trans BG.out)
 have BY := Aside0.mk ((K.2 gy (blk_lt BY.out) (fun hs_ => absurd hs_.2 (Nat.not_lt.2 GY4.out))).trans BY.out)
 clear B K S1 S2 S3
 clear Tx1 Tx2 Tx3
 have hcgy10_0 : w12.cell? ⟨gy,0,none⟩ = some (.int .i64 n0) := (blk_cell BY.out 0).trans rfl
 have hcgy10_1 : w12.cell? ⟨gy,1,none⟩ = some (.int .i64 n1) := (blk_cell BY.out 1).trans rfl
 have hcgy10_2 : w12.cell? ⟨gy,2,none⟩ = some (.int .i64 n2) := (blk_cell BY.out 2).trans rfl
 have hcgy10_3 : w12.cell? ⟨gy,3,none⟩ = some (.slice Ary n3.length cry) := (blk_cell BY.out 3).trans rfl
 go_wp2_with ((with_reducible refine gcal_ (f := 24) rfl ?_);refine goesL_ (some 69) rfl rfl Try.func24 (by kernel_rfl) rfl #[.agg #[.int .i64 n0,.int .i64 n1,.int .i64 n2,.slice Ary n3.length cry],.int .i64 mx] rfl (by (try simp only [List.map_toArray,List.map_cons,List.map_nil]);first|done|rfl) ?_;refine (laws_markRecord.calls k n0 n1 n2 (fun k_ => w4c.heap.size ≤ k_ ∧ k_ < w5.heap.size) (.slice Ary n3.length cry) n3 mx mr mr1 w3b _ G.out (Kd.R_lower Tqy.out Z4.out) F9.out).mono ?_;rintro e w13 ⟨rfl,S,B,K⟩;refine ⟨_,rfl,?_⟩;refine hold_6 ?_)
 refine ⟨?_⟩
 have G := Aside0.mk B
 have Tv1 := Aside0.mk (Kd.S_step Tv1.out (fun k_ hk_ hlt_ => K.2 k_ hlt_ (fun hs_ => absurd hs_.2 (Nat.not_lt.2 (Nat.le_trans Z5.out hk_.2.1)))))
 have Tv2 := Aside0.mk (Kd.S_step Tv2.out (fun k_ hk_ hlt_ => K.2 k_ hlt_ (fun hs_ => absurd hs_.2 (Nat.not_lt.2 (Nat.le_trans Z5.out hk_.2.1)))))
 have Tv3 := Aside0.mk (Kd.R_step Tv3.out (fun k_ hk_ hlt_ => K.2 k_ hlt_ (fun hs_ => absurd hs_.2 (Nat.not_lt.2 (Nat.le_trans Z5.out hk_.2.1)))))
 have BG := Aside0.mk ((K.2 gg (blk_lt BG.out) (fun hs_ => absurd hs_.2 (Nat.not_lt.2 GG5.out))).trans BG.out)
 have Tm1 := Aside0.mk (Kd.S_below Tu1.out B)
 have Tm2 := Aside0.mk (Kd.S_below Tu2.out B)
 have Tm3 := Aside0.mk (Kd.R_below Tu3.out B)
 clear B K S Tqy BY
 have hcgg11_0 : w13.cell? ⟨gg,0,none⟩ = some (.bool vb) := (blk_cell BG.out 0).trans rfl
 have hcgg11_1 : w13.cell? ⟨gg,1,none⟩ = some (.slice Av1 v1.length cv1) := (blk_cell BG.out 1).trans rfl
 have hcgg11_2 : w13.cell? ⟨gg,2,none⟩ = some (.slice Av2 v2.length cv2) := (blk_cell BG.out 2).trans rfl
 have hcgg11_3 : w13.cell? ⟨gg,3,none⟩ = some (.slice Av3 v3.length cv3) := (blk_cell BG.out 3).trans rfl
 have hcgw12_0 : w13.cell? ⟨gw,0,none⟩ = some (.bool ub) := (blk_cell (blk_below BW.out G.out) 0).trans rfl
 have hcgw12_1 : w13.cell? ⟨gw,1,none⟩ = some (.slice Au1 u1.length cu1) := (blk_cell (blk_below BW.out G.out) 1).trans rfl
 have hcgw12_2 : w13.cell? ⟨gw,2,none⟩ = some (.slice Au2 u2.length cu2) := (blk_cell (blk_below BW.out G.out) 2).trans rfl
 have hcgw12_3 : w13.cell? ⟨gw,3,none⟩ = some (.slice Au3 u3.length cu3) := (blk_cell (blk_below BW.out G.out) 3).trans rfl
 go_wp2_with (go_at_call 14;refine (laws_eqMachine.calls k vb Av1 cv1 v1 Av2 cv2 v2 Av3 cv3 v3 ub Au1 cu1 u1 Au2 cu2 u2 Au3 cu3 u3 true _ (Kd.S_reads' Tv1.out).2.2 (Kd.S_reads' Tv1.out).2.1 (Kd.S_reads' Tv2.out).2.2 (Kd.S_reads' Tv2.out).2.1 (Kd.R_reads' Tv3.out).2.2 (Kd.R_reads' Tv3.out).2.1 (Kd.S_reads' Tm1.out).2.2 (Kd.S_reads' Tm1.out).2.1 (Kd.S_reads' Tm2.out).2.2 (Kd.S_reads' Tm2.out).2.1 (Kd.R_reads' Tm3.out).2.2 (Kd.R_reads' Tm3.out).2.1 F5.out).mono ?_;rintro e w14 ⟨rfl,B⟩;(try dsimp only);refine hold_6 ?_)
 refine ⟨?_⟩
 have Tv1 := Aside0.mk (Kd.S_below Tv1.out B)
 have Tv2 := Aside0.mk (Kd.S_below Tv2.out B)
 have Tv3 := Aside0.mk (Kd.R_below Tv3.out B)
 have G := Aside0.mk (below_step G.out B)
 have BG := Aside0.mk (blk_below BG.out B)
 clear B
 clear Tm1 Tm2 Tm3
 have Tv1 := Aside0.mk (Kd.S_mono (ok' := (fun k_ => ∃ q,q ∈ ((79 :: (k79).E) ++ (45 :: (k45).E) ++ (2 :: ((Kd.int .i64)).E)) ∧ ∃ cells,w14.heap[k_]? = some (.cells cells q (0,0)))) (Kd.S_bound (Kd.S_lower Tv1.out Z6.out)) (fun k_ h_ => (by obtain ⟨q_,hq_,hr_⟩ := h_.2.2.2;exact ⟨q_,(List.mem_append_left _ (List.mem_append_left _ hq_)),hr_⟩)))
 have Tv2 := Aside0.mk (Kd.S_mono (ok' := (fun k_ => ∃ q,q ∈ ((79 :: (k79).E) ++ (45 :: (k45).E) ++ (2 :: ((Kd.int .i64)).E)) ∧ ∃ cells,w14.heap[k_]? = some (.cells cells q (0,0)))) (Kd.S_bound (Kd.S_lower Tv2.out Z6.out)) (fun k_ h_ => (by obtain ⟨q_,hq_,hr_⟩ := h_.2.2.2;exact ⟨q_,(List.mem_append_left _ (List.mem_append_right _ hq_)),hr_⟩)))
 have Tv3 := Aside0.mk (Kd.R_mono (ok' := (fun k_ => ∃ q,q ∈ ((79 :: (k79).E) ++ (45 :: (k45).E) ++ (2 :: ((Kd.int .i64)).E)) ∧ ∃ cells,w14.heap[k_]? = some (.cells cells q (0,0)))) (Kd.R_bound (Kd.R_lower Tv3.out Z6.out)) (fun k_ h_ => (by obtain ⟨q_,hq_,hr_⟩ := h_.2.2.2;exact ⟨q_,(List.mem_append_right _ hq_),hr_⟩)))
 have hcgg13_0 : w14.cell? ⟨gg,0,none⟩ = some (.bool vb) := (blk_cell BG.out 0).trans rfl
 have hcgg13_1 : w14.cell? ⟨gg,1,none⟩ = some (.slice Av1 v1.length cv1) := (blk_cell BG.out 1).trans rfl
 have hcgg13_2 : w14.cell? ⟨gg,2,none⟩ = some (.slice Av2 v2.length cv2) := (blk_cell BG.out 2).trans rfl
 have hcgg13_3 : w14.cell? ⟨gg,3,none⟩ = some (.slice Av3 v3.length cv3) := (blk_cell BG.out 3).trans rfl
 go_wp2_with ((with_reducible refine gcal_ (f := 18) rfl ?_);refine goesL_ (some 85) rfl rfl Try.func18 (by kernel_rfl) rfl #[.agg #[.bool vb,.slice Av1 v1.length cv1,.slice Av2 v2.length cv2,.slice Av3 v3.length cv3],.int .i64 1] rfl (by (try simp only [List.map_toArray,List.map_cons,List.map_nil]);first|done|rfl) ?_;refine (laws_markMachine.calls k (fun k_ => ∃ q,q ∈ ((79 :: (k79).E) ++ (45 :: (k45).E) ++ (2 :: ((Kd.int .i64)).E)) ∧ ∃ cells,w14.heap[k_]? = some (.cells cells q (0,0))) vb (.slice Av1 v1.length cv1) (.slice Av2 v2.length cv2) (.slice Av3 v3.length cv3) v1 v2 v3 1 q y1 y2 y3 w3b _ G.out Tv1.out Tv2.out Tv3.out F10.out).mono ?_;rintro e w15 ⟨rfl,S1,S2,S3,B,K⟩;refine ⟨_,rfl,?_⟩;refine hold_6 ?_)
 refine ⟨?_⟩
 have BG := Aside0.mk ((K.2 gg (blk_lt BG.out) (fun hs_ => ty_6 ⟨32,List.mem_singleton.2 rfl,_,BG.out⟩ hs_ (by decide))).trans BG.out)
 have G := Aside0.mk B
 have L1 := (Kd.S_reads' S1).1
 have L2 := (Kd.S_reads' S2).1
 have L3 := (Kd.R_reads' S3).1
 rw [L1] at S1 BG
 rw [L2] at S2 BG
 rw [L3] at S3 BG
 clear Tv1 Tv2 Tv3
 have Tv1 := Aside0.mk S1
 have Tv2 := Aside0.mk S2
 have Tv3 := Aside0.mk S3
 clear S1 S2 S3
 clear B K L1 L2 L3
 have hcgg14_0 : w15.cell? ⟨gg,0,none⟩ = some (.bool vb) := (blk_cell BG.out 0).trans rfl
 have hcgg14_1 : w15.cell? ⟨gg,1,none⟩ = some (.slice Av1 y1.length cv1) := (blk_cell BG.out 1).trans rfl
 have hcgg14_2 : w15.cell? ⟨gg,2,none⟩ = some (.slice Av2 y2.length cv2) := (blk_cell BG.out 2).trans rfl
 have hcgg14_3 : w15.cell? ⟨gg,3,none⟩ = some (.slice Av3 y3.length cv3) := (blk_cell BG.out 3).trans rfl
 go_wp2_with ((with_reducible refine gcal_ (f := 30) rfl ?_);refine goesL_ (some 88) rfl rfl Try.func30 (by kernel_rfl) rfl #[.agg #[.bool vb,.slice Av1 y1.length cv1,.slice Av2 y2.length cv2,.slice Av3 y3.length cv3],.int .i64 1] rfl (by (try simp only [List.map_toArray,List.map_cons,List.map_nil]);first|done|rfl) ?_;refine (laws_heldMachine.calls k vb Av1 cv1 y1 Av2 cv2 y2 Av3 cv3 y3 1 q _ (Kd.S_reads' Tv1.out).2.2 (Kd.S_reads' Tv1.out).2.1 (Kd.S_reads' Tv2.out).2.2 (Kd.S_reads' Tv2.out).2.1 (Kd.R_reads' Tv3.out).2.2 (Kd.R_reads' Tv3.out).2.1 F11.out).mono ?_;rintro e w16 ⟨rfl,B⟩;refine ⟨_,rfl,?_⟩;refine hold_6 ?_)
 refine ⟨?_⟩
 have Tv1 := Aside0.mk (Kd.S_below Tv1.out B)
 have Tv2 := Aside0.mk (Kd.S_below Tv2.out B)
 have Tv3 := Aside0.mk (Kd.R_below Tv3.out B)
 have G := Aside0.mk (below_step G.out B)
 have BG := Aside0.mk (blk_below BG.out B)
 clear B
 have D7 := Aside0.mk (below_step D3.out G.out)
 go_upto_region 31 with (fail)
 have B : Below w16.heap.size w16 w16.drew := below_drew1 (Below.refl _ _)
 have Tv1 := Aside0.mk (Kd.S_below Tv1.out B)
 have Tv2 := Aside0.mk (Kd.S_below Tv2.out B)
 have Tv3 := Aside0.mk (Kd.R_below Tv3.out B)
 have G := Aside0.mk (below_step G.out B)
 have BG := Aside0.mk (blk_below BG.out B)
 have D7 := Aside0.mk (below_step D7.out B)
 clear B
 refine start_ (n := 11) (S := fun w' => w'.cell? ⟨ga,0,none⟩ = some (.bool a0_0) ∧ w'.cell? ⟨ga,1,none⟩ = some (.slice A0_1 l0_1.length c0_1) ∧ w'.cell? ⟨ga,2,none⟩ = some (.slice A0_2 l0_2.length c0_2) ∧ w'.cell? ⟨ga,3,none⟩ = some (.slice A0_3 l0_3.length c0_3) ∧ w'.cell? ⟨ge,0,none⟩ = some (.int .i64 a1_0) ∧ w'.cell? ⟨ge,1,none⟩ = some (.int .i64 a1_1) ∧ w'.cell? ⟨ge,2,none⟩ = some (.int .i64 a1_2) ∧ w'.cell? ⟨ge,3,none⟩ = some (.slice A1_3 l1_3.length c1_3)) (ds := [9]) #[false,false,false,false,false,false,false,false,false,false,false] (by kernel_rfl) rfl rfl ⟨(blk_cell (blk_below BA.out D7.out) 0).trans rfl,(blk_cell (blk_below BA.out D7.out) 1).trans rfl,(blk_cell (blk_below BA.out D7.out) 2).trans rfl,(blk_cell (blk_below BA.out D7.out) 3).trans rfl,(blk_cell (blk_below BE.out D7.out) 0).trans rfl,(blk_cell (blk_below BE.out D7.out) 1).trans rfl,(blk_cell (blk_below BE.out D7.out) 2).trans rfl,(blk_cell (blk_below BE.out D7.out) 3).trans rfl⟩ (fun hHeld => ?_)
 generalize w16.drew = w16c at D7 Tv1 Tv2 Tv3 G BG hHeld ⊢
 refine take_ (i := 0) (N := some 95) (v := ?_) (a' := ?_) #[true,false,false,false,false,false,false,false,false,false,false] rfl rfl (by kernel_rfl) (fun _ _ _ h => h) (Or.inl ⟨by rfl,?_⟩) hHeld ?_ ?_
 rotate_left
 ·rintro w' ⟨s0,s1,s2,s3,s4,s5,s6,s7⟩
  go_simp
  with_reducible rfl
 rotate_left
 ·simp only [Act.put,q1,q2,q3,i64_w,i32_w]
  rfl
 refine take_ (i := 2) (N := some 97) (v := ?_) (a' := ?_) #[true,false,true,false,false,false,false,false,false,false,false] rfl rfl (by kernel_rfl) (fun _ _ _ h => h) (Or.inl ⟨by rfl,?_⟩) hHeld ?_ ?_
 rotate_left
 ·rintro w' ⟨s0,s1,s2,s3,s4,s5,s6,s7⟩
  go_simp
  with_reducible rfl
 rotate_left
 ·simp only [Act.put,q1,q2,q3,i64_w,i32_w]
  rfl
 have GI := Aside0.mk (Below.refl w16c.heap.size w16c)
 refine join_ (σ := Value × Value × Value × Value × Value × Value × Value × Nat) 2 #[true,true,true,true,true,true,true,true,true,false,false] (fun s_ => [(96,.agg #[.bool b,s_.1,s_.2.1,s_.2.2.1]),(98,.agg #[.int .i64 n0,.int .i64 n1,.int .i64 n2,s_.2.2.2.1]),(99,.tuple #[.agg #[.bool vb,s_.2.2.2.2.1,s_.2.2.2.2.2.1,s_.2.2.2.2.2.2.1],.bool v4]),(94,.tuple #[.agg #[.bool vb,s_.2.2.2.2.1,s_.2.2.2.2.2.1,s_.2.2.2.2.2.2.1],.bool v4]),(100,.agg #[.bool vb,s_.2.2.2.2.1,s_.2.2.2.2.2.1,s_.2.2.2.2.2.2.1]),(101,.bool v4),(15,.pointer (some ⟨s_.2.2.2.2.2.2.2,0,none⟩))]) (fun s_ w' => Below w16c.heap.size w16c w' ∧ Kd.S k79 79 w' w16c.heap.size (fun _ => True) s_.2.2.2.2.1 v1 ∧ Kd.S k45 45 w' w16c.heap.size (fun _ => True) s_.2.2.2.2.2.1 v2 ∧ Kd.R (Kd.int .i64) 2 w' w16c.heap.size (fun _ => True) s_.2.2.2.2.2.2.1 v3 ∧ w'.heap[s_.2.2.2.2.2.2.2]? = some (.cells #[.bool false,.slice none 0 0,.slice none 0 0,.slice none 0 0] 32 (0,0)) ∧ w16c.heap.size ≤ s_.2.2.2.2.2.2.2) (fun s_ wq hF_ => ?_) (fun JT => ?_)
 rotate_left
 ·refine join_ (σ := Value × Value × Value × Value × Nat) 6 #[true,true,true,true,false,false,false,false,true,false,false] (fun s_ => [(96,.agg #[.bool b,s_.1,s_.2.1,s_.2.2.1]),(98,.agg #[.int .i64 n0,.int .i64 n1,.int .i64 n2,s_.2.2.2.1]),(15,.pointer (some ⟨s_.2.2.2.2,0,none⟩))]) (fun s_ w' => Below w16c.heap.size w16c w' ∧ Kd.S k79 79 w' w16c.heap.size (fun _ => True) s_.1 p1 ∧ Kd.S k45 45 w' w16c.heap.size (fun _ => True) s_.2.1 p2 ∧ Kd.R (Kd.int .i64) 2 w' w16c.heap.size (fun _ => True) s_.2.2.1 p3 ∧ Kd.R k127 127 w' w16c.heap.size (fun _ => True) s_.2.2.2.1 n3 ∧ w'.heap[s_.2.2.2.2]? = some (.cells #[.bool false,.slice none 0 0,.slice none 0 0,.slice none 0 0] 32 (0,0)) ∧ w16c.heap.size ≤ s_.2.2.2.2) (fun s_ w' hF_ => ?_) (fun J4g => ?_)
  ·obtain ⟨mz1,mz2,mz3,mrz,gn⟩ := s_
   obtain ⟨g_,mz1_,mz2_,mz3_,mrz_,bn_,gnE_⟩ := hF_
   refine norm_ (a' := ?_) ?_ ?_
   rotate_left
   ·simp only [putAll,Act.put,List.setIfInBounds_toArray,List.set_cons_zero,List.set_cons_succ]
    rfl
   have GI := Aside0.mk g_
   clear g_
   have BN := Aside0.mk bn_
   have gnE := Aside0.mk gnE_
   clear bn_ gnE_
   have Tz1 := Aside0.mk mz1_
   have Tz2 := Aside0.mk mz2_
   have Tz3 := Aside0.mk mz3_
   clear mz1_ mz2_ mz3_
   obtain ⟨Az1,cz1,ez1⟩ := Kd.S_slice Tz1.out
   subst ez1
   obtain ⟨Az2,cz2,ez2⟩ := Kd.S_slice Tz2.out
   subst ez2
   obtain ⟨Az3,cz3,ez3⟩ := Kd.R_slice Tz3.out
   subst ez3
   have Tqz := Aside0.mk mrz_
   clear mrz_
   obtain ⟨Arz,crz,erz⟩ := Kd.R_slice Tqz.out
   subst erz
   refine one_ (i := 4) (N := some 99) #[true,true,true,true,true,false,false,false,true,false,false] rfl rfl (by kernel_rfl) (by decide) (fun K hK => ?_)
   refine goes_ Try.func29 (by kernel_rfl) rfl #[.agg #[.bool b,.slice Az1 p1.length cz1,.slice Az2 p2.length cz2,.slice Az3 p3.length cz3],.agg #[.int .i64 n0,.int .i64 n1,.int .i64 n2,.slice Arz n3.length crz]] (by rfl) rfl rfl (by (try simp only [List.map_toArray,List.map_cons,List.map_nil]);first|done|rfl) ?_
   refine (impl_Append.calls k b Az1 cz1 p1 Az2 cz2 p2 Az3 cz3 p3 n0 n1 n2 Arz crz n3 vb v1 v2 v3 v4 _ (Kd.S_reads' Tz1.out).2.2 (Kd.S_reads' Tz1.out).2.1 (Kd.S_reads' Tz2.out).2.2 (Kd.S_reads' Tz2.out).2.1 (Kd.R_reads' Tz3.out).2.2 (Kd.R_reads' Tz3.out).2.1 (Kd.R_reads' Tqz.out).2.2 (Kd.R_reads' Tqz.out).2.1 F4.out).mono ?_
   rintro e wq ⟨mh1,mh2,mh3,rfl,S1,S2,S3,B⟩
   refine ⟨_,rfl,?_⟩
   have Th1 := Aside0.mk (Kd.S_lower S1 GI.out.size)
   have Th2 := Aside0.mk (Kd.S_lower S2 GI.out.size)
   have Th3 := Aside0.mk (Kd.R_lower S3 GI.out.size)
   clear S1 S2 S3
   have Tz1 := Aside0.mk (Kd.S_below Tz1.out B)
   have Tz2 := Aside0.mk (Kd.S_below Tz2.out B)
   have Tz3 := Aside0.mk (Kd.R_below Tz3.out B)
   have Tqz := Aside0.mk (Kd.R_below Tqz.out B)
   have BN := Aside0.mk (blk_below BN.out B)
   have GI := Aside0.mk (below_step GI.out B)
   clear B
   obtain ⟨Ah1,ch1,eh1⟩ := Kd.S_slice Th1.out
   subst eh1
   obtain ⟨Ah2,ch2,eh2⟩ := Kd.S_slice Th2.out
   subst eh2
   obtain ⟨Ah3,ch3,eh3⟩ := Kd.R_slice Th3.out
   subst eh3
   refine hK.out _ _ ⟨(blk_cell (blk_below BA.out (below_step D7.out GI.out)) 0).trans rfl,(blk_cell (blk_below BA.out (below_step D7.out GI.out)) 1).trans rfl,(blk_cell (blk_below BA.out (below_step D7.out GI.out)) 2).trans rfl,(blk_cell (blk_below BA.out (below_step D7.out GI.out)) 3).trans rfl,(blk_cell (blk_below BE.out (below_step D7.out GI.out)) 0).trans rfl,(blk_cell (blk_below BE.out (below_step D7.out GI.out)) 1).trans rfl,(blk_cell (blk_below BE.out (below_step D7.out GI.out)) 2).trans rfl,(blk_cell (blk_below BE.out (below_step D7.out GI.out)) 3).trans rfl⟩ (fun hHeld => ?_)
   clear hK K
   refine nr_ (some 99) _ ?_
   refine pure_ (i := 5) (N := some 94) (v := ?_) (a' := ?_) #[true,true,true,true,true,true,false,false,true,false,false] rfl rfl (by kernel_rfl) (fun _ _ _ h => h) (Or.inl ⟨by rfl,?_⟩) ?_ ?_
   rotate_left
   ·intro w'
    go_simp
    with_reducible rfl
   rotate_left
   ·simp only [Act.put,q1,q2,q3,i64_w,i32_w]
    rfl
   refine pure_ (i := 6) (N := some 100) (v := ?_) (a' := ?_) #[true,true,true,true,true,true,true,false,true,false,false] rfl rfl (by kernel_rfl) (fun _ _ _ h => h) (Or.inl ⟨by rfl,?_⟩) ?_ ?_
   rotate_left
   ·intro w'
    go_simp
    with_reducible rfl
   rotate_left
   ·simp only [Act.put,q1,q2,q3,i64_w,i32_w]
    rfl
   refine pure_ (i := 7) (N := some 101) (v := ?_) (a' := ?_) #[true,true,true,true,true,true,true,true,true,false,false] rfl rfl (by kernel_rfl) (fun _ _ _ h => h) (Or.inl ⟨by rfl,?_⟩) ?_ ?_
   rotate_left
   ·intro w'
    go_simp
    with_reducible rfl
   rotate_left
   ·simp only [Act.put,q1,q2,q3,i64_w,i32_w]
    rfl
   exact norm_ (by simp only [putAll,Act.put,List.setIfInBounds_toArray,List.set_cons_zero,List.set_cons_succ]) (JT (.slice Az1 p1.length cz1,.slice Az2 p2.length cz2,.slice Az3 p3.length cz3,.slice Arz n3.length crz,.slice Ah1 v1.length ch1,.slice Ah2 v2.length ch2,.slice Ah3 v3.length ch3,gn) _ ⟨GI.out,Th1.out,Th2.out,Th3.out,BN.out,gnE.out⟩)
  refine join_ (σ := Value × Value × Value × Value) 7 #[true,true,true,true,false,false,false,false,false,false,false] (fun s_ => [(96,.agg #[.bool b,s_.1,s_.2.1,s_.2.2.1]),(98,.agg #[.int .i64 n0,.int .i64 n1,.int .i64 n2,s_.2.2.2])]) (fun s_ w' => Below w16c.heap.size w16c w' ∧ Kd.S k79 79 w' w16c.heap.size (fun _ => True) s_.1 p1 ∧ Kd.S k45 45 w' w16c.heap.size (fun _ => True) s_.2.1 p2 ∧ Kd.R (Kd.int .i64) 2 w' w16c.heap.size (fun _ => True) s_.2.2.1 p3 ∧ Kd.R k127 127 w' w16c.heap.size (fun _ => True) s_.2.2.2 n3) (fun s_ w' hF_ => ?_) (fun J4 => ?_)
  ·obtain ⟨mz1,mz2,mz3,mrz⟩ := s_
   obtain ⟨g_,mz1_,mz2_,mz3_,mrz_⟩ := hF_
   refine norm_ (a' := ?_) ?_ ?_
   rotate_left
   ·simp only [putAll,Act.put,List.setIfInBounds_toArray,List.set_cons_zero,List.set_cons_succ]
    rfl
   have GI := Aside0.mk g_
   clear g_
   have Tz1 := Aside0.mk mz1_
   have Tz2 := Aside0.mk mz2_
   have Tz3 := Aside0.mk mz3_
   clear mz1_ mz2_ mz3_
   obtain ⟨Az1,cz1,ez1⟩ := Kd.S_slice Tz1.out
   subst ez1
   obtain ⟨Az2,cz2,ez2⟩ := Kd.S_slice Tz2.out
   subst ez2
   obtain ⟨Az3,cz3,ez3⟩ := Kd.R_slice Tz3.out
   subst ez3
   have Tqz := Aside0.mk mrz_
   clear mrz_
   obtain ⟨Arz,crz,erz⟩ := Kd.R_slice Tqz.out
   subst erz
   refine two_ (i := 4) (j := 8) (Ni := some 99) (Nj := some 15) #[true,true,true,true,true,false,false,false,false,false,false] #[true,true,true,true,false,false,false,false,true,false,false] rfl rfl rfl rfl (by kernel_rfl) (by decide) (by decide) (fun K hK => ?_) (fun K hK => ?_)
   ·refine goes_ Try.func29 (by kernel_rfl) rfl #[.agg #[.bool b,.slice Az1 p1.length cz1,.slice Az2 p2.length cz2,.slice Az3 p3.length cz3],.agg #[.int .i64 n0,.int .i64 n1,.int .i64 n2,.slice Arz n3.length crz]] (by rfl) rfl rfl (by (try simp only [List.map_toArray,List.map_cons,List.map_nil]);first|done|rfl) ?_
    refine (impl_Append.calls k b Az1 cz1 p1 Az2 cz2 p2 Az3 cz3 p3 n0 n1 n2 Arz crz n3 vb v1 v2 v3 v4 _ (Kd.S_reads' Tz1.out).2.2 (Kd.S_reads' Tz1.out).2.1 (Kd.S_reads' Tz2.out).2.2 (Kd.S_reads' Tz2.out).2.1 (Kd.R_reads' Tz3.out).2.2 (Kd.R_reads' Tz3.out).2.1 (Kd.R_reads' Tqz.out).2.2 (Kd.R_reads' Tqz.out).2.1 F4.out).mono ?_
    rintro e wq ⟨mh1,mh2,mh3,rfl,S1,S2,S3,B⟩
    refine ⟨_,rfl,?_⟩
    have Th1 := Aside0.mk (Kd.S_lower S1 GI.out.size)
    have Th2 := Aside0.mk (Kd.S_lower S2 GI.out.size)
    have Th3 := Aside0.mk (Kd.R_lower S3 GI.out.size)
    clear S1 S2 S3
    have Tz1 := Aside0.mk (Kd.S_below Tz1.out B)
    have Tz2 := Aside0.mk (Kd.S_below Tz2.out B)
    have Tz3 := Aside0.mk (Kd.R_below Tz3.out B)
    have Tqz := Aside0.mk (Kd.R_below Tqz.out B)
    have GI := Aside0.mk (below_step GI.out B)
    clear B
    obtain ⟨Ah1,ch1,eh1⟩ := Kd.S_slice Th1.out
    subst eh1
    obtain ⟨Ah2,ch2,eh2⟩ := Kd.S_slice Th2.out
    subst eh2
    obtain ⟨Ah3,ch3,eh3⟩ := Kd.R_slice Th3.out
    subst eh3
    refine hK.out _ _ ⟨(blk_cell (blk_below BA.out (below_step D7.out GI.out)) 0).trans rfl,(blk_cell (blk_below BA.out (below_step D7.out GI.out)) 1).trans rfl,(blk_cell (blk_below BA.out (below_step D7.out GI.out)) 2).trans rfl,(blk_cell (blk_below BA.out (below_step D7.out GI.out)) 3).trans rfl,(blk_cell (blk_below BE.out (below_step D7.out GI.out)) 0).trans rfl,(blk_cell (blk_below BE.out (below_step D7.out GI.out)) 1).trans rfl,(blk_cell (blk_below BE.out (below_step D7.out GI.out)) 2).trans rfl,(blk_cell (blk_below BE.out (below_step D7.out GI.out)) 3).trans rfl⟩ (fun hHeld => ?_)
    clear hK K
    refine nr_ (some 99) _ ?_
    refine pure_ (i := 5) (N := some 94) (v := ?_) (a' := ?_) #[true,true,true,true,true,true,false,false,false,false,false] rfl rfl (by kernel_rfl) (fun _ _ _ h => h) (Or.inl ⟨by rfl,?_⟩) ?_ ?_
    rotate_left
    ·intro w'
     go_simp
     with_reducible rfl
    rotate_left
    ·simp only [Act.put,q1,q2,q3,i64_w,i32_w]
     rfl
    refine pure_ (i := 6) (N := some 100) (v := ?_) (a' := ?_) #[true,true,true,true,true,true,true,false,false,false,false] rfl rfl (by kernel_rfl) (fun _ _ _ h => h) (Or.inl ⟨by rfl,?_⟩) ?_ ?_
    rotate_left
    ·intro w'
     go_simp
     with_reducible rfl
    rotate_left
    ·simp only [Act.put,q1,q2,q3,i64_w,i32_w]
     rfl
    refine pure_ (i := 7) (N := some 101) (v := ?_) (a' := ?_) #[true,true,true,true,true,true,true,true,false,false,false] rfl rfl (by kernel_rfl) (fun _ _ _ h => h) (Or.inl ⟨by rfl,?_⟩) ?_ ?_
    rotate_left
    ·intro w'
     go_simp
     with_reducible rfl
    rotate_left
    ·simp only [Act.put,q1,q2,q3,i64_w,i32_w]
     rfl
    refine one_ (i := 8) (N := some 15) #[true,true,true,true,true,true,true,true,true,false,false] rfl rfl (by kernel_rfl) (by decide) (fun K hK => ?_)
    refine box_step ?hg (N := 15) ?hd (cs := #[.bool false,.slice none 0 0,.slice none 0 0,.slice none 0 0]) (t := 32) ?hr ?_;(case hd => rfl);(case hg => rfl);(case hr => first|(go_simp;done)|(go_simp;rfl))
    intro gn hg wq hbox hb
    have gnE : Aside0 (w16c.heap.size ≤ gn) := ⟨by rw [hg];exact GI.out.size⟩
    have BN := Aside0.mk hbox
    have B := hb
    clear hg hbox hb
    have Th1 := Aside0.mk (Kd.S_below Th1.out B)
    have Th2 := Aside0.mk (Kd.S_below Th2.out B)
    have Th3 := Aside0.mk (Kd.R_below Th3.out B)
    have GI := Aside0.mk (below_step GI.out B)
    clear B
    refine hK.out _ _ ⟨(blk_cell (blk_below BA.out (below_step D7.out GI.out)) 0).trans rfl,(blk_cell (blk_below BA.out (below_step D7.out GI.out)) 1).trans rfl,(blk_cell (blk_below BA.out (below_step D7.out GI.out)) 2).trans rfl,(blk_cell (blk_below BA.out (below_step D7.out GI.out)) 3).trans rfl,(blk_cell (blk_below BE.out (below_step D7.out GI.out)) 0).trans rfl,(blk_cell (blk_below BE.out (below_step D7.out GI.out)) 1).trans rfl,(blk_cell (blk_below BE.out (below_step D7.out GI.out)) 2).trans rfl,(blk_cell (blk_below BE.out (below_step D7.out GI.out)) 3).trans rfl⟩ (fun hHeld => ?_)
    clear hK K
    refine nr_ (some 15) _ ?_
    exact norm_ (by simp only [putAll,Act.put,List.setIfInBounds_toArray,List.set_cons_zero,List.set_cons_succ]) (JT (.slice Az1 p1.length cz1,.slice Az2 p2.length cz2,.slice Az3 p3.length cz3,.slice Arz n3.length crz,.slice Ah1 v1.length ch1,.slice Ah2 v2.length ch2,.slice Ah3 v3.length ch3,gn) _ ⟨GI.out,Th1.out,Th2.out,Th3.out,BN.out,gnE.out⟩)
   ·refine box_step ?hg (N := 15) ?hd (cs := #[.bool false,.slice none 0 0,.slice none 0 0,.slice none 0 0]) (t := 32) ?hr ?_;(case hd => rfl);(case hg => rfl);(case hr => first|(go_simp;done)|(go_simp;rfl))
    intro gn hg wq hbox hb
    have gnE : Aside0 (w16c.heap.size ≤ gn) := ⟨by rw [hg];exact GI.out.size⟩
    have BN := Aside0.mk hbox
    have B := hb
    clear hg hbox hb
    have Tz1 := Aside0.mk (Kd.S_below Tz1.out B)
    have Tz2 := Aside0.mk (Kd.S_below Tz2.out B)
    have Tz3 := Aside0.mk (Kd.R_below Tz3.out B)
    have Tqz := Aside0.mk (Kd.R_below Tqz.out B)
    have GI := Aside0.mk (below_step GI.out B)
    clear B
    refine hK.out _ _ ⟨(blk_cell (blk_below BA.out (below_step D7.out GI.out)) 0).trans rfl,(blk_cell (blk_below BA.out (below_step D7.out GI.out)) 1).trans rfl,(blk_cell (blk_below BA.out (below_step D7.out GI.out)) 2).trans rfl,(blk_cell (blk_below BA.out (below_step D7.out GI.out)) 3).trans rfl,(blk_cell (blk_below BE.out (below_step D7.out GI.out)) 0).trans rfl,(blk_cell (blk_below BE.out (below_step D7.out GI.out)) 1).trans rfl,(blk_cell (blk_below BE.out (below_step D7.out GI.out)) 2).trans rfl,(blk_cell (blk_below BE.out (below_step D7.out GI.out)) 3).trans rfl⟩ (fun hHeld => ?_)
    clear hK K
    refine nr_ (some 15) _ ?_
    exact norm_ (by simp only [putAll,Act.put,List.setIfInBounds_toArray,List.set_cons_zero,List.set_cons_succ]) (J4g (.slice Az1 p1.length cz1,.slice Az2 p2.length cz2,.slice Az3 p3.length cz3,.slice Arz n3.length crz,gn) _ ⟨GI.out,Tz1.out,Tz2.out,Tz3.out,Tqz.out,BN.out,gnE.out⟩)
  refine join_ (σ := Value × Value × Value × Nat) 7 #[true,true,true,false,false,false,false,false,true,false,false] (fun s_ => [(96,.agg #[.bool b,s_.1,s_.2.1,s_.2.2.1]),(15,.pointer (some ⟨s_.2.2.2,0,none⟩))]) (fun s_ w' => Below w16c.heap.size w16c w' ∧ Kd.S k79 79 w' w16c.heap.size (fun _ => True) s_.1 p1 ∧ Kd.S k45 45 w' w16c.heap.size (fun _ => True) s_.2.1 p2 ∧ Kd.R (Kd.int .i64) 2 w' w16c.heap.size (fun _ => True) s_.2.2.1 p3 ∧ w'.heap[s_.2.2.2]? = some (.cells #[.bool false,.slice none 0 0,.slice none 0 0,.slice none 0 0] 32 (0,0)) ∧ w16c.heap.size ≤ s_.2.2.2) (fun s_ w' hF_ => ?_) (fun J3g => ?_)
  ·obtain ⟨mz1,mz2,mz3,gn⟩ := s_
   obtain ⟨g_,mz1_,mz2_,mz3_,bn_,gnE_⟩ := hF_
   refine norm_ (a' := ?_) ?_ ?_
   rotate_left
   ·simp only [putAll,Act.put,List.setIfInBounds_toArray,List.set_cons_zero,List.set_cons_succ]
    rfl
   have GI := Aside0.mk g_
   clear g_
   have BN := Aside0.mk bn_
   have gnE := Aside0.mk gnE_
   clear bn_ gnE_
   have Tz1 := Aside0.mk mz1_
   have Tz2 := Aside0.mk mz2_
   have Tz3 := Aside0.mk mz3_
   clear mz1_ mz2_ mz3_
   obtain ⟨Az1,cz1,ez1⟩ := Kd.S_slice Tz1.out
   subst ez1
   obtain ⟨Az2,cz2,ez2⟩ := Kd.S_slice Tz2.out
   subst ez2
   obtain ⟨Az3,cz3,ez3⟩ := Kd.R_slice Tz3.out
   subst ez3
   refine one_ (i := 3) (N := some 98) #[true,true,true,true,false,false,false,false,true,false,false] rfl rfl (by kernel_rfl) (by decide) (fun K hK => ?_)
   refine goes_ Try.func28 (by kernel_rfl) rfl #[.agg #[.int .i64 a1_0,.int .i64 a1_1,.int .i64 a1_2,.slice A1_3 l1_3.length c1_3]] (by rfl) rfl rfl (by (try simp only [List.map_toArray,List.map_cons,List.map_nil]);first|done|rfl) ?_
   refine (laws_toRecord.calls k a1_0 a1_1 a1_2 A1_3 c1_3 l1_3 n0 n1 n2 n3 _ (Kd.C_below HR4.out (below_step D7.out GI.out)) HC4.out F2.out).mono ?_
   rintro e wq ⟨mrz,rfl,S,B⟩
   refine ⟨_,rfl,?_⟩
   have Tqz := Aside0.mk (Kd.R_lower S GI.out.size)
   clear S
   have Tz1 := Aside0.mk (Kd.S_below Tz1.out B)
   have Tz2 := Aside0.mk (Kd.S_below Tz2.out B)
   have Tz3 := Aside0.mk (Kd.R_below Tz3.out B)
   have BN := Aside0.mk (blk_below BN.out B)
   have GI := Aside0.mk (below_step GI.out B)
   clear B
   obtain ⟨Arz,crz,erz⟩ := Kd.R_slice Tqz.out
   subst erz
   refine hK.out _ _ ⟨(blk_cell (blk_below BA.out (below_step D7.out GI.out)) 0).trans rfl,(blk_cell (blk_below BA.out (below_step D7.out GI.out)) 1).trans rfl,(blk_cell (blk_below BA.out (below_step D7.out GI.out)) 2).trans rfl,(blk_cell (blk_below BA.out (below_step D7.out GI.out)) 3).trans rfl,(blk_cell (blk_below BE.out (below_step D7.out GI.out)) 0).trans rfl,(blk_cell (blk_below BE.out (below_step D7.out GI.out)) 1).trans rfl,(blk_cell (blk_below BE.out (below_step D7.out GI.out)) 2).trans rfl,(blk_cell (blk_below BE.out (below_step D7.out GI.out)) 3).trans rfl⟩ (fun hHeld => ?_)
   clear hK K
   refine nr_ (some 98) _ ?_
   exact norm_ (by simp only [putAll,Act.put,List.setIfInBounds_toArray,List.set_cons_zero,List.set_cons_succ]) (J4g (.slice Az1 p1.length cz1,.slice Az2 p2.length cz2,.slice Az3 p3.length cz3,.slice Arz n3.length crz,gn) _ ⟨GI.out,Tz1.out,Tz2.out,Tz3.out,Tqz.out,BN.out,gnE.out⟩)
  refine join_ (σ := Value × Value × Value) 8 #[true,true,true,false,false,false,false,false,false,false,false] (fun s_ => [(96,.agg #[.bool b,s_.1,s_.2.1,s_.2.2])]) (fun s_ w' => Below w16c.heap.size w16c w' ∧ Kd.S k79 79 w' w16c.heap.size (fun _ => True) s_.1 p1 ∧ Kd.S k45 45 w' w16c.heap.size (fun _ => True) s_.2.1 p2 ∧ Kd.R (Kd.int .i64) 2 w' w16c.heap.size (fun _ => True) s_.2.2 p3) (fun s_ w' hF_ => ?_) (fun J3 => ?_)
  ·obtain ⟨mz1,mz2,mz3⟩ := s_
   obtain ⟨g_,mz1_,mz2_,mz3_⟩ := hF_
   refine norm_ (a' := ?_) ?_ ?_
   rotate_left
   ·simp only [putAll,Act.put,List.setIfInBounds_toArray,List.set_cons_zero,List.set_cons_succ]
    rfl
   have GI := Aside0.mk g_
   clear g_
   have Tz1 := Aside0.mk mz1_
   have Tz2 := Aside0.mk mz2_
   have Tz3 := Aside0.mk mz3_
   clear mz1_ mz2_ mz3_
   obtain ⟨Az1,cz1,ez1⟩ := Kd.S_slice Tz1.out
   subst ez1
   obtain ⟨Az2,cz2,ez2⟩ := Kd.S_slice Tz2.out
   subst ez2
   obtain ⟨Az3,cz3,ez3⟩ := Kd.R_slice Tz3.out
   subst ez3
   refine two_ (i := 3) (j := 8) (Ni := some 98) (Nj := some 15) #[true,true,true,true,false,false,false,false,false,false,false] #[true,true,true,false,false,false,false,false,true,false,false] rfl rfl rfl rfl (by kernel_rfl) (by decide) (by decide) (fun K hK => ?_) (fun K hK => ?_)
   ·refine goes_ Try.func28 (by kernel_rfl) rfl #[.agg #[.int .i64 a1_0,.int .i64 a1_1,.int .i64 a1_2,.slice A1_3 l1_3.length c1_3]] (by rfl) rfl rfl (by (try simp only [List.map_toArray,List.map_cons,List.map_nil]);first|done|rfl) ?_
    refine (laws_toRecord.calls k a1_0 a1_1 a1_2 A1_3 c1_3 l1_3 n0 n1 n2 n3 _ (Kd.C_below HR4.out (below_step D7.out GI.out)) HC4.out F2.out).mono ?_
    rintro e wq ⟨mrz,rfl,S,B⟩
    refine ⟨_,rfl,?_⟩
    have Tqz := Aside0.mk (Kd.R_lower S GI.out.size)
    clear S
    have Tz1 := Aside0.mk (Kd.S_below Tz1.out B)
    have Tz2 := Aside0.mk (Kd.S_below Tz2.out B)
    have Tz3 := Aside0.mk (Kd.R_below Tz3.out B)
    have GI := Aside0.mk (below_step GI.out B)
    clear B
    obtain ⟨Arz,crz,erz⟩ := Kd.R_slice Tqz.out
    subst erz
    refine hK.out _ _ ⟨(blk_cell (blk_below BA.out (below_step D7.out GI.out)) 0).trans rfl,(blk_cell (blk_below BA.out (below_step D7.out GI.out)) 1).trans rfl,(blk_cell (blk_below BA.out (below_step D7.out GI.out)) 2).trans rfl,(blk_cell (blk_below BA.out (below_step D7.out GI.out)) 3).trans rfl,(blk_cell (blk_below BE.out (below_step D7.out GI.out)) 0).trans rfl,(blk_cell (blk_below BE.out (below_step D7.out GI.out)) 1).trans rfl,(blk_cell (blk_below BE.out (below_step D7.out GI.out)) 2).trans rfl,(blk_cell (blk_below BE.out (below_step D7.out GI.out)) 3).trans rfl⟩ (fun hHeld => ?_)
    clear hK K
    refine nr_ (some 98) _ ?_
    exact norm_ (by simp only [putAll,Act.put,List.setIfInBounds_toArray,List.set_cons_zero,List.set_cons_succ]) (J4 (.slice Az1 p1.length cz1,.slice Az2 p2.length cz2,.slice Az3 p3.length cz3,.slice Arz n3.length crz) _ ⟨GI.out,Tz1.out,Tz2.out,Tz3.out,Tqz.out⟩)
   ·refine box_step ?hg (N := 15) ?hd (cs := #[.bool false,.slice none 0 0,.slice none 0 0,.slice none 0 0]) (t := 32) ?hr ?_;(case hd => rfl);(case hg => rfl);(case hr => first|(go_simp;done)|(go_simp;rfl))
    intro gn hg wq hbox hb
    have gnE : Aside0 (w16c.heap.size ≤ gn) := ⟨by rw [hg];exact GI.out.size⟩
    have BN := Aside0.mk hbox
    have B := hb
    clear hg hbox hb
    have Tz1 := Aside0.mk (Kd.S_below Tz1.out B)
    have Tz2 := Aside0.mk (Kd.S_below Tz2.out B)
    have Tz3 := Aside0.mk (Kd.R_below Tz3.out B)
    have GI := Aside0.mk (below_step GI.out B)
    clear B
    refine hK.out _ _ ⟨(blk_cell (blk_below BA.out (below_step D7.out GI.out)) 0).trans rfl,(blk_cell (blk_below BA.out (below_step D7.out GI.out)) 1).trans rfl,(blk_cell (blk_below BA.out (below_step D7.out GI.out)) 2).trans rfl,(blk_cell (blk_below BA.out (below_step D7.out GI.out)) 3).trans rfl,(blk_cell (blk_below BE.out (below_step D7.out GI.out)) 0).trans rfl,(blk_cell (blk_below BE.out (below_step D7.out GI.out)) 1).trans rfl,(blk_cell (blk_below BE.out (below_step D7.out GI.out)) 2).trans rfl,(blk_cell (blk_below BE.out (below_step D7.out GI.out)) 3).trans rfl⟩ (fun hHeld => ?_)
    clear hK K
    refine nr_ (some 15) _ ?_
    exact norm_ (by simp only [putAll,Act.put,List.setIfInBounds_toArray,List.set_cons_zero,List.set_cons_succ]) (J3g (.slice Az1 p1.length cz1,.slice Az2 p2.length cz2,.slice Az3 p3.length cz3,gn) _ ⟨GI.out,Tz1.out,Tz2.out,Tz3.out,BN.out,gnE.out⟩)
  refine two_ (i := 1) (j := 8) (Ni := some 96) (Nj := some 15) #[true,true,true,false,false,false,false,false,false,false,false] #[true,false,true,false,false,false,false,false,true,false,false] rfl rfl rfl rfl (by kernel_rfl) (by decide) (by decide) (fun K hK => ?_) (fun K hK => ?_)
  ·refine goes_ Try.func12 (by kernel_rfl) rfl #[.agg #[.bool a0_0,.slice A0_1 l0_1.length c0_1,.slice A0_2 l0_2.length c0_2,.slice A0_3 l0_3.length c0_3]] (by rfl) rfl rfl (by (try simp only [List.map_toArray,List.map_cons,List.map_nil]);first|done|rfl) ?_
   refine (laws_toMachine.calls k a0_0 A0_1 c0_1 l0_1 A0_2 c0_2 l0_2 A0_3 c0_3 l0_3 b p1 p2 p3 _ (Kd.C_below HR1.out (below_step D7.out GI.out)) HC1.out (Kd.C_below HR2.out (below_step D7.out GI.out)) HC2.out (Kd.C_below HR3.out (below_step D7.out GI.out)) HC3.out F1.out).mono ?_
   rintro e wq ⟨mz1,mz2,mz3,rfl,S1,S2,S3,B⟩
   refine ⟨_,rfl,?_⟩
   have Tz1 := Aside0.mk (Kd.S_lower S1 GI.out.size)
   have Tz2 := Aside0.mk (Kd.S_lower S2 GI.out.size)
   have Tz3 := Aside0.mk (Kd.R_lower S3 GI.out.size)
   clear S1 S2 S3
   have GI := Aside0.mk (below_step GI.out B)
   clear B
   obtain ⟨Az1,cz1,ez1⟩ := Kd.S_slice Tz1.out
   subst ez1
   obtain ⟨Az2,cz2,ez2⟩ := Kd.S_slice Tz2.out
   subst ez2
   obtain ⟨Az3,cz3,ez3⟩ := Kd.R_slice Tz3.out
   subst ez3
   refine hK.out _ _ ⟨(blk_cell (blk_below BA.out (below_step D7.out GI.out)) 0).trans rfl,(blk_cell (blk_below BA.out (below_step D7.out GI.out)) 1).trans rfl,(blk_cell (blk_below BA.out (below_step D7.out GI.out)) 2).trans rfl,(blk_cell (blk_below BA.out (below_step D7.out GI.out)) 3).trans rfl,(blk_cell (blk_below BE.out (below_step D7.out GI.out)) 0).trans rfl,(blk_cell (blk_below BE.out (below_step D7.out GI.out)) 1).trans rfl,(blk_cell (blk_below BE.out (below_step D7.out GI.out)) 2).trans rfl,(blk_cell (blk_below BE.out (below_step D7.out GI.out)) 3).trans rfl⟩ (fun hHeld => ?_)
   clear hK K
   refine nr_ (some 96) _ ?_
   exact norm_ (by simp only [putAll,Act.put,List.setIfInBounds_toArray,List.set_cons_zero,List.set_cons_succ]) (J3 (.slice Az1 p1.length cz1,.slice Az2 p2.length cz2,.slice Az3 p3.length cz3) _ ⟨GI.out,Tz1.out,Tz2.out,Tz3.out⟩)
  ·refine box_step ?hg (N := 15) ?hd (cs := #[.bool false,.slice none 0 0,.slice none 0 0,.slice none 0 0]) (t := 32) ?hr ?_;(case hd => rfl);(case hg => rfl);(case hr => first|(go_simp;done)|(go_simp;rfl))
   intro gn hg wq hbox hb
   have gnE : Aside0 (w16c.heap.size ≤ gn) := ⟨by rw [hg];exact GI.out.size⟩
   have BN := Aside0.mk hbox
   have B := hb
   clear hg hbox hb
   have GI := Aside0.mk (below_step GI.out B)
   clear B
   refine hK.out _ _ ⟨(blk_cell (blk_below BA.out (below_step D7.out GI.out)) 0).trans rfl,(blk_cell (blk_below BA.out (below_step D7.out GI.out)) 1).trans rfl,(blk_cell (blk_below BA.out (below_step D7.out GI.out)) 2).trans rfl,(blk_cell (blk_below BA.out (below_step D7.out GI.out)) 3).trans rfl,(blk_cell (blk_below BE.out (below_step D7.out GI.out)) 0).trans rfl,(blk_cell (blk_below BE.out (below_step D7.out GI.out)) 1).trans rfl,(blk_cell (blk_below BE.out (below_step D7.out GI.out)) 2).trans rfl,(blk_cell (blk_below BE.out (below_step D7.out GI.out)) 3).trans rfl⟩ (fun hHeld => ?_)
   clear hK K
   refine nr_ (some 15) _ ?_
   refine one_ (i := 1) (N := some 96) #[true,true,true,false,false,false,false,false,true,false,false] rfl rfl (by kernel_rfl) (by decide) (fun K hK => ?_)
   refine goes_ Try.func12 (by kernel_rfl) rfl #[.agg #[.bool a0_0,.slice A0_1 l0_1.length c0_1,.slice A0_2 l0_2.length c0_2,.slice A0_3 l0_3.length c0_3]] (by rfl) rfl rfl (by (try simp only [List.map_toArray,List.map_cons,List.map_nil]);first|done|rfl) ?_
   refine (laws_toMachine.calls k a0_0 A0_1 c0_1 l0_1 A0_2 c0_2 l0_2 A0_3 c0_3 l0_3 b p1 p2 p3 _ (Kd.C_below HR1.out (below_step D7.out GI.out)) HC1.out (Kd.C_below HR2.out (below_step D7.out GI.out)) HC2.out (Kd.C_below HR3.out (below_step D7.out GI.out)) HC3.out F1.out).mono ?_
   rintro e wq ⟨mz1,mz2,mz3,rfl,S1,S2,S3,B⟩
   refine ⟨_,rfl,?_⟩
   have Tz1 := Aside0.mk (Kd.S_lower S1 GI.out.size)
   have Tz2 := Aside0.mk (Kd.S_lower S2 GI.out.size)
   have Tz3 := Aside0.mk (Kd.R_lower S3 GI.out.size)
   clear S1 S2 S3
   have BN := Aside0.mk (blk_below BN.out B)
   have GI := Aside0.mk (below_step GI.out B)
   clear B
   obtain ⟨Az1,cz1,ez1⟩ := Kd.S_slice Tz1.out
   subst ez1
   obtain ⟨Az2,cz2,ez2⟩ := Kd.S_slice Tz2.out
   subst ez2
   obtain ⟨Az3,cz3,ez3⟩ := Kd.R_slice Tz3.out
   subst ez3
   refine hK.out _ _ ⟨(blk_cell (blk_below BA.out (below_step D7.out GI.out)) 0).trans rfl,(blk_cell (blk_below BA.out (below_step D7.out GI.out)) 1).trans rfl,(blk_cell (blk_below BA.out (below_step D7.out GI.out)) 2).trans rfl,(blk_cell (blk_below BA.out (below_step D7.out GI.out)) 3).trans rfl,(blk_cell (blk_below BE.out (below_step D7.out GI.out)) 0).trans rfl,(blk_cell (blk_below BE.out (below_step D7.out GI.out)) 1).trans rfl,(blk_cell (blk_below BE.out (below_step D7.out GI.out)) 2).trans rfl,(blk_cell (blk_below BE.out (below_step D7.out GI.out)) 3).trans rfl⟩ (fun hHeld => ?_)
   clear hK K
   refine nr_ (some 96) _ ?_
   exact norm_ (by simp only [putAll,Act.put,List.setIfInBounds_toArray,List.set_cons_zero,List.set_cons_succ]) (J3g (.slice Az1 p1.length cz1,.slice Az2 p2.length cz2,.slice Az3 p3.length cz3,gn) _ ⟨GI.out,Tz1.out,Tz2.out,Tz3.out,BN.out,gnE.out⟩)
 obtain ⟨mz1,mz2,mz3,mrz,mh1,mh2,mh3,gh⟩ := s_
 obtain ⟨g_,mh1_,mh2_,mh3_,bn_,gnE_⟩ := hF_
 refine norm_ (a' := ?_) ?_ ?_
 rotate_left
 ·simp only [putAll,Act.put,List.setIfInBounds_toArray,List.set_cons_zero,List.set_cons_succ]
  rfl
 have GI := Aside0.mk g_
 have BN := Aside0.mk bn_
 have GN := Aside0.mk gnE_
 clear g_ bn_ gnE_
 have Th1 := Aside0.mk mh1_
 have Th2 := Aside0.mk mh2_
 have Th3 := Aside0.mk mh3_
 clear mh1_ mh2_ mh3_
 obtain ⟨Ah1,ch1,eh1⟩ := Kd.S_slice Th1.out
 subst eh1
 obtain ⟨Ah2,ch2,eh2⟩ := Kd.S_slice Th2.out
 subst eh2
 obtain ⟨Ah3,ch3,eh3⟩ := Kd.R_slice Th3.out
 subst eh3
 have hcghn_0 : wq.cell? ⟨gh,0,none⟩ = some (.bool false) := (blk_cell BN.out 0).trans rfl
 have hcghn_1 : wq.cell? ⟨gh,1,none⟩ = some (.slice none 0 0) := (blk_cell BN.out 1).trans rfl
 have hcghn_2 : wq.cell? ⟨gh,2,none⟩ = some (.slice none 0 0) := (blk_cell BN.out 2).trans rfl
 have hcghn_3 : wq.cell? ⟨gh,3,none⟩ = some (.slice none 0 0) := (blk_cell BN.out 3).trans rfl
 have hfn_0 := blk_frozen BN.out 0
 have hfn_1 := blk_frozen BN.out 1
 have hfn_2 := blk_frozen BN.out 2
 have hfn_3 := blk_frozen BN.out 3
 refine last_ (i := 9) (N := none) #[true,true,true,true,true,true,true,true,true,true,false] rfl rfl (by kernel_rfl) (by decide) (fun K hK => ?_)
 refine skip_ (w1 := ((((wq.setCell ⟨gh,0,none⟩ (.bool vb)).setCell ⟨gh,1,none⟩ (.slice Ah1 v1.length ch1)).setCell ⟨gh,2,none⟩ (.slice Ah2 v2.length ch2)).setCell ⟨gh,3,none⟩ (.slice Ah3 v3.length ch3))) (by rfl) rfl ?_ ?_
 ·first|(go_simp;done)|(go_simp;rfl)|(go_simp;simp)
 refine hK.out _ _ ?_
 clear hK K
 refine pure_ (i := 10) (N := some 16) (v := ?_) (a' := ?_) #[true,true,true,true,true,true,true,true,true,true,true] rfl rfl (by kernel_rfl) (fun _ _ _ h => h) (Or.inl ⟨by rfl,?_⟩) ?_ ?_
 rotate_left
 ·intro w'
  go_simp
  with_reducible rfl
 rotate_left
 ·simp only [Act.put,q1,q2,q3,i64_w,i32_w]
  rfl
 refine done_ (by kernel_rfl) ?_
 clear hcghn_0 hfn_0 hcghn_1 hfn_1 hcghn_2 hfn_2 hcghn_3 hfn_3
 have n1_ := Aside0.mk (Kd.S_mono (Kd.S_far (p := ⟨gh,3,none⟩) (Kd.S_far (p := ⟨gh,2,none⟩) (Kd.S_far (p := ⟨gh,1,none⟩) (Kd.S_far (p := ⟨gh,0,none⟩) (Kd.S_types Th1.out BN.out (by decide)) (fun _ h_ => h_.2) (.bool vb)) (fun _ h_ => h_.2) (.slice Ah1 v1.length ch1)) (fun _ h_ => h_.2) (.slice Ah2 v2.length ch2)) (fun _ h_ => h_.2) (.slice Ah3 v3.length ch3)) (fun _ _ => trivial))
 have n2_ := Aside0.mk (Kd.S_mono (Kd.S_far (p := ⟨gh,3,none⟩) (Kd.S_far (p := ⟨gh,2,none⟩) (Kd.S_far (p := ⟨gh,1,none⟩) (Kd.S_far (p := ⟨gh,0,none⟩) (Kd.S_types Th2.out BN.out (by decide)) (fun _ h_ => h_.2) (.bool vb)) (fun _ h_ => h_.2) (.slice Ah1 v1.length ch1)) (fun _ h_ => h_.2) (.slice Ah2 v2.length ch2)) (fun _ h_ => h_.2) (.slice Ah3 v3.length ch3)) (fun _ _ => trivial))
 have n3_ := Aside0.mk (Kd.R_mono (Kd.R_far (p := ⟨gh,3,none⟩) (Kd.R_far (p := ⟨gh,2,none⟩) (Kd.R_far (p := ⟨gh,1,none⟩) (Kd.R_far (p := ⟨gh,0,none⟩) (Kd.R_types Th3.out BN.out (by decide)) (fun _ h_ => h_.2) (.bool vb)) (fun _ h_ => h_.2) (.slice Ah1 v1.length ch1)) (fun _ h_ => h_.2) (.slice Ah2 v2.length ch2)) (fun _ h_ => h_.2) (.slice Ah3 v3.length ch3)) (fun _ _ => trivial))
 have n4_ : Aside0 (((((wq.setCell ⟨gh,0,none⟩ (.bool vb)).setCell ⟨gh,1,none⟩ (.slice Ah1 v1.length ch1)).setCell ⟨gh,2,none⟩ (.slice Ah2 v2.length ch2)).setCell ⟨gh,3,none⟩ (.slice Ah3 v3.length ch3)).heap[gh]? = some (.cells #[.bool vb,.slice Ah1 v1.length ch1,.slice Ah2 v2.length ch2,.slice Ah3 v3.length ch3] 32 (0,0))) := ⟨by refine blk_put (cs := #[.bool vb,.slice Ah1 v1.length ch1,.slice Ah2 v2.length ch2,.slice none 0 0]) ?_ 3 _ rfl;refine blk_put (cs := #[.bool vb,.slice Ah1 v1.length ch1,.slice none 0 0,.slice none 0 0]) ?_ 2 _ rfl;refine blk_put (cs := #[.bool vb,.slice none 0 0,.slice none 0 0,.slice none 0 0]) ?_ 1 _ rfl;refine blk_put (cs := #[.bool false,.slice none 0 0,.slice none 0 0,.slice none 0 0]) ?_ 0 _ rfl;exact BN.out⟩
 have n5_ : Aside0 (Below w16c.heap.size w16c ((((wq.setCell ⟨gh,0,none⟩ (.bool vb)).setCell ⟨gh,1,none⟩ (.slice Ah1 v1.length ch1)).setCell ⟨gh,2,none⟩ (.slice Ah2 v2.length ch2)).setCell ⟨gh,3,none⟩ (.slice Ah3 v3.length ch3))) := ⟨below_set (below_set (below_set (below_set GI.out GN.out) GN.out) GN.out) GN.out⟩
 clear BN GI hHeld Th1 Th2 Th3
 generalize ((((wq.setCell ⟨gh,0,none⟩ (.bool vb)).setCell ⟨gh,1,none⟩ (.slice Ah1 v1.length ch1)).setCell ⟨gh,2,none⟩ (.slice Ah2 v2.length ch2)).setCell ⟨gh,3,none⟩ (.slice Ah3 v3.length ch3)) = w17 at n1_ n2_ n3_ n4_ n5_ ⊢
 have Th1 := n1_
 have Th2 := n2_
 have Th3 := n3_
 have BH := n4_
 have B := n5_.out
 have GNgh := GN
 clear n1_ n2_ n3_ n4_ n5_ GN
 have Tv1 := Aside0.mk (Kd.S_below Tv1.out B)
 have Tv2 := Aside0.mk (Kd.S_below Tv2.out B)
 have Tv3 := Aside0.mk (Kd.R_below Tv3.out B)
 have G := Aside0.mk (below_step G.out B)
 have BG := Aside0.mk (blk_below BG.out B)
 clear B
 have Tm1 := Aside0.mk (Kd.S_below Tu1.out G.out)
 have Tm2 := Aside0.mk (Kd.S_below Tu2.out G.out)
 have Tm3 := Aside0.mk (Kd.R_below Tu3.out G.out)
 have hcgh15_0 : w17.cell? ⟨gh,0,none⟩ = some (.bool vb) := (blk_cell BH.out 0).trans rfl
 have hcgh15_1 : w17.cell? ⟨gh,1,none⟩ = some (.slice Ah1 v1.length ch1) := (blk_cell BH.out 1).trans rfl
 have hcgh15_2 : w17.cell? ⟨gh,2,none⟩ = some (.slice Ah2 v2.length ch2) := (blk_cell BH.out 2).trans rfl
 have hcgh15_3 : w17.cell? ⟨gh,3,none⟩ = some (.slice Ah3 v3.length ch3) := (blk_cell BH.out 3).trans rfl
 have hcgw16_0 : w17.cell? ⟨gw,0,none⟩ = some (.bool ub) := (blk_cell (blk_below BW.out G.out) 0).trans rfl
 have hcgw16_1 : w17.cell? ⟨gw,1,none⟩ = some (.slice Au1 u1.length cu1) := (blk_cell (blk_below BW.out G.out) 1).trans rfl
 have hcgw16_2 : w17.cell? ⟨gw,2,none⟩ = some (.slice Au2 u2.length cu2) := (blk_cell (blk_below BW.out G.out) 2).trans rfl
 have hcgw16_3 : w17.cell? ⟨gw,3,none⟩ = some (.slice Au3 u3.length cu3) := (blk_cell (blk_below BW.out G.out) 3).trans rfl
 go_wp2_with ((with_reducible refine gcal_ (f := 14) rfl ?_);refine goesL_ (some 104) rfl rfl Try.func14 (by kernel_rfl) rfl #[.agg #[.bool vb,.slice Ah1 v1.length ch1,.slice Ah2 v2.length ch2,.slice Ah3 v3.length ch3],.agg #[.bool ub,.slice Au1 u1.length cu1,.slice Au2 u2.length cu2,.slice Au3 u3.length cu3]] rfl (by (try simp only [List.map_toArray,List.map_cons,List.map_nil]);first|done|rfl) ?_;refine (laws_eqMachine.calls k vb Ah1 ch1 v1 Ah2 ch2 v2 Ah3 ch3 v3 ub Au1 cu1 u1 Au2 cu2 u2 Au3 cu3 u3 true _ (Kd.S_reads' Th1.out).2.2 (Kd.S_reads' Th1.out).2.1 (Kd.S_reads' Th2.out).2.2 (Kd.S_reads' Th2.out).2.1 (Kd.R_reads' Th3.out).2.2 (Kd.R_reads' Th3.out).2.1 (Kd.S_reads' Tm1.out).2.2 (Kd.S_reads' Tm1.out).2.1 (Kd.S_reads' Tm2.out).2.2 (Kd.S_reads' Tm2.out).2.1 (Kd.R_reads' Tm3.out).2.2 (Kd.R_reads' Tm3.out).2.1 F5.out).mono ?_;rintro e w18 ⟨rfl,B⟩;refine ⟨_,rfl,?_⟩;refine hold_6 ?_)
 refine ⟨?_⟩
 have Tv1 := Aside0.mk (Kd.S_below Tv1.out B)
 have Tv2 := Aside0.mk (Kd.S_below Tv2.out B)
 have Tv3 := Aside0.mk (Kd.R_below Tv3.out B)
 have G := Aside0.mk (below_step G.out B)
 have BG := Aside0.mk (blk_below BG.out B)
 clear B
 have hcgg17_0 : w18.cell? ⟨gg,0,none⟩ = some (.bool vb) := (blk_cell BG.out 0).trans rfl
 have hcgg17_1 : w18.cell? ⟨gg,1,none⟩ = some (.slice Av1 y1.length cv1) := (blk_cell BG.out 1).trans rfl
 have hcgg17_2 : w18.cell? ⟨gg,2,none⟩ = some (.slice Av2 y2.length cv2) := (blk_cell BG.out 2).trans rfl
 have hcgg17_3 : w18.cell? ⟨gg,3,none⟩ = some (.slice Av3 y3.length cv3) := (blk_cell BG.out 3).trans rfl
 go_wp2_with ((with_reducible refine gcal_ (f := 30) rfl ?_);refine goesL_ (some 113) rfl rfl Try.func30 (by kernel_rfl) rfl #[.agg #[.bool vb,.slice Av1 y1.length cv1,.slice Av2 y2.length cv2,.slice Av3 y3.length cv3],.int .i64 1] rfl (by (try simp only [List.map_toArray,List.map_cons,List.map_nil]);first|done|rfl) ?_;refine (laws_heldMachine.calls k vb Av1 cv1 y1 Av2 cv2 y2 Av3 cv3 y3 1 q _ (Kd.S_reads' Tv1.out).2.2 (Kd.S_reads' Tv1.out).2.1 (Kd.S_reads' Tv2.out).2.2 (Kd.S_reads' Tv2.out).2.1 (Kd.R_reads' Tv3.out).2.2 (Kd.R_reads' Tv3.out).2.1 F11.out).mono ?_;rintro e w19 ⟨rfl,B⟩;refine ⟨_,rfl,?_⟩;refine hold_6 ?_)
 refine ⟨?_⟩
 have D16 := Aside0.mk (below_step D0.out (below_step D3.out (below_step G.out B)))
 clear B
 go_wp2
 go_ret
 exact ⟨rfl,D16.out⟩

end Go.Proofs.Ythplaakckfhaaaa.XAp
