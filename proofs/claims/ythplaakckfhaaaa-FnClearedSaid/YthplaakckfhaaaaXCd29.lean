/- Proved: of each Go function here that a call comes to what the Lean function of its name tells. Written by a program of this session over the translation. No conditions beyond each theorem's own. -/
import Derived.Test.YthplaakckfhaaaaXCd0
import Derived.Test.YthplaakckfhaaaaXCd11
import Derived.Test.YthplaakckfhaaaaXCd18
import Derived.Test.YthplaakckfhaaaaXCd21
import Derived.Test.YthplaakckfhaaaaXCd3
import Derived.Test.YthplaakckfhaaaaXCd4
import Derived.Test.YthplaakckfhaaaaXCd5
import Derived.Test.YthplaakckfhaaaaXCd6
import Derived.Test.YthplaakckfhaaaaXCd7
import Derived.Test.YthplaakckfhaaaaXCd8
import Derived.Test.YthplaakckfhaaaaXCd9
import Derived.Test.YthplaakckfhaaaaXCd10
import Derived.Test.YthplaakckfhaaaaXCd12
import Derived.Test.YthplaakckfhaaaaXCd13
import Derived.Test.YthplaakckfhaaaaXCd14
import Derived.Test.YthplaakckfhaaaaXCd15
import Derived.Test.YthplaakckfhaaaaXCd16
import Derived.Test.YthplaakckfhaaaaXCd17
import Derived.Test.YthplaakckfhaaaaXCd22
import Derived.Test.YthplaakckfhaaaaXCd24
import Derived.Test.YthplaakckfhaaaaXCd25
import Derived.Test.YthplaakckfhaaaaXCd26
namespace Go.Proofs.Ythplaakckfhaaaa.XCd
open Go.RowKit Go.Proofs.Ythplaakckfhaaaa.Aid Go.Proofs.YthplaakckfhaaaaW.PrintWords Go.Proofs.YthplaakckfhaaaaW.PrintLast Go.Proofs.YthplaakckfhaaaaW.PrintMore
set_option linter.unusedVariables false
set_option linter.unusedSimpArgs false
open Go.Proofs.Ythplaakckfhaaaa.Gen
/-! ### drawTurn_any: function 42 -/
theorem hold_42 {p : Prop} (h : Aside0 p) : p := h.out
set_option maxHeartbeats 8000000 in
set_option maxRecDepth 100000 in
theorem drawTurn_any {w : World} {A : Option Addr} {c : Nat} {l : List Int} (hrec : ∀ (f0 f1 f2 : Int) (ys : List S127), ys.length ≤ 7 → ∃ k b, spec_RecordOk.f k f0 f1 f2 ys = some b) (hl : l.length ≤ maxLen) (hr : Kd.C (Kd.int .u8) w A l.length l) (hc : l.length ≤ c) :
    Calls Try.prog 42 #[.slice A l.length c] w fun e w' => DT w e w' := by
 have hu := Try.underlying32
 have HL := ak hl
 have HR := ak hrec
 have HC := ak hr
 have HCc := ak hc
 clear hl hrec hr hc
 go_enter Try.func42,Try.ntmps42
 go_wp2_with ((with_reducible refine gate_dst (N := 2) rfl ?_);refine bx_ 2 #[.bool false,.slice none 0 0,.slice none 0 0,.slice none 0 0] 32 ?_;intro gr hg w1 hbox hb;have hge := ak (Nat.le_of_eq hg.symm);clear hg;refine hold_42 ?_)
 refine ⟨?_⟩
 have BR := ak hbox
 have GR := hge
 have B0 := ak hb
 have HC := ak (Kd.C_below HC.out hb)
 clear hbox hb hge
 go_wp2_with ((with_reducible refine gcal_ (f := 89) rfl ?_);refine goesL_ (some 11) rfl rfl Try.func89 (by kernel_rfl) rfl #[.slice A l.length c] rfl (by (try simp only [List.map_toArray,List.map_cons,List.map_nil]);first|done|rfl) ?_;refine (drawLogged_any HR.out HL.out HC.out HCc.out).mono ?_;rintro e w2 ⟨b,A1,c1,l1,A2,c2,l2,A3,c3,l3,t0,r0,k0,rfl,hm,hb⟩;refine ⟨_,rfl,?_⟩;refine hold_42 ?_)
 refine ⟨?_⟩
 have M := ak hm.bound
 have BL := ak (blk_lt BR.out)
 have BR := ak (blk_below BR.out hb)
 have HB := ak hb
 have GS := ak hb.size
 clear hm hb HC HCc HR
 go_wp2_with ((with_reducible refine gate_dst (N := 5) rfl ?_);refine bx_ 5 #[.bool false,.slice none 0 0,.slice none 0 0,.slice none 0 0] 32 ?_;intro gm hg w3 hbox hb;have hge := ak (Nat.le_of_eq hg.symm);clear hg;refine hold_42 ?_)
 refine ⟨?_⟩
 have NR := ak (Nat.ne_of_lt (Nat.lt_of_lt_of_le (blk_lt BR.out) hge.out))
 have NM := hge
 have BM := ak hbox
 have BR := ak (blk_below BR.out hb)
 have M := ak (M.out.below hb)
 have HB := ak (below_step HB.out hb)
 have ZZ := ak hb
 clear hbox hb hge
 obtain ⟨⟨hc1_0,hc1_1,hc1_2,hc1_3⟩,hf1_0,hf1_1,hf1_2,hf1_3⟩ := cl4_ BM.out
 go_upto_region 2 with (fail)
 have KS := ak (kept4_ (W := w3) (b := gm) (.bool b) (.slice A1 l1.length c1) (.slice A2 l2.length c2) (.slice A3 l3.length c3))
 have GM : Aside0 (w1.heap.size ≤ gm) := ⟨Nat.le_trans GS.out NM.out⟩
 have HB : Aside0 (Below w1.heap.size w1 ((((w3.setCell ⟨gm,0,none⟩ (.bool b)).setCell ⟨gm,1,none⟩ (.slice A1 l1.length c1)).setCell ⟨gm,2,none⟩ (.slice A2 l2.length c2)).setCell ⟨gm,3,none⟩ (.slice A3 l3.length c3))) := ⟨below_set (below_set (below_set (below_set HB.out GM.out) GM.out) GM.out) GM.out⟩
 have BR := ak (blk_kept BR.out KS.out NR.out)
 have M := ak (M.out.kept KS.out (fun k h e => absurd h.2 (Nat.not_lt.2 (e ▸ NM.out))))
 have BM := ak (put4_ BM.out (.bool b) (.slice A1 l1.length c1) (.slice A2 l2.length c2) (.slice A3 l3.length c3))
 clear KS
 generalize ((((w3.setCell ⟨gm,0,none⟩ (.bool b)).setCell ⟨gm,1,none⟩ (.slice A1 l1.length c1)).setCell ⟨gm,2,none⟩ (.slice A2 l2.length c2)).setCell ⟨gm,3,none⟩ (.slice A3 l3.length c3)) = w4 at HB BR M BM ⊢
 obtain ⟨⟨hc2_0,hc2_1,hc2_2,hc2_3⟩,hf2_0,hf2_1,hf2_2,hf2_3⟩ := cl4_ BM.out
 obtain ⟨⟨hc3_0,hc3_1,hc3_2,hc3_3⟩,hf3_0,hf3_1,hf3_2,hf3_3⟩ := cl4_ BR.out
 go_wp2
 refine bodyPost_ret (results_ct3 rfl _ _ gr 32 #[.bool b,.slice A1 l1.length c1,.slice A2 l2.length c2,.slice A3 l3.length c3] (0,0) _ rfl (put4_ BR.out _ _ _ _) Try.underlying32 rfl (by kernel_rfl)) rfl ?_
 exact ⟨b,A1,c1,l1,A2,c2,l2,A3,c3,l3,_,_,by first|rfl|(simp;done),(Rp.kept M.out (kept4_ _ _ _ _) (fun k h e => absurd h.1 (Nat.not_le.2 (e ▸ BL.out)))).mono (fun _ _ => trivial),below_set (below_set (below_set (below_set (below_step B0.out HB.out) GR.out) GR.out) GR.out) GR.out⟩
/-- What FnCleared asks of impl.Clear and spec.Clear at small machines. -/
def CLR : Prop := ∀ (b : Bool) (l1 : List S79) (l2 : List S45) (l3 : List Int) (t r : Int) (d : Bool), (l1.length ≤ 300 ∧ sm1 l1) → (l2.length ≤ 250 ∧ sm2 l2) → l3.length ≤ 300 → ∃ k vb v1 v2 v3 v4, spec_Clear.f k b l1 l2 l3 t r d = some (vb, v1, v2, v3, v4) ∧ impl_Clear.f k b l1 l2 l3 t r d = some (vb, v1, v2, v3, v4) ∧ laws_likeMachine.f k vb v1 v2 v3 vb v1 v2 v3 = some true ∧ (v4 = false → laws_likeMachine.f k vb v1 v2 v3 false [] [] [] = some true) ∧ (v4 = true → (∀ (i : Nat) (h : i < v2.length), v2[i].f1 = t → ¬ v2[i].f2 = r) ∧ (d = true → ∃ (p : Nat) (h : p < v3.length), v3[p] = t) ∧ impl_MachineOk.f k vb v1 v2 v3 = some true) ∧ v2.length ≤ 9000000000 ∧ v3.length ≤ 9000000000
/-- What it asks of impl.Turn, spec.Turn and impl.Logged. -/
def TRN : Prop := ∀ (b : Bool) (l1 : List S79) (l2 : List S45) (l3 : List Int) (t r : Int), (l1.length ≤ 300 ∧ sm1 l1) → (l2.length ≤ 250 ∧ sm2 l2) → l3.length ≤ 300 → ∃ k vb v1 v2 v3, spec_Turn.f k b l1 l2 l3 t r = some (vb, v1, v2, v3) ∧ impl_Turn.f k b l1 l2 l3 t r = some (vb, v1, v2, v3) ∧ laws_likeMachine.f k vb v1 v2 v3 vb v1 v2 v3 = some true ∧ impl_Logged.f k vb v1 v2 v3 t r 1 = some (0, 0, 0, [], false)
def RECOK : Prop := ∀ (f0 f1 f2 : Int) (ys : List S127), ys.length ≤ 7 → ∃ k b, spec_RecordOk.f k f0 f1 f2 ys = some b
theorem in_ (a b c : Int) : spec_l1In.f a b c = some (decide (b ≤ a ∧ a ≤ c)) := by
 unfold spec_l1In.f
 by_cases h : a ≥ b <;> simp [h]
theorem within_ (a b c : Int) : impl_within.f a b c = some (decide (b ≤ a ∧ a ≤ c)) := by
 unfold impl_within.f
 by_cases h : a ≥ b <;> simp [h]
theorem rd92_get {l : List S92} {i : Nat} (h : i < l.length) : rd_T92 l (i : Int) = l[i] := by
 unfold rd_T92
 rw [Int.toNat_natCast,List.getD_eq_getElem?_getD,List.getElem?_eq_getElem h]
 rfl
theorem rd127_get {l : List S127} {i : Nat} (h : i < l.length) : rd_T127 l (i : Int) = l[i] := by
 unfold rd_T127
 rw [Int.toNat_natCast,List.getD_eq_getElem?_getD,List.getElem?_eq_getElem h]
 rfl
theorem rd45_get {l : List S45} {i : Nat} (h : i < l.length) : rd_T45 l (i : Int) = l[i] := by
 unfold rd_T45
 rw [Int.toNat_natCast,List.getD_eq_getElem?_getD,List.getElem?_eq_getElem h]
 rfl
theorem rd79_get {l : List S79} {i : Nat} (h : i < l.length) : rd_T79 l (i : Int) = l[i] := by
 unfold rd_T79
 rw [Int.toNat_natCast,List.getD_eq_getElem?_getD,List.getElem?_eq_getElem h]
 rfl
/-- A cell is right. -/
def okC (c : S92) : Bool := decide (0 ≤ c.f0 ∧ c.f0 ≤ 4000003) && (decide (-1000000000 ≤ c.f1 ∧ c.f1 ≤ 1000000000) && (decide (c.f0 / 2 % 2 = 1) || decide (c.f1 = 0)))
theorem spec_used (a : Int) : spec_Used.f a = some (decide (0 ≤ a ∧ a ≤ 4000003) && decide (a / 2 % 2 = 1)) := by
 simp only [spec_Used.f,spec_HeadOk.f,in_,Option.bind_some]
 by_cases h : 0 ≤ a ∧ a ≤ 4000003
 ·rw [if_pos (by simpa using h),Int.tdiv_eq_ediv_of_nonneg h.1,wrap_of (by omega) (by omega),Int.tmod_eq_emod_of_nonneg (by omega)]
  simp [h]
  rfl
 ·rw [if_neg (by simpa using h)]
  simp [h]
theorem spec_cells_from (l : List S92) (hl : l.length ≤ 1048576) : ∀ d i k, i + d = l.length → d < k → spec_CellsOk.l0 k l (i : Int) = some ((l.drop i).all okC) := by
 intro d
 induction d with
  | zero =>
  intro i k hd hk
  obtain ⟨k,rfl⟩ : ∃ m,k = m + 1 := ⟨k - 1,by omega⟩
  simp only [spec_CellsOk.l0]
  rw [if_neg (by omega),List.drop_of_length_le (by omega)]
  rfl
  | succ d ih =>
  intro i k hd hk
  obtain ⟨k,rfl⟩ : ∃ m,k = m + 1 := ⟨k - 1,by omega⟩
  simp only [spec_CellsOk.l0]
  rw [if_pos (by omega),if_pos (by omega),rd92_get (show i < l.length by omega),wrap_of (by omega) (by omega),List.drop_eq_getElem_cons (show i < l.length by omega)]
  have e := ih (i + 1) k (by omega) (by omega)
  rw [show ((i + 1 : Nat) : Int) = (i : Int) + 1 from by omega] at e
  rw [e]
  simp only [spec_HeadOk.f,spec_l1Value.f,in_,spec_used,Option.bind_some,List.all_cons,okC]
  by_cases h1 : 0 ≤ l[i].f0 ∧ l[i].f0 ≤ 4000003 <;> by_cases h2 : -1000000000 ≤ l[i].f1 ∧ l[i].f1 ≤ 1000000000 <;> by_cases h3 : l[i].f0 / 2 % 2 = 1 <;> by_cases h4 : l[i].f1 = 0 <;> simp [h1,h2,h3,h4]
def okCs (l : List S92) : Bool := decide (l.length = 6) && l.all okC
theorem spec_cells (l : List S92) (hl : l.length ≤ 1048576) (k : Nat) (hk : l.length < k) : spec_CellsOk.f k l = some (okCs l) := by
 unfold spec_CellsOk.f okCs
 by_cases h : l.length = 6
 ·rw [if_pos (by omega)]
  have e := spec_cells_from l hl l.length 0 k (by omega) hk
  rw [show ((0 : Nat) : Int) = 0 from rfl] at e
  rw [e]
  simp [h]
 ·rw [if_neg (by omega)]
  simp [h]
theorem impl_cell (x : S92) : impl_areCells_1.f x.f0 x.f1 = some (!okC x) := by
 simp only [impl_areCells_1.f,impl_isHead.f,impl_isValue.f,within_,Option.bind_some,okC]
 by_cases h1 : 0 ≤ x.f0 ∧ x.f0 ≤ 4000003
 ·by_cases h2 : -1000000000 ≤ x.f1 ∧ x.f1 ≤ 1000000000
  ·rw [if_pos (by simpa using h1),if_pos (by simpa using h2),and2]
   by_cases h3 : x.f0 / 2 % 2 = 1
   ·rw [if_neg (by omega)]
    simp [h1,h2,h3]
   ·rw [if_pos (by omega)]
    by_cases h4 : x.f1 = 0 <;> simp [h1,h2,h3,h4]
  ·rw [if_pos (by simpa using h1),if_neg (by simpa using h2)]
   simp [h1,h2]
 ·rw [if_neg (by simpa using h1)]
  simp [h1]
theorem impl_cells (l : List S92) : impl_areCells.f l = some (okCs l) := by
 unfold impl_areCells.f okCs
 by_cases h : l.length = 6
 ·rw [if_pos (by omega)]
  obtain ⟨r,e,hr⟩ := idx_total (fun x : S92 => impl_areCells_1.f x.f0 x.f1) (fun x => !okC x) l (fun x _ => impl_cell x) 0
  simp only [impl_Cell_122.f,e,Option.bind_some,hr]
  rw [← List.not_all_eq_any_not]
  simp [h]
 ·rw [if_neg (by omega)]
  simp [h]
def okS (x : S127) : Bool := decide (0 ≤ x.f0 ∧ x.f0 ≤ 5) && (decide (0 ≤ x.f1 ∧ x.f1 ≤ 5) && (decide (-1000000000 ≤ x.f2 ∧ x.f2 ≤ 1000000000) && decide (0 ≤ x.f4 ∧ x.f4 ≤ 999999)))
theorem spec_set (x : S127) : spec_SetOk.f x.f0 x.f1 x.f2 x.f3 x.f4 = some (okS x) := by
 simp only [spec_SetOk.f,spec_l1Region.f,spec_l1Slot.f,spec_l1Value.f,in_,Option.bind_some,okS]
 by_cases h1 : 0 ≤ x.f0 ∧ x.f0 ≤ 5 <;> by_cases h2 : 0 ≤ x.f1 ∧ x.f1 ≤ 5 <;> by_cases h3 : -1000000000 ≤ x.f2 ∧ x.f2 ≤ 1000000000 <;> simp [h1,h2,h3]
theorem impl_set (x : S127) : impl_isSet.f x.f0 x.f1 x.f2 x.f3 x.f4 = some (okS x) := by
 simp only [impl_isSet.f,impl_isRegion.f,impl_isSlot.f,impl_isValue.f,within_,Option.bind_some,okS]
 by_cases h1 : 0 ≤ x.f0 ∧ x.f0 ≤ 5 <;> by_cases h2 : 0 ≤ x.f1 ∧ x.f1 ≤ 5 <;> by_cases h3 : -1000000000 ≤ x.f2 ∧ x.f2 ≤ 1000000000 <;> simp [h1,h2,h3]
/-- The set at place i is right, and stands rightly behind the one ahead of it. -/
def stepS (l : List S127) (i : Nat) : Bool := okS (rd_T127 l (i : Int)) && (decide (i = 0) || (decide ((rd_T127 l (i : Int)).f0 = (rd_T127 l 0).f0) && decide ((rd_T127 l ((i : Int) - 1)).f1 < (rd_T127 l (i : Int)).f1)))
def okSs (l : List S127) : Nat → Nat → Bool
  | _, 0 => true
  | i, d + 1 => stepS l i && okSs l (i + 1) d
theorem spec_sets_from (l : List S127) (hl : l.length ≤ 1048576) : ∀ d i k, i + d = l.length → 2 * d + 2 < k → spec_l2Sets.l0 k l (i : Int) = some (okSs l i d) := by
 intro d
 induction d with
  | zero =>
  intro i k hd hk
  obtain ⟨k,rfl⟩ : ∃ q,k = q + 1 := ⟨k - 1,by omega⟩
  simp only [spec_l2Sets.l0]
  rw [if_neg (by omega)]
  rfl
  | succ d ih =>
  intro i k hd hk
  obtain ⟨k,rfl⟩ : ∃ q,k = q + 1 := ⟨k - 1,by omega⟩
  have e := ih (i + 1) k (by omega) (by omega)
  rw [show ((i + 1 : Nat) : Int) = (i : Int) + 1 from by omega] at e
  simp only [spec_l2Sets.l0,spec_set,Option.bind_some,if_pos (show (i : Int) < (l.length : Int) by omega),if_pos (show (0 : Int) ≤ (i : Int) by omega),wrap_of (x := (i : Int) + 1) (by omega) (by omega),e,okSs,stepS]
  by_cases h0 : (i : Int) > 0
  ·have h0' : ¬ i = 0 := by omega
   simp only [if_pos h0,wrap_of (x := (i : Int) - 1) (by omega) (by omega),if_pos (show 0 ≤ (i : Int) - 1 by omega),if_pos (show (i : Int) - 1 < (l.length : Int) by omega),if_pos (show (0 : Int) < (l.length : Int) by omega)]
   by_cases a2 : (rd_T127 l (i : Int)).f1 ≤ (rd_T127 l ((i : Int) - 1)).f1
   ·have a2' : ¬ (rd_T127 l ((i : Int) - 1)).f1 < (rd_T127 l (i : Int)).f1 := by omega
    cases okS (rd_T127 l (i : Int)) <;> simp [h0',a2,a2']
   ·have a2' : (rd_T127 l ((i : Int) - 1)).f1 < (rd_T127 l (i : Int)).f1 := by omega
    by_cases a3 : (rd_T127 l (i : Int)).f0 = (rd_T127 l 0).f0 <;> cases okS (rd_T127 l (i : Int)) <;> simp [h0',a2,a2',a3]
  ·have h0' : i = 0 := by omega
   rw [if_neg h0]
   cases okS (rd_T127 l (i : Int)) <;> simp [h0']
theorem impl_sets_from (l : List S127) (hl : l.length ≤ 1048576) : ∀ d i k, i + d = l.length → 2 * d + 2 < k → impl_areSets.l0 k l l (l.length : Int) (i : Int) = some (okSs l i d) := by
 intro d
 induction d with
  | zero =>
  intro i k hd hk
  obtain ⟨k,rfl⟩ : ∃ q,k = q + 1 := ⟨k - 1,by omega⟩
  simp only [impl_areSets.l0]
  rw [if_neg (by omega)]
  rfl
  | succ d ih =>
  intro i k hd hk
  obtain ⟨k,rfl⟩ : ∃ q,k = q + 1 := ⟨k - 1,by omega⟩
  have e := ih (i + 1) k (by omega) (by omega)
  rw [show ((i + 1 : Nat) : Int) = (i : Int) + 1 from by omega] at e
  simp only [impl_areSets.l0,impl_set,Option.bind_some,if_pos (show (i : Int) < (l.length : Int) by omega),if_pos (show (0 : Int) ≤ (i : Int) by omega),if_pos (show (0 : Int) < (l.length : Int) by omega),wrap_of (x := (i : Int) + 1) (by omega) (by omega),e,okSs,stepS]
  by_cases h0 : (i : Int) > 0
  ·have h0' : ¬ i = 0 := by omega
   simp only [if_pos h0,wrap_of (x := (i : Int) - 1) (by omega) (by omega),if_pos (show 0 ≤ (i : Int) - 1 by omega),if_pos (show (i : Int) - 1 < (l.length : Int) by omega)]
   by_cases a2 : (rd_T127 l (i : Int)).f1 ≤ (rd_T127 l ((i : Int) - 1)).f1
   ·have a2' : ¬ (rd_T127 l ((i : Int) - 1)).f1 < (rd_T127 l (i : Int)).f1 := by omega
    by_cases a3 : (rd_T127 l (i : Int)).f0 = (rd_T127 l 0).f0 <;> cases okS (rd_T127 l (i : Int)) <;> simp [h0',a2,a2',a3]
   ·have a2' : (rd_T127 l ((i : Int) - 1)).f1 < (rd_T127 l (i : Int)).f1 := by omega
    by_cases a3 : (rd_T127 l (i : Int)).f0 = (rd_T127 l 0).f0 <;> cases okS (rd_T127 l (i : Int)) <;> simp [h0',a2,a2',a3]
  ·have h0' : i = 0 := by omega
   subst h0'
   rw [if_neg h0]
   cases okS (rd_T127 l ((0 : Nat) : Int)) <;> simp
theorem spec_sets (l : List S127) (hl : l.length ≤ 1048576) (k : Nat) (hk : 2 * l.length + 2 < k) : spec_l2Sets.f k l = some (okSs l 0 l.length) := spec_sets_from l hl l.length 0 k (by omega) hk
theorem impl_sets (l : List S127) (hl : l.length ≤ 1048576) (k : Nat) (hk : 2 * l.length + 2 < k) : impl_areSets.f k l = some (okSs l 0 l.length) := impl_sets_from l hl l.length 0 k (by omega) hk
theorem okSs_reg (l : List S127) : ∀ d i, okSs l i d = true → ∀ j, i ≤ j → j < i + d → (rd_T127 l (j : Int)).f0 = (rd_T127 l 0).f0 := by
 intro d
 induction d with
  | zero => intro i _ j h1 h2; omega
  | succ d ih =>
  intro i h j h1 h2
  simp only [okSs,Bool.and_eq_true] at h
  by_cases hj : j = i
  ·subst hj
   have := h.1
   simp only [stepS,Bool.and_eq_true,Bool.or_eq_true,decide_eq_true_eq] at this
   rcases this.2 with h0 | h0
   ·subst h0;rfl
   ·exact h0.1
  ·exact ih (i + 1) h.2 j (by omega) (by omega)
theorem regions (l : List S127) (q : Int) (h1 : 1 ≤ l.length) (h : okSs l 0 l.length = true) : impl_Set_119.f l q = some (!decide ((rd_T127 l 0).f0 = q)) := by
 obtain ⟨r,e,hr⟩ := idx_total (fun x : S127 => impl_isRecord_1.f x.f0 x.f1 x.f2 x.f3 x.f4 q) (fun x => x.f0 != q) l (fun x _ => rfl) 0
 simp only [impl_Set_119.f,e,Option.bind_some,hr]
 have hall := okSs_reg l l.length 0 h
 by_cases hq : (rd_T127 l 0).f0 = q
 ·have : l.any (fun x => x.f0 != q) = false := by
   rw [List.any_eq_false]
   intro x hx
   obtain ⟨j,hj,rfl⟩ := List.mem_iff_getElem.1 hx
   have := hall j (by omega) (by omega)
   rw [rd127_get hj] at this
   simp [this,hq]
  simp [this,hq]
 ·have : l.any (fun x => x.f0 != q) = true := by
   rw [List.any_eq_true]
   have h0 : 0 < l.length := by omega
   refine ⟨l[0],List.getElem_mem h0,?_⟩
   have := rd127_get h0
   rw [show ((0 : Nat) : Int) = 0 from rfl] at this
   rw [this] at hq
   simp [hq]
  simp [this,hq]
def okR (x : S45) : Bool := decide (1 ≤ x.f0 ∧ x.f0 ≤ 3) && (decide (1 ≤ x.f1 ∧ x.f1 ≤ 1000000) && (decide (0 ≤ x.f2 ∧ x.f2 ≤ 5) && (decide (1 ≤ (x.f3.length : Int) ∧ (x.f3.length : Int) ≤ 12) && (okSs x.f3 0 x.f3.length && decide ((rd_T127 x.f3 0).f0 = x.f2)))))
theorem record_val (x : S45) (hl : x.f3.length ≤ 1048576) (k : Nat) (hk : 2 * x.f3.length + 2 < k) : spec_RecordOk.f k x.f0 x.f1 x.f2 x.f3 = some (okR x) ∧ impl_isRecord.f k x.f0 x.f1 x.f2 x.f3 = some (okR x) := by
 simp only [spec_RecordOk.f,impl_isRecord.f,spec_l1Id.f,spec_l1Region.f,impl_isId.f,impl_isRegion.f,impl_Set_117.f,in_,within_,spec_sets x.f3 hl k hk,impl_sets x.f3 hl k hk,Option.bind_some,okR]
 by_cases h1 : 1 ≤ x.f0 ∧ x.f0 ≤ 3
 ·by_cases h2 : 1 ≤ x.f1 ∧ x.f1 ≤ 1000000
  ·by_cases h3 : 0 ≤ x.f2 ∧ x.f2 ≤ 5
   ·by_cases h4 : (x.f3.length : Int) ≥ 1
    ·by_cases h5 : (x.f3.length : Int) ≤ 12
     ·have h6 : 1 ≤ (x.f3.length : Int) ∧ (x.f3.length : Int) ≤ 12 := ⟨h4,h5⟩
      by_cases h7 : okSs x.f3 0 x.f3.length = true
      ·rw [regions x.f3 x.f2 (by omega) h7]
       have h8 : 0 < x.f3.length := by omega
       by_cases h9 : (rd_T127 x.f3 0).f0 = x.f2 <;> simp [h1,h2,h3,h4,h5,h6,h7,h8,h9]
      ·simp [h1,h2,h3,h4,h5,h6,h7]
     ·have h6 : ¬ (1 ≤ (x.f3.length : Int) ∧ (x.f3.length : Int) ≤ 12) := by omega
      simp only [decide_eq_true h1,decide_eq_true h2,decide_eq_true h3,if_pos h4,if_neg h5,decide_eq_false h6]
      simp
    ·have h6 : ¬ (1 ≤ (x.f3.length : Int) ∧ (x.f3.length : Int) ≤ 12) := by omega
     simp only [decide_eq_true h1,decide_eq_true h2,decide_eq_true h3,if_neg h4,decide_eq_false h6]
     simp
   ·simp [h1,h2,h3]
  ·simp [h1,h2]
 ·simp [h1]
def okIds (l : List Int) : Nat → Nat → Bool
  | _, 0 => true
  | i, d + 1 => (decide (1 ≤ rd l (i : Int) ∧ rd l (i : Int) ≤ 1000000) && (decide (i = 0) || decide (rd l ((i : Int) - 1) < rd l (i : Int)))) && okIds l (i + 1) d
def okCps (l : List S79) : Nat → Nat → Bool
  | _, 0 => true
  | i, d + 1 => (decide (0 ≤ (rd_T79 l (i : Int)).f0 ∧ (rd_T79 l (i : Int)).f0 ≤ 5) && (okCs (rd_T79 l (i : Int)).f1 && (decide (i = 0) || decide ((rd_T79 l ((i : Int) - 1)).f0 < (rd_T79 l (i : Int)).f0)))) && okCps l (i + 1) d
theorem spec_ids (l : List Int) (hl : l.length ≤ 1048576) : ∀ d i k, i + d = l.length → d < k → spec_l6Rises.l0 k l (i : Int) = some (okIds l i d) := by
 intro d
 induction d with
  | zero =>
  intro i k hd hk
  obtain ⟨k,rfl⟩ : ∃ q,k = q + 1 := ⟨k - 1,by omega⟩
  simp only [spec_l6Rises.l0]
  rw [if_neg (by omega)]
  rfl
  | succ d ih =>
  intro i k hd hk
  obtain ⟨k,rfl⟩ : ∃ q,k = q + 1 := ⟨k - 1,by omega⟩
  have e := ih (i + 1) k (by omega) (by omega)
  rw [show ((i + 1 : Nat) : Int) = (i : Int) + 1 from by omega] at e
  simp only [spec_l6Rises.l0,spec_l1Id.f,in_,Option.bind_some,if_pos (show (i : Int) < (l.length : Int) by omega),if_pos (show (0 : Int) ≤ (i : Int) by omega),wrap_of (x := (i : Int) + 1) (by omega) (by omega),e,okIds]
  by_cases h1 : 1 ≤ rd l (i : Int) ∧ rd l (i : Int) ≤ 1000000
  ·by_cases h0 : (i : Int) > 0
   ·have h0' : ¬ i = 0 := by omega
    simp only [if_pos h0,wrap_of (x := (i : Int) - 1) (by omega) (by omega),if_pos (show 0 ≤ (i : Int) - 1 by omega),if_pos (show (i : Int) - 1 < (l.length : Int) by omega)]
    by_cases h2 : rd l (i : Int) ≤ rd l ((i : Int) - 1)
    ·have h2' : ¬ rd l ((i : Int) - 1) < rd l (i : Int) := by omega
     simp [h1,h0',h2,h2']
    ·have h2' : rd l ((i : Int) - 1) < rd l (i : Int) := by omega
     simp [h1,h0',h2,h2']
   ·have h0' : i = 0 := by omega
    subst h0'
    have h1' : 1 ≤ rd l 0 ∧ rd l 0 ≤ 1000000 := h1
    simp [h1']
  ·simp [h1]
theorem impl_ids (b : Bool) (c : List S79) (r : List S45) (l : List Int) (hl : l.length ≤ 1048576) : ∀ d i k, i + d = l.length → d < k → impl_isMachineOk.l1 k l (l.length : Int) (i : Int) b c r l = some (okIds l i d) := by
 intro d
 induction d with
  | zero =>
  intro i k hd hk
  obtain ⟨k,rfl⟩ : ∃ q,k = q + 1 := ⟨k - 1,by omega⟩
  simp only [impl_isMachineOk.l1]
  rw [if_neg (by omega)]
  rfl
  | succ d ih =>
  intro i k hd hk
  obtain ⟨k,rfl⟩ : ∃ q,k = q + 1 := ⟨k - 1,by omega⟩
  have e := ih (i + 1) k (by omega) (by omega)
  rw [show ((i + 1 : Nat) : Int) = (i : Int) + 1 from by omega] at e
  simp only [impl_isMachineOk.l1,impl_isId.f,within_,Option.bind_some,if_pos (show (i : Int) < (l.length : Int) by omega),if_pos (show (0 : Int) ≤ (i : Int) by omega),wrap_of (x := (i : Int) + 1) (by omega) (by omega),e,okIds]
  by_cases h1 : 1 ≤ rd l (i : Int) ∧ rd l (i : Int) ≤ 1000000
  ·by_cases h0 : (i : Int) > 0
   ·have h0' : ¬ i = 0 := by omega
    simp only [if_pos h0,wrap_of (x := (i : Int) - 1) (by omega) (by omega),if_pos (show 0 ≤ (i : Int) - 1 by omega),if_pos (show (i : Int) - 1 < (l.length : Int) by omega)]
    by_cases h2 : rd l ((i : Int) - 1) ≥ rd l (i : Int)
    ·have h2' : ¬ rd l ((i : Int) - 1) < rd l (i : Int) := by omega
     simp [h1,h0',h2,h2']
    ·have h2' : rd l ((i : Int) - 1) < rd l (i : Int) := by omega
     simp [h1,h0',h2,h2']
   ·have h0' : i = 0 := by omega
    subst h0'
    have h1' : 1 ≤ rd l 0 ∧ rd l 0 ≤ 1000000 := h1
    simp [h1']
  ·simp [h1]
theorem spec_cps (b : Bool) (l : List S79) (r : List S45) (ids : List Int) (hl : l.length ≤ 1048576) (hm : ∀ x ∈ l, x.f1.length ≤ 1048576) : ∀ d i k, i + d = l.length → d + 2000000 < k → spec_MachineOk.l0 k (i : Int) b l r ids = if okCps l i d = true then spec_MachineOk.l1 (k - d - 1) 0 b l r ids else some false := by
 intro d
 induction d with
  | zero =>
  intro i k hd hk
  obtain ⟨k,rfl⟩ : ∃ q,k = q + 1 := ⟨k - 1,by omega⟩
  simp only [spec_MachineOk.l0]
  rw [if_neg (by omega)]
  simp [okCps]
  | succ d ih =>
  intro i k hd hk
  obtain ⟨k,rfl⟩ : ∃ q,k = q + 1 := ⟨k - 1,by omega⟩
  have e := ih (i + 1) k (by omega) (by omega)
  rw [show ((i + 1 : Nat) : Int) = (i : Int) + 1 from by omega] at e
  have ek : k + 1 - (d + 1) - 1 = k - d - 1 := by omega
  have hx : (rd_T79 l (i : Int)).f1.length ≤ 1048576 := by rw [rd79_get (show i < l.length by omega)];exact hm _ (List.getElem_mem _)
  simp only [spec_MachineOk.l0,spec_l1Region.f,in_,spec_cells _ hx k (by omega),Option.bind_some,if_pos (show (i : Int) < (l.length : Int) by omega),if_pos (show (0 : Int) ≤ (i : Int) by omega),wrap_of (x := (i : Int) + 1) (by omega) (by omega),e,okCps,ek]
  by_cases h1 : 0 ≤ (rd_T79 l (i : Int)).f0 ∧ (rd_T79 l (i : Int)).f0 ≤ 5
  ·by_cases h3 : okCs (rd_T79 l (i : Int)).f1 = true
   ·by_cases h0 : (i : Int) > 0
    ·have h0' : ¬ i = 0 := by omega
     simp only [if_pos h0,wrap_of (x := (i : Int) - 1) (by omega) (by omega),if_pos (show 0 ≤ (i : Int) - 1 by omega),if_pos (show (i : Int) - 1 < (l.length : Int) by omega)]
     by_cases h2 : (rd_T79 l (i : Int)).f0 ≤ (rd_T79 l ((i : Int) - 1)).f0
     ·have h2' : ¬ (rd_T79 l ((i : Int) - 1)).f0 < (rd_T79 l (i : Int)).f0 := by omega
      simp [h1,h3,h0',h2,h2']
     ·have h2' : (rd_T79 l ((i : Int) - 1)).f0 < (rd_T79 l (i : Int)).f0 := by omega
      simp [h1,h3,h0',h2,h2']
    ·have h0' : i = 0 := by omega
     subst h0'
     have h3' : okCs (rd_T79 l 0).f1 = true := h3
     have h1' : 0 ≤ (rd_T79 l 0).f0 ∧ (rd_T79 l 0).f0 ≤ 5 := h1
     simp [h1',h3']
   ·simp [h1,h3]
  ·simp [h1]
theorem impl_cps (b : Bool) (l : List S79) (r : List S45) (ids : List Int) (hl : l.length ≤ 1048576) : ∀ d i k, i + d = l.length → d < k → impl_isMachineOk.l0 k l (l.length : Int) (i : Int) b l r ids = if okCps l i d = true then impl_isMachineOk.l1 (k - d - 1) ids (ids.length : Int) 0 b l r ids else some false := by
 intro d
 induction d with
  | zero =>
  intro i k hd hk
  obtain ⟨k,rfl⟩ : ∃ q,k = q + 1 := ⟨k - 1,by omega⟩
  simp only [impl_isMachineOk.l0]
  rw [if_neg (by omega)]
  simp [okCps]
  | succ d ih =>
  intro i k hd hk
  obtain ⟨k,rfl⟩ : ∃ q,k = q + 1 := ⟨k - 1,by omega⟩
  have e := ih (i + 1) k (by omega) (by omega)
  rw [show ((i + 1 : Nat) : Int) = (i : Int) + 1 from by omega] at e
  have ek : k + 1 - (d + 1) - 1 = k - d - 1 := by omega
  simp only [impl_isMachineOk.l0,impl_isRegion.f,within_,impl_cells,Option.bind_some,if_pos (show (i : Int) < (l.length : Int) by omega),if_pos (show (0 : Int) ≤ (i : Int) by omega),wrap_of (x := (i : Int) + 1) (by omega) (by omega),e,okCps,ek]
  by_cases h1 : 0 ≤ (rd_T79 l (i : Int)).f0 ∧ (rd_T79 l (i : Int)).f0 ≤ 5
  ·by_cases h3 : okCs (rd_T79 l (i : Int)).f1 = true
   ·by_cases h0 : (i : Int) > 0
    ·have h0' : ¬ i = 0 := by omega
     simp only [if_pos h0,wrap_of (x := (i : Int) - 1) (by omega) (by omega),if_pos (show 0 ≤ (i : Int) - 1 by omega),if_pos (show (i : Int) - 1 < (l.length : Int) by omega)]
     by_cases h2 : (rd_T79 l ((i : Int) - 1)).f0 ≥ (rd_T79 l (i : Int)).f0
     ·have h2' : ¬ (rd_T79 l ((i : Int) - 1)).f0 < (rd_T79 l (i : Int)).f0 := by omega
      simp [h1,h3,h0',h2,h2']
     ·have h2' : (rd_T79 l ((i : Int) - 1)).f0 < (rd_T79 l (i : Int)).f0 := by omega
      simp [h1,h3,h0',h2,h2']
    ·have h0' : i = 0 := by omega
     subst h0'
     have h3' : okCs (rd_T79 l 0).f1 = true := h3
     have h1' : 0 ≤ (rd_T79 l 0).f0 ∧ (rd_T79 l 0).f0 ≤ 5 := h1
     simp [h1',h3']
   ·simp [h1,h3]
  ·simp [h1]
theorem spec_recs (b : Bool) (c : List S79) (l : List S45) (ids : List Int) (hl : l.length ≤ 1048576) (hm : ∀ x ∈ l, x.f3.length ≤ 1048576) : ∀ d i k, i + d = l.length → d + 4000000 < k → spec_MachineOk.l1 k (i : Int) b c l ids = some ((l.drop i).all okR) := by
 intro d
 induction d with
  | zero =>
  intro i k hd hk
  obtain ⟨k,rfl⟩ : ∃ q,k = q + 1 := ⟨k - 1,by omega⟩
  simp only [spec_MachineOk.l1]
  rw [if_neg (by omega),List.drop_of_length_le (by omega)]
  rfl
  | succ d ih =>
  intro i k hd hk
  obtain ⟨k,rfl⟩ : ∃ q,k = q + 1 := ⟨k - 1,by omega⟩
  have e := ih (i + 1) k (by omega) (by omega)
  rw [show ((i + 1 : Nat) : Int) = (i : Int) + 1 from by omega] at e
  have hx := hm _ (List.getElem_mem (show i < l.length by omega))
  simp only [spec_MachineOk.l1,if_pos (show (i : Int) < (l.length : Int) by omega),if_pos (show (0 : Int) ≤ (i : Int) by omega),rd45_get (show i < l.length by omega),(record_val l[i] hx k (by omega)).1,Option.bind_some,wrap_of (x := (i : Int) + 1) (by omega) (by omega),e]
  rw [List.drop_eq_getElem_cons (show i < l.length by omega),List.all_cons]
  cases okR l[i] <;> simp
theorem impl_recs (l : List S45) (hm : ∀ x ∈ l, x.f3.length ≤ 1048576) (k : Nat) (hk : 4000000 < k) : impl_Record_108.f k l = some (!l.all okR) := by
 obtain ⟨r,e,hr⟩ := idx_total (fun x : S45 => impl_isMachineOk_1.f k x.f0 x.f1 x.f2 x.f3) (fun x => !okR x) l (fun x hx => by
  have := hm x hx
  show impl_isMachineOk_1.f k x.f0 x.f1 x.f2 x.f3 = _
  simp only [impl_isMachineOk_1.f,(record_val x this k (by omega)).2,Option.bind_some]) 0
 simp only [impl_Record_108.f,e,Option.bind_some,hr]
 rw [← List.not_all_eq_any_not]
theorem machine_ok (b : Bool) (c : List S79) (r : List S45) (ids : List Int) (hc : c.length ≤ 1048576) (hcm : ∀ x ∈ c, x.f1.length ≤ 1048576) (hr : r.length ≤ 1048576) (hrm : ∀ x ∈ r, x.f3.length ≤ 1048576) (hi : ids.length ≤ 1048576) (k : Nat) (hk : 20000000 < k) : ∃ v, spec_MachineOk.f k b c r ids = some v ∧ impl_isMachineOk.f k b c r ids = some v ∧ (v = true → okCps c 0 c.length = true ∧ (c.length : Int) ≤ 6 ∧ (r.length : Int) ≤ 200 ∧ (ids.length : Int) ≤ 60 ∧ okIds ids 0 ids.length = true ∧ r.all okR = true) := by
 obtain ⟨k,rfl⟩ : ∃ q,k = q + 1 := ⟨k - 1,by omega⟩
 have a1 := spec_ids ids hi ids.length 0 (k + 1) (by omega) (by omega)
 have a2 := spec_cps b c r ids hc hcm c.length 0 k (by omega) (by omega)
 have a3 := spec_recs b c r ids hr hrm r.length 0 (k - c.length - 1) (by omega) (by omega)
 have b1 := impl_recs r hrm (k + 1) (by omega)
 have b2 := impl_cps b c r ids hc c.length 0 k (by omega) (by omega)
 have b3 := impl_ids b c r ids hi ids.length 0 (k - c.length - 1) (by omega) (by omega)
 rw [show ((0 : Nat) : Int) = 0 from rfl] at a1 a2 a3 b2 b3
 rw [a3] at a2
 rw [b3] at b2
 simp only [spec_MachineOk.f,impl_isMachineOk.f,spec_MachineOk.j0,impl_isMachineOk.j0,spec_l6Rises.f,a1,a2,b1,b2,Option.bind_some,List.drop_zero]
 by_cases h1 : (c.length : Int) > 6
 ·exact ⟨false,by simp [h1],by simp [h1],by simp⟩
 by_cases h2 : (r.length : Int) > 200
 ·exact ⟨false,by simp [h1,h2],by simp [h1,h2],by simp⟩
 by_cases h3 : (ids.length : Int) > 60
 ·exact ⟨false,by simp [h1,h2,h3],by simp [h1,h2,h3],by simp⟩
 simp only [if_neg h1,if_neg h2,if_neg h3]
 cases okIds ids 0 ids.length <;> cases okCps c 0 c.length <;> cases r.all okR <;> exact ⟨_,rfl,rfl,by simp <;> omega⟩
theorem machine_val (b : Bool) (c : List S79) (r : List S45) (ids : List Int) (hc : c.length ≤ 1048576) (hcm : ∀ x ∈ c, x.f1.length ≤ 1048576) (hr : r.length ≤ 1048576) (hrm : ∀ x ∈ r, x.f3.length ≤ 1048576) (hi : ids.length ≤ 1048576) (h1 : (c.length : Int) ≤ 6) (h2 : (r.length : Int) ≤ 200) (h3 : (ids.length : Int) ≤ 60) (h4 : okIds ids 0 ids.length = true) (h5 : okCps c 0 c.length = true) (h6 : r.all okR = true) (k : Nat) (hk : 20000000 < k) : impl_isMachineOk.f k b c r ids = some true := by
 obtain ⟨k,rfl⟩ : ∃ q,k = q + 1 := ⟨k - 1,by omega⟩
 have a1 := spec_ids ids hi ids.length 0 (k + 1) (by omega) (by omega)
 have a2 := spec_cps b c r ids hc hcm c.length 0 k (by omega) (by omega)
 have a3 := spec_recs b c r ids hr hrm r.length 0 (k - c.length - 1) (by omega) (by omega)
 have b1 := impl_recs r hrm (k + 1) (by omega)
 have b2 := impl_cps b c r ids hc c.length 0 k (by omega) (by omega)
 have b3 := impl_ids b c r ids hi ids.length 0 (k - c.length - 1) (by omega) (by omega)
 rw [show ((0 : Nat) : Int) = 0 from rfl] at a1 a2 a3 b2 b3
 rw [a3] at a2
 rw [b3] at b2
 simp only [impl_isMachineOk.f,impl_isMachineOk.j0,b1,b2,Option.bind_some]
 rw [if_neg (by omega),if_neg (by omega),if_neg (by omega)]
 simp [h4,h5,h6]
theorem copy3 (l : List S92) (h : l.length ≤ 1048576) : spec_l3Copy.f l = some l ∧ impl_Cell_60.f l = some l := by
 constructor
 ·simp only [spec_l3Copy.f,Option.bind_some,List.length_nil,List.nil_append]
  rw [if_pos (by omega)]
 ·simp only [impl_Cell_60.f,Option.bind_some,List.length_nil,List.nil_append]
  rw [if_pos (by omega)]
theorem copyRec (x : S45) (h : x.f3.length ≤ 1048576) : spec_l6Record.f x.f0 x.f1 x.f2 x.f3 = some (x.f0, x.f1, x.f2, x.f3) ∧ impl_cloneRecord.f x.f0 x.f1 x.f2 x.f3 = some (x.f0, x.f1, x.f2, x.f3) := by
 constructor
 ·simp only [spec_l6Record.f,Option.bind_some,List.length_nil,List.nil_append]
  rw [if_pos (by omega)]
 ·simp only [impl_cloneRecord.f,impl_Set_113.f,Option.bind_some,List.length_nil,List.nil_append]
  rw [if_pos (by omega)]
  rfl
theorem specRecs (b b2 : Bool) (c c2 : List S79) (r : List S45) (ids ids2 : List Int) (hr : r.length ≤ 1048576) (hrm : ∀ x ∈ r, x.f3.length ≤ 1048576) : ∀ d i k, i + d = r.length → d < k → spec_l6Copy.l1 k (i : Int) b c r ids b2 c2 (r.take i) ids2 = some (b2, c2, r, ids2) ∧ impl_cloneMachine.l1 k r (r.length : Int) (i : Int) b2 c2 (r.take i) ids2 = some (b2, c2, r, ids2) := by
 intro d
 induction d with
  | zero =>
  intro i k hd hk
  obtain ⟨k,rfl⟩ : ∃ z,k = z + 1 := ⟨k - 1,by omega⟩
  simp only [spec_l6Copy.l1,impl_cloneMachine.l1]
  rw [if_neg (by omega),if_neg (by omega),List.take_of_length_le (by omega)]
  exact ⟨rfl,rfl⟩
  | succ d ih =>
  intro i k hd hk
  obtain ⟨k,rfl⟩ : ∃ z,k = z + 1 := ⟨k - 1,by omega⟩
  have hi : i < r.length := by omega
  have hx := hrm _ (List.getElem_mem hi)
  have hl : (r.take i).length < 2932031007402 := by rw [List.length_take];omega
  simp only [spec_l6Copy.l1,impl_cloneMachine.l1]
  rw [if_pos (show (i : Int) < (r.length : Int) by omega),if_pos (show 0 ≤ (i : Int) by omega),rd45_get hi,(copyRec r[i] hx).1,(copyRec r[i] hx).2]
  simp only [Option.bind_some]
  rw [if_pos hl,if_pos (show (i : Int) < (r.length : Int) by omega),if_pos (show 0 ≤ (i : Int) by omega),if_pos (show (i : Int) < (r.length : Int) by omega),if_pos hl,wrap_of (x := (i : Int) + 1) (by omega) (by omega),show (i : Int) + 1 = ((i + 1 : Nat) : Int) by omega,show r.take i ++ [(⟨r[i].f0,r[i].f1,r[i].f2,r[i].f3⟩ : S45)] = r.take (i + 1) from by rw [List.take_succ_eq_append_getElem hi]]
  exact ih (i + 1) k (by omega) (by omega)
theorem specCps (b : Bool) (c : List S79) (r : List S45) (ids ids2 : List Int) (hc : c.length ≤ 1048576) (hcm : ∀ x ∈ c, x.f1.length ≤ 1048576) (hr : r.length ≤ 1048576) (hrm : ∀ x ∈ r, x.f3.length ≤ 1048576) : ∀ d i k, i + d = c.length → d + 1048580 < k → spec_l6Copy.l0 k (i : Int) b c r ids b (c.take i) ids2 = some (b, c, r, ids2) ∧ impl_cloneMachine.l0 k c (c.length : Int) (i : Int) b c r ids b (c.take i) ids2 = some (b, c, r, ids2) := by
 intro d
 induction d with
  | zero =>
  intro i k hd hk
  obtain ⟨k,rfl⟩ : ∃ z,k = z + 1 := ⟨k - 1,by omega⟩
  simp only [spec_l6Copy.l0,impl_cloneMachine.l0]
  rw [if_neg (by omega),if_neg (by omega),List.take_of_length_le (by omega)]
  exact specRecs b b c c r ids ids2 hr hrm r.length 0 k (by omega) (by omega)
  | succ d ih =>
  intro i k hd hk
  obtain ⟨k,rfl⟩ : ∃ z,k = z + 1 := ⟨k - 1,by omega⟩
  have hi : i < c.length := by omega
  have hx := hcm _ (List.getElem_mem hi)
  have hl : (c.take i).length < 4398046511104 := by rw [List.length_take];omega
  simp only [spec_l6Copy.l0,impl_cloneMachine.l0]
  rw [if_pos (show (i : Int) < (c.length : Int) by omega),if_pos (show 0 ≤ (i : Int) by omega),rd79_get hi,(copy3 c[i].f1 hx).1,(copy3 c[i].f1 hx).2]
  simp only [Option.bind_some]
  rw [if_pos hl,if_pos (show (i : Int) < (c.length : Int) by omega),if_pos (show 0 ≤ (i : Int) by omega),if_pos (show (i : Int) < (c.length : Int) by omega),if_pos hl,wrap_of (x := (i : Int) + 1) (by omega) (by omega),show (i : Int) + 1 = ((i + 1 : Nat) : Int) by omega,show c.take i ++ [(⟨c[i].f0,c[i].f1⟩ : S79)] = c.take (i + 1) from by rw [List.take_succ_eq_append_getElem hi]]
  exact ih (i + 1) k (by omega) (by omega)
theorem copy_both (b : Bool) (c : List S79) (r : List S45) (ids : List Int) (hc : c.length ≤ 1048576) (hcm : ∀ x ∈ c, x.f1.length ≤ 1048576) (hr : r.length ≤ 1048576) (hrm : ∀ x ∈ r, x.f3.length ≤ 1048576) (hi : ids.length ≤ 1048576) (k : Nat) (hk : 20000000 < k) : spec_l6Copy.f k b c r ids = some (b, c, r, ids) ∧ impl_cloneMachine.f k b c r ids = some (b, c, r, ids) := by
 have h := specCps b c r ids ids hc hcm hr hrm c.length 0 k (by omega) (by omega)
 rw [show ((0 : Nat) : Int) = 0 from rfl,List.take_zero] at h
 constructor
 ·simp only [spec_l6Copy.f,Option.bind_some,List.length_nil,List.nil_append]
  rw [if_pos (by omega)]
  exact h.1
 ·simp only [impl_cloneMachine.f,slices_Clone_int64_int64.f,Option.bind_some,List.length_nil,List.nil_append]
  rw [if_pos (by omega)]
  exact h.2
def turnR (a1 a2 : Int) (x : S45) : S45 := if x.f1 = a1 ∧ x.f2 = a2 ∧ x.f0 = 1 then ⟨3, x.f1, x.f2, x.f3⟩ else x
theorem turnR_f3 (a1 a2 : Int) (x : S45) : (turnR a1 a2 x).f3 = x.f3 := by
 unfold turnR
 by_cases h : x.f1 = a1 ∧ x.f2 = a2 ∧ x.f0 = 1
 ·rw [if_pos h]
 ·rw [if_neg h]
theorem turn_from (a1 a2 : Int) : ∀ d i (x : List S45) k, i + d = x.length → x.length ≤ 1048576 → d < k → spec_l6Turn.l0 k x a1 a2 (i : Int) = some (x.take i ++ (x.drop i).map (turnR a1 a2)) ∧ impl_Machine_turn.l0 k x a1 a2 (i : Int) = some (x.take i ++ (x.drop i).map (turnR a1 a2)) := by
 intro d
 induction d with
  | zero =>
  intro i x k hd hx hk
  obtain ⟨k,rfl⟩ : ∃ z,k = z + 1 := ⟨k - 1,by omega⟩
  simp only [spec_l6Turn.l0,impl_Machine_turn.l0]
  rw [if_neg (by omega),if_neg (by omega),List.take_of_length_le (by omega),List.drop_of_length_le (by omega)]
  simp
  | succ d ih =>
  intro i x k hd hx hk
  obtain ⟨k,rfl⟩ : ∃ z,k = z + 1 := ⟨k - 1,by omega⟩
  have hi : i < x.length := by omega
  have same : turnR a1 a2 x[i] = x[i] → x.take (i + 1) ++ (x.drop (i + 1)).map (turnR a1 a2) = x.take i ++ (x.drop i).map (turnR a1 a2) := fun h => by
   rw [List.drop_eq_getElem_cons hi,List.map_cons,h,List.take_succ_eq_append_getElem hi,List.append_assoc];rfl
  have stay := ih (i + 1) x k (by omega) hx (by omega)
  rw [show ((i + 1 : Nat) : Int) = (i : Int) + 1 from by omega] at stay
  simp only [spec_l6Turn.l0,impl_Machine_turn.l0]
  have g1 : (i : Int) < (x.length : Int) := by omega
  have g2 : 0 ≤ (i : Int) := by omega
  rw [rd45_get hi,wrap_of (x := (i : Int) + 1) (by omega) (by omega)]
  by_cases h1 : x[i].f1 = a1
  ·by_cases h2 : x[i].f2 = a2
   ·by_cases h3 : x[i].f0 = 1
    ·rw [Int.toNat_natCast]
     have go := ih (i + 1) (x.set i (⟨3,x[i].f1,x[i].f2,x[i].f3⟩ : S45)) k (by rw [List.length_set];omega) (by rw [List.length_set];exact hx) (by omega)
     rw [show ((i + 1 : Nat) : Int) = (i : Int) + 1 from by omega] at go
     have e : (x.set i (⟨3,x[i].f1,x[i].f2,x[i].f3⟩ : S45)).take (i + 1) ++ ((x.set i (⟨3,x[i].f1,x[i].f2,x[i].f3⟩ : S45)).drop (i + 1)).map (turnR a1 a2) = x.take i ++ (x.drop i).map (turnR a1 a2) := by
      rw [List.take_succ_eq_append_getElem (show i < (x.set i (⟨3,x[i].f1,x[i].f2,x[i].f3⟩ : S45)).length by rw [List.length_set];exact hi),List.getElem_set_self,List.take_set_of_le (Nat.le_refl i),List.drop_set_of_lt (Nat.lt_succ_self i),List.drop_eq_getElem_cons hi,List.map_cons,List.append_assoc]
      have e2 : turnR a1 a2 x[i] = ⟨3,x[i].f1,x[i].f2,x[i].f3⟩ := by unfold turnR;rw [if_pos ⟨h1,h2,h3⟩]
      rw [e2];rfl
     rw [e] at go
     constructor <;> rw [if_pos g1,if_pos g2,if_pos h1,if_pos h2,if_pos h3]
     ·exact go.1
     ·exact go.2
    ·have := same (by unfold turnR;rw [if_neg (fun h => h3 h.2.2)])
     rw [← this]
     constructor <;> rw [if_pos g1,if_pos g2,if_pos h1,if_pos h2,if_neg h3]
     ·exact stay.1
     ·exact stay.2
   ·have := same (by unfold turnR;rw [if_neg (fun h => h2 h.2.1)])
    rw [← this]
    constructor <;> rw [if_pos g1,if_pos g2,if_pos h1,if_neg h2]
    ·exact stay.1
    ·exact stay.2
  ·have := same (by unfold turnR;rw [if_neg (fun h => h1 h.1)])
   rw [← this]
   constructor <;> rw [if_pos g1,if_pos g2,if_neg h1]
   ·exact stay.1
   ·exact stay.2
theorem has_from (l : List Int) (n : Int) (hl : l.length ≤ maxLen) : ∀ d i k, i + d = l.length → d < k → spec_l3Has.l0 k l n (i : Int) = some (decide (n ∈ l.drop i)) := by
 unfold maxLen at hl
 intro d
 induction d with
  | zero =>
  intro i k hd hk
  obtain ⟨k,rfl⟩ : ∃ m,k = m + 1 := ⟨k - 1,by omega⟩
  simp only [spec_l3Has.l0]
  rw [if_neg (by omega),List.drop_of_length_le (by omega)]
  simp
  | succ d ih =>
  intro i k hd hk
  obtain ⟨k,rfl⟩ : ∃ m,k = m + 1 := ⟨k - 1,by omega⟩
  simp only [spec_l3Has.l0]
  rw [if_pos (by omega),if_pos (by omega),rd_get (show i < l.length by omega),wrap_of (by omega) (by omega),List.drop_eq_getElem_cons (show i < l.length by omega)]
  by_cases h : l[i] = n
  ·rw [if_pos h,decide_eq_true (show n ∈ l[i] :: l.drop (i + 1) by rw [h];exact List.mem_cons_self)]
  ·rw [if_neg h]
   have := ih (i + 1) k (by omega) (by omega)
   rw [show ((i + 1 : Nat) : Int) = (i : Int) + 1 from by omega] at this
   rw [this]
   have h' : ¬ n = l[i] := fun e => h e.symm
   simp only [List.mem_cons,h',false_or]
theorem has_ok (l : List Int) (n : Int) (hl : l.length ≤ maxLen) (k : Nat) (hk : l.length < k) : spec_l3Has.f k l n = some (decide (n ∈ l)) := by
 have := has_from l n hl l.length 0 k (by omega) hk
 simpa [spec_l3Has.f] using this
theorem index_from (l : List Int) (n : Int) (hl : l.length ≤ maxLen) : ∀ d i k, i + d = l.length → d < k → ∃ r, slices_Index_int64_int64.l0 k l n (l.length : Int) (i : Int) = some r ∧ (0 ≤ r ↔ n ∈ l.drop i) := by
 unfold maxLen at hl
 intro d
 induction d with
  | zero =>
  intro i k hd hk
  obtain ⟨k,rfl⟩ : ∃ m,k = m + 1 := ⟨k - 1,by omega⟩
  simp only [slices_Index_int64_int64.l0]
  rw [if_neg (by omega),List.drop_of_length_le (by omega)]
  exact ⟨-1,rfl,by simp⟩
  | succ d ih =>
  intro i k hd hk
  obtain ⟨k,rfl⟩ : ∃ m,k = m + 1 := ⟨k - 1,by omega⟩
  simp only [slices_Index_int64_int64.l0]
  rw [if_pos (by omega),if_pos (by omega),if_pos (by omega),rd_get (show i < l.length by omega),wrap_of (by omega) (by omega),List.drop_eq_getElem_cons (show i < l.length by omega)]
  by_cases h : n = l[i]
  ·rw [if_pos h]
   exact ⟨i,rfl,⟨fun _ => by rw [h];exact List.mem_cons_self,fun _ => by omega⟩⟩
  ·rw [if_neg h]
   have := ih (i + 1) k (by omega) (by omega)
   rw [show ((i + 1 : Nat) : Int) = (i : Int) + 1 from by omega] at this
   obtain ⟨r,e,hr⟩ := this
   exact ⟨r,e,by simp only [hr,List.mem_cons,h,false_or]⟩
theorem contains_ok (l : List Int) (n : Int) (hl : l.length ≤ maxLen) (k : Nat) (hk : l.length < k) : slices_Contains_int64_int64.f k l n = some (decide (n ∈ l)) := by
 obtain ⟨r,e,hr⟩ := index_from l n hl l.length 0 k (by omega) hk
 simp only [slices_Contains_int64_int64.f,slices_Index_int64_int64.f]
 rw [show ((0 : Nat) : Int) = 0 from rfl] at e
 rw [e]
 simp only [List.drop_zero] at hr
 simp [hr]
theorem ids_at (l : List Int) : ∀ d i, i + d = l.length → okIds l i d = true → ∀ j, j < l.length → i ≤ j → j = 0 ∨ rd l ((j : Int) - 1) < rd l (j : Int) := by
 intro d
 induction d with
  | zero => intro i hd _ j hj hi; omega
  | succ d ih =>
  intro i hd h j hj hi
  simp only [okIds,Bool.and_eq_true,Bool.or_eq_true,decide_eq_true_eq] at h
  by_cases e : j = i
  ·subst e;exact h.1.2
  ·exact ih (i + 1) (by omega) h.2 j hj (by omega)
theorem ids_sorted (l : List Int) (h : okIds l 0 l.length = true) : ∀ t s (_ : s ≤ t) (ht : t < l.length), l[s] ≤ l[t] := by
 intro t
 induction t with
  | zero =>
  intro s hs ht
  obtain rfl : s = 0 := by omega
  exact Int.le_refl _
  | succ t ih =>
  intro s hs ht
  by_cases e : s = t + 1
  ·subst e;exact Int.le_refl _
  ·have h1 := ih s (by omega) (by omega)
   have h2 := (ids_at l l.length 0 (by omega) h (t + 1) ht (by omega)).resolve_left (by omega)
   rw [show ((t + 1 : Nat) : Int) - 1 = (t : Int) from by omega,rd_get (show t < l.length by omega),rd_get ht] at h2
   omega
theorem mid_ (i j : Nat) (h : i + j ≤ 4000000) : wrap64 ((IntKind.u64.wrap (wrap64 ((i : Int) + (j : Int)))) / 2) = (((i + j) / 2 : Nat) : Int) := by
 rw [wrap_of (x := (i : Int) + (j : Int)) (by omega) (by omega)]
 have e : IntKind.u64.wrap ((i : Int) + (j : Int)) = (i : Int) + (j : Int) := by
  simp only [IntKind.wrap,IntKind.bits,IntKind.signed,Bool.false_and,Bool.false_eq_true,if_false]
  omega
 rw [e,wrap_of (by omega) (by omega)]
 omega
theorem less_ (a b : Int) : cmp_Less_int64.f a b = some (decide (a < b)) := by simp [cmp_Less_int64.f, cmp_isNaN_int64.f]
theorem search_from (l : List Int) (a : Int) (hl : l.length ≤ 1048576) (hs : ∀ t s (_ : s ≤ t) (ht : t < l.length), l[s] ≤ l[t]) : ∀ d i j k, j ≤ i + d → i ≤ j → j ≤ l.length → d < k → (∀ t (ht : t < l.length), t < i → l[t] < a) → (∀ t (ht : t < l.length), j ≤ t → ¬ l[t] < a) →
  ∃ m,m ≤ l.length ∧ (∀ t (ht : t < l.length),t < m → l[t] < a) ∧ (∀ t (ht : t < l.length),m ≤ t → ¬ l[t] < a) ∧ slices_BinarySearch_int64_int64.l0 k l a (l.length : Int) (i : Int) (j : Int) = some ((m : Int),decide (a ∈ l)) := by
 intro d
 induction d with
  | zero =>
  intro i j k hd hij hj hk hA hB
  obtain ⟨k,rfl⟩ : ∃ z,k = z + 1 := ⟨k - 1,by omega⟩
  obtain rfl : i = j := by omega
  refine ⟨i,hj,hA,hB,?_⟩
  simp only [slices_BinarySearch_int64_int64.l0]
  rw [if_neg (by omega)]
  by_cases hi : i < l.length
  ·rw [if_pos (by omega),if_pos (by omega),if_pos (by omega),rd_get hi]
   by_cases e : l[i] = a
   ·rw [if_pos e,decide_eq_true (show a ∈ l from e ▸ List.getElem_mem hi)]
   ·have hn : ¬ a ∈ l := fun hm => by
     obtain ⟨t,ht,rfl⟩ := List.getElem_of_mem hm
     by_cases hti : t < i
     ·have := hA t ht hti;omega
     ·have h1 := hs t i (by omega) ht
      have h2 := hB i hi (Nat.le_refl _)
      omega
    rw [if_neg e,decide_eq_false hn]
    simp [slices_isNaN_int64.f]
  ·have hn : ¬ a ∈ l := fun hm => by
    obtain ⟨t,ht,rfl⟩ := List.getElem_of_mem hm
    have := hA t ht (by omega);omega
   rw [if_neg (by omega),decide_eq_false hn]
  | succ d ih =>
  intro i j k hd hij hj hk hA hB
  by_cases hlt : i < j
  ·obtain ⟨k,rfl⟩ : ∃ z,k = z + 1 := ⟨k - 1,by omega⟩
   simp only [slices_BinarySearch_int64_int64.l0]
   obtain ⟨h,hh⟩ : ∃ h,h = (i + j) / 2 := ⟨_,rfl⟩
   rw [mid_ i j (by omega),← hh,if_pos (by omega),if_pos (by omega),if_pos (by omega),rd_get (show h < l.length by omega),less_,Option.bind_some]
   by_cases e : l[h] < a
   ·rw [if_pos (by simpa using e),wrap_of (x := (h : Int) + 1) (by omega) (by omega)]
    have := ih (h + 1) j k (by omega) (by omega) hj (by omega) (fun t ht hti => by
     have := hs h t (by omega) (by omega);omega) hB
    rwa [show ((h + 1 : Nat) : Int) = (h : Int) + 1 from by omega] at this
   ·rw [if_neg (by simpa using e)]
    exact ih i h k (by omega) (by omega) (by omega) (by omega) hA (fun t ht hti => by
     have := hs t h hti ht;omega)
  ·exact ih i j k (by omega) hij hj (by omega) hA hB
theorem put_from (l : List Int) (a : Int) (hl : l.length ≤ 1048576) : ∀ d i k, i + d = l.length → d < k → (∀ t (ht : t < l.length), t < i → l[t] < a) →
  ∃ j,j ≤ l.length ∧ (∀ t (ht : t < l.length),t < j → l[t] < a) ∧ (∀ ht : j < l.length,¬ l[j] < a) ∧ spec_l6Put.l0 k l a (l.take i) (i : Int) = some (l.take j ++ [a] ++ l.drop j) := by
 intro d
 induction d with
  | zero =>
  intro i k hd hk hA
  obtain ⟨k,rfl⟩ : ∃ z,k = z + 1 := ⟨k - 1,by omega⟩
  refine ⟨i,by omega,hA,fun ht => by omega,?_⟩
  have hlt : (l.take i).length = i := by rw [List.length_take];omega
  simp only [spec_l6Put.l0]
  rw [if_neg (by omega),hlt,if_pos (by omega),Option.bind_some,if_pos (by omega),if_pos (by omega),Option.bind_some,Int.toNat_natCast]
  rw [if_pos (by simp only [List.length_append,List.length_singleton,List.length_drop,hlt];omega)]
  | succ d ih =>
  intro i k hd hk hA
  obtain ⟨k,rfl⟩ : ∃ z,k = z + 1 := ⟨k - 1,by omega⟩
  have hi : i < l.length := by omega
  have hlt : (l.take i).length = i := by rw [List.length_take];omega
  simp only [spec_l6Put.l0]
  rw [if_pos (by omega),if_pos (by omega),rd_get hi]
  by_cases e : l[i] < a
  ·rw [if_pos e,hlt,if_pos (by omega),wrap_of (x := (i : Int) + 1) (by omega) (by omega)]
   have := ih (i + 1) k (by omega) (by omega) (fun t ht hti => by
    by_cases h : t = i
    ·subst h;exact e
    ·exact hA t ht (by omega))
   rw [List.take_succ_eq_append_getElem hi,show ((i + 1 : Nat) : Int) = (i : Int) + 1 from by omega] at this
   exact this
  ·refine ⟨i,by omega,hA,fun _ => e,?_⟩
   rw [if_neg e,hlt,if_pos (by omega),Option.bind_some,if_pos (by omega),if_pos (by omega),Option.bind_some,Int.toNat_natCast]
   rw [if_pos (by simp only [List.length_append,List.length_singleton,List.length_drop,hlt];omega)]
theorem ids_rng (l : List Int) : ∀ d i, i + d = l.length → okIds l i d = true → ∀ j (hj : j < l.length), i ≤ j → 1 ≤ l[j] ∧ l[j] ≤ 1000000 := by
 intro d
 induction d with
  | zero => intro i hd _ j hj hi; omega
  | succ d ih =>
  intro i hd h j hj hi
  simp only [okIds,Bool.and_eq_true,decide_eq_true_eq] at h
  by_cases e : j = i
  ·subst e
   have := h.1.1
   rwa [rd_get hj] at this
  ·exact ih (i + 1) (by omega) h.2 j hj (by omega)
theorem ids_pair (l : List Int) (h : okIds l 0 l.length = true) : l.Pairwise (· < ·) := by
 rw [List.pairwise_iff_getElem]
 intro i j hi hj hij
 have h1 := ids_sorted l h (j - 1) i (by omega) (by omega)
 have h2 := (ids_at l l.length 0 (by omega) h j hj (by omega)).resolve_left (by omega)
 rw [show (j : Int) - 1 = ((j - 1 : Nat) : Int) from by omega,rd_get (show j - 1 < l.length by omega),rd_get hj] at h2
 omega
theorem ids_mk (l : List Int) (h1 : ∀ x ∈ l, 1 ≤ x ∧ x ≤ 1000000) (h2 : l.Pairwise (· < ·)) : ∀ d i, i + d = l.length → okIds l i d = true := by
 rw [List.pairwise_iff_getElem] at h2
 intro d
 induction d with
  | zero => intro i _; rfl
  | succ d ih =>
  intro i hd
  have hi : i < l.length := by omega
  simp only [okIds,Bool.and_eq_true,Bool.or_eq_true,decide_eq_true_eq]
  refine ⟨⟨by rw [rd_get hi];exact h1 _ (List.getElem_mem hi),?_⟩,ih (i + 1) (by omega)⟩
  by_cases e : i = 0
  ·exact .inl e
  ·refine .inr ?_
   rw [show (i : Int) - 1 = ((i - 1 : Nat) : Int) from by omega,rd_get (show i - 1 < l.length by omega),rd_get hi]
   exact h2 (i - 1) i (by omega) hi (by omega)
theorem ids_put (l : List Int) (a : Int) (h : okIds l 0 l.length = true) (ha : 1 ≤ a ∧ a ≤ 1000000) (j : Nat) (_j1 : j ≤ l.length) (j2 : ∀ t (ht : t < l.length), t < j → l[t] < a) (j3 : ∀ t (ht : t < l.length), j ≤ t → ¬ l[t] < a) (hn : ¬ a ∈ l) : okIds (l.take j ++ [a] ++ l.drop j) 0 (l.take j ++ [a] ++ l.drop j).length = true := by
 have hp := ids_pair l h
 have hr := ids_rng l l.length 0 (by omega) h
 have t1 : ∀ x ∈ l.take j,x < a := fun x hx => by
  obtain ⟨i,hi,rfl⟩ := List.getElem_of_mem hx
  rw [List.length_take] at hi
  rw [List.getElem_take]
  exact j2 i (by omega) (by omega)
 have t2 : ∀ x ∈ l.drop j,a < x := fun x hx => by
  obtain ⟨i,hi,rfl⟩ := List.getElem_of_mem hx
  rw [List.length_drop] at hi
  have q := j3 (j + i) (by omega) (by omega)
  have hne : l[j + i] ≠ a := fun e => hn (e ▸ List.getElem_mem _)
  rw [List.getElem_drop]
  omega
 refine ids_mk _ (fun x hx => ?_) ?_ _ 0 (by omega)
 ·rcases List.mem_append.1 hx with hx | hx
  ·rcases List.mem_append.1 hx with hx | hx
   ·obtain ⟨i,hi,rfl⟩ := List.getElem_of_mem (List.mem_of_mem_take hx)
    exact hr i hi (by omega)
   ·rw [List.mem_singleton.1 hx];exact ha
  ·obtain ⟨i,hi,rfl⟩ := List.getElem_of_mem (List.mem_of_mem_drop hx)
   exact hr i hi (by omega)
 ·rw [List.pairwise_append,List.pairwise_append]
  refine ⟨⟨hp.sublist (List.take_sublist _ _),List.pairwise_singleton _ _,fun x hx y hy => ?_⟩,hp.sublist (List.drop_sublist _ _),fun x hx y hy => ?_⟩
  ·rw [List.mem_singleton.1 hy];exact t1 x hx
  ·rcases List.mem_append.1 hx with hx | hx
   ·have := t1 x hx;have := t2 y hy;omega
   ·rw [List.mem_singleton.1 hx];exact t2 y hy
theorem clear_both (r : List S45) (ids : List Int) (a1 a2 : Int) (d : Bool) (hr : r.length ≤ 1048576) (hi : (ids.length : Int) ≤ 60) (ho : okIds ids 0 ids.length = true) (ha : 1 ≤ a1 ∧ a1 ≤ 1000000) (k : Nat) (hk : 20000000 < k) : ∃ v3, (v3.length ≤ ids.length + 1 ∧ okIds v3 0 v3.length = true ∧ (d = true → a1 ∈ v3) ∧ (v3.length = ids.length ∨ (d = true ∧ ¬ a1 ∈ ids))) ∧ spec_l6Clear.f k r ids a1 a2 d = some ((r.filter fun x => !hits a1 a2 x), v3) ∧ impl_Machine_clear.f k r ids a1 a2 d = some ((r.filter fun x => !hits a1 a2 x), v3) := by
 obtain ⟨m,m1,m2,m3,m4⟩ := search_from ids a1 (by omega) (ids_sorted ids ho) ids.length 0 ids.length k (by omega) (by omega) (by omega) (by omega) (fun t _ h => by omega) (fun t h1 h2 => by omega)
 obtain ⟨j,j1,j2,j3,j4⟩ := put_from ids a1 (by omega) ids.length 0 k (by omega) (by omega) (fun t _ h => by omega)
 have hb : slices_BinarySearch_int64_int64.f k ids a1 = some ((m : Int),decide (a1 ∈ ids)) := by unfold slices_BinarySearch_int64_int64.f;exact m4
 have e : j = m := by
  by_cases h1 : j < m
  ·have := m2 j (by omega) h1;exact absurd this (j3 (by omega))
  ·by_cases h2 : m < j
   ·have := j2 m (by omega) h2;exact absurd this (m3 m (by omega) (Nat.le_refl _))
   ·omega
 subst e
 unfold spec_l6Clear.f impl_Machine_clear.f
 rw [if_pos (by omega),hb,Option.bind_some]
 cases d with
  | false => exact ⟨ids, ⟨by omega, ho, by simp, .inl rfl⟩, by simp, by simp⟩
  | true =>
  rw [if_pos rfl,if_pos rfl]
  unfold spec_l6Put.f
  rw [has_ok ids a1 (by unfold maxLen;omega) k (by omega),Option.bind_some]
  by_cases h : a1 ∈ ids
  ·simp only [decide_eq_true h,if_true]
   exact ⟨ids,⟨by omega,ho,fun _ => h,.inl rfl⟩,rfl,rfl⟩
  ·simp only [decide_eq_false h,Bool.false_eq_true,if_false]
   rw [if_pos (by omega),Int.toNat_natCast]
   have j5 : spec_l6Put.l0 k ids a1 [] 0 = some (ids.take j ++ [a1] ++ ids.drop j) := by simpa using j4
   rw [j5,Option.bind_some]
   exact ⟨_,⟨by simp;omega,ids_put ids a1 ho ha j j1 j2 m3 h,fun _ => by simp,.inr ⟨by simp,h⟩⟩,rfl,rfl⟩
theorem room_val (ids : List Int) (a : Int) (hi : (ids.length : Int) ≤ 60) (k : Nat) (hk : 20000000 < k) : ∃ v, ((spec_l3Has.f k ids a).bind fun v => some (v || !decide ((ids.length : Int) = 60))) = some v ∧ impl_Machine_canClear.f k ids a = some v ∧ (v = true → a ∈ ids ∨ (ids.length : Int) < 60) := by
 rw [has_ok ids a (by unfold maxLen;omega) k (by omega),Option.bind_some]
 unfold impl_Machine_canClear.f
 rw [contains_ok ids a (by unfold maxLen;omega) k (by omega)]
 by_cases h : (ids.length : Int) < 60
 ·rw [if_pos h];exact ⟨true,by simp;omega,rfl,fun _ => .inr h⟩
 ·rw [if_neg h];exact ⟨_,by rw [decide_eq_true (show (ids.length : Int) = 60 by omega)],by simp,fun hv => by simp at hv;exact .inl hv⟩
theorem likeInts_ok (l : List Int) (hl : l.length ≤ 9000000000000) (k : Nat) (hk : l.length < k) : laws_likeInts.f k l l = some true := by
 unfold laws_likeInts.f
 rw [if_pos rfl]
 exact loop_to (fun k (s : Int) => laws_likeInts.l0 k l l s) (fun i s => s = (i : Int)) l.length 0 true
  (fun k i s hk hi hP => ⟨wrap64 (s + 1),by rw [hP,wrap_of (by omega) (by omega)];omega,by
   show laws_likeInts.l0 (k + 1) l l s = _
   simp only [laws_likeInts.l0]
   rw [if_pos (by omega),if_pos (by omega),if_pos (by omega),if_pos trivial]⟩)
  (fun k s _ hP => by
   show laws_likeInts.l0 (k + 1) l l s = _
   simp only [laws_likeInts.l0]
   rw [if_neg (by omega)]) 0 k 0 (by omega) (by omega) rfl
theorem likeCells_ok (l : List S92) (hl : l.length ≤ 9000000000000) (k : Nat) (hk : l.length < k) : laws_likeCells.f k l l = some true := by
 unfold laws_likeCells.f
 rw [if_pos rfl]
 exact loop_to (fun k (s : Int) => laws_likeCells.l0 k l l s) (fun i s => s = (i : Int)) l.length 0 true
  (fun k i s hk hi hP => ⟨wrap64 (s + 1),by rw [hP,wrap_of (by omega) (by omega)];omega,by
   show laws_likeCells.l0 (k + 1) l l s = _
   simp only [laws_likeCells.l0]
   rw [if_pos (by omega),if_pos (by omega),if_pos (by omega),if_neg (by simp)]⟩)
  (fun k s _ hP => by
   show laws_likeCells.l0 (k + 1) l l s = _
   simp only [laws_likeCells.l0]
   rw [if_neg (by omega)]) 0 k 0 (by omega) (by omega) rfl
theorem likeSets_ok (l : List S127) (hl : l.length ≤ 9000000000000) (k : Nat) (hk : l.length < k) : laws_likeSets.f k l l = some true := by
 unfold laws_likeSets.f
 rw [if_pos rfl]
 exact loop_to (fun k (s : Int) => laws_likeSets.l0 k l l s) (fun i s => s = (i : Int)) l.length 0 true
  (fun k i s hk hi hP => ⟨wrap64 (s + 1),by rw [hP,wrap_of (by omega) (by omega)];omega,by
   show laws_likeSets.l0 (k + 1) l l s = _
   simp only [laws_likeSets.l0]
   rw [if_pos (by omega),if_pos (by omega),if_pos (by omega),if_neg (by simp)]⟩)
  (fun k s _ hP => by
   show laws_likeSets.l0 (k + 1) l l s = _
   simp only [laws_likeSets.l0]
   rw [if_neg (by omega)]) 0 k 0 (by omega) (by omega) rfl
theorem likeRec_ok (x : S45) (hx : x.f3.length ≤ 1048576) (k : Nat) (hk : 1048580 < k) : laws_likeRecord.f k x.f0 x.f1 x.f2 x.f3 x.f0 x.f1 x.f2 x.f3 = some true := by
 unfold laws_likeRecord.f
 rw [if_pos rfl,if_pos rfl,if_pos rfl,likeSets_ok x.f3 (by omega) k (by omega),Option.bind_some]
theorem likeRecs (b : Bool) (c : List S79) (r : List S45) (ids : List Int) (hr : r.length ≤ 1048576) (hrm : ∀ x ∈ r, x.f3.length ≤ 1048576) : ∀ d i k, i + d = r.length → d + 1048590 < k → laws_likeMachine.l1 k (i : Int) b c r ids b c r ids = some true := by
 intro d
 induction d with
  | zero =>
  intro i k hd hk
  obtain ⟨k,rfl⟩ : ∃ z,k = z + 1 := ⟨k - 1,by omega⟩
  simp only [laws_likeMachine.l1]
  rw [if_neg (by omega)]
  | succ d ih =>
  intro i k hd hk
  obtain ⟨k,rfl⟩ : ∃ z,k = z + 1 := ⟨k - 1,by omega⟩
  have hi : i < r.length := by omega
  have := ih (i + 1) k (by omega) (by omega)
  rw [show ((i + 1 : Nat) : Int) = (i : Int) + 1 from by omega] at this
  simp only [laws_likeMachine.l1]
  rw [if_pos (by omega),if_pos (by omega),if_pos (by omega),rd45_get hi,likeRec_ok r[i] (hrm _ (List.getElem_mem hi)) k (by omega),Option.bind_some,if_pos rfl,wrap_of (by omega) (by omega)]
  exact this
theorem likeCps (b : Bool) (c : List S79) (r : List S45) (ids : List Int) (hc : c.length ≤ 1048576) (hcm : ∀ x ∈ c, x.f1.length ≤ 1048576) (hr : r.length ≤ 1048576) (hrm : ∀ x ∈ r, x.f3.length ≤ 1048576) : ∀ d i k, i + d = c.length → d + 3000000 < k → laws_likeMachine.l0 k (i : Int) b c r ids b c r ids = some true := by
 intro d
 induction d with
  | zero =>
  intro i k hd hk
  obtain ⟨k,rfl⟩ : ∃ z,k = z + 1 := ⟨k - 1,by omega⟩
  simp only [laws_likeMachine.l0]
  rw [if_neg (by omega)]
  exact likeRecs b c r ids hr hrm r.length 0 k (by omega) (by omega)
  | succ d ih =>
  intro i k hd hk
  obtain ⟨k,rfl⟩ : ∃ z,k = z + 1 := ⟨k - 1,by omega⟩
  have hi : i < c.length := by omega
  have := ih (i + 1) k (by omega) (by omega)
  rw [show ((i + 1 : Nat) : Int) = (i : Int) + 1 from by omega] at this
  simp only [laws_likeMachine.l0]
  rw [if_pos (by omega),if_pos (by omega),if_pos (by omega),if_pos trivial,rd79_get hi,likeCells_ok c[i].f1 (by have := hcm _ (List.getElem_mem hi);omega) k (by have := hcm _ (List.getElem_mem hi);omega),Option.bind_some,if_pos rfl,wrap_of (by omega) (by omega)]
  exact this
theorem likeM_ok (b : Bool) (c : List S79) (r : List S45) (ids : List Int) (hc : c.length ≤ 1048576) (hcm : ∀ x ∈ c, x.f1.length ≤ 1048576) (hr : r.length ≤ 1048576) (hrm : ∀ x ∈ r, x.f3.length ≤ 1048576) (hi : ids.length ≤ 1048576) (k : Nat) (hk : 20000000 < k) : laws_likeMachine.f k b c r ids b c r ids = some true := by
 unfold laws_likeMachine.f
 rw [if_neg (by simp),if_pos rfl,if_pos rfl,likeInts_ok ids (by omega) k (by omega),Option.bind_some]
 obtain ⟨k,rfl⟩ : ∃ z,k = z + 1 := ⟨k - 1,by omega⟩
 simp only [laws_likeMachine.j0]
 rw [if_neg (by simp)]
 exact likeCps b c r ids hc hcm hr hrm c.length 0 k (by omega) (by omega)
theorem idx_none {α : Type} (p : α → Bool) : ∀ (l : List α) (i : Nat), (∀ x ∈ l, p x = false) → idxFrom (fun x => some (p x)) l i = some (-1)
  | [], _, _ => rfl
  | x :: l, i, h => by
    simp only [idxFrom,Option.bind_some]
    rw [h x List.mem_cons_self]
    simpa using idx_none p l (i + 1) (fun y hy => h y (List.mem_cons_of_mem _ hy))
theorem logged_none (b : Bool) (c : List S79) (r : List S45) (ids : List Int) (q1 q2 : Int) (hc : c.length ≤ 1048576) (hcm : ∀ x ∈ c, x.f1.length ≤ 1048576) (hr : r.length ≤ 1048576) (hrm : ∀ x ∈ r, x.f3.length ≤ 1048576) (hi : ids.length ≤ 1048576) (hn : ∀ x ∈ r, ¬ (x.f1 = q1 ∧ x.f2 = q2 ∧ x.f0 = 1)) (k : Nat) (hk : 20000000 < k) : impl_Logged.f k b c r ids q1 q2 1 = some (0, 0, 0, [], false) := by
 obtain ⟨v,_,v2,_⟩ := machine_ok b c r ids hc hcm hr hrm hi k hk
 have f2 : idxFrom (fun x : S45 => some ((x.f1 == q1) && ((x.f2 == q2) && (x.f0 == 1)))) r 0 = some (-1) := idx_none (fun x : S45 => (x.f1 == q1) && ((x.f2 == q2) && (x.f0 == 1))) r 0 (fun x hx => by
  have := hn x hx
  cases h1 : x.f1 == q1
  ·rfl
  ·cases h2 : x.f2 == q2
   ·rfl
   ·cases h3 : x.f0 == 1
    ·rfl
    ·exact absurd ⟨by simpa using h1,by simpa using h2,by simpa using h3⟩ this)
 simp only [impl_Logged.f,impl_Machine_logged.f,v2,f2,Option.bind_some]
 cases v <;> simp
theorem turnR_hit (a1 a2 : Int) (x : S45) : ¬ ((turnR a1 a2 x).f1 = a1 ∧ (turnR a1 a2 x).f2 = a2 ∧ (turnR a1 a2 x).f0 = 1) := by
 unfold turnR
 by_cases h : x.f1 = a1 ∧ x.f2 = a2 ∧ x.f0 = 1
 ·rw [if_pos h];simp
 ·rw [if_neg h];exact h
theorem law_rec : RECOK := fun f0 f1 f2 ys h => ⟨100, _, (record_val ⟨f0, f1, f2, ys⟩ (show ys.length ≤ 1048576 by omega) 100 (show 2 * ys.length + 2 < 100 by omega)).1⟩
theorem law_trn : TRN := by
 intro b c r ids a1 a2 h1 h2 h3
 obtain ⟨k,hk⟩ : ∃ k,20000000 < k := ⟨_,Nat.lt_succ_self _⟩
 have hc : c.length ≤ 1048576 := by have := h1.1;omega
 have hcm : ∀ x ∈ c,x.f1.length ≤ 1048576 := fun x hx => by have := h1.2 x hx;omega
 have hr : r.length ≤ 1048576 := by have := h2.1;omega
 have hrm : ∀ x ∈ r,x.f3.length ≤ 1048576 := fun x hx => by have := h2.2 x hx;omega
 have hi : ids.length ≤ 1048576 := by omega
 obtain ⟨v,e1,e2,_⟩ := machine_ok b c r ids hc hcm hr hrm hi k hk
 obtain ⟨c1,c2⟩ := copy_both b c r ids hc hcm hr hrm hi k hk
 obtain ⟨t1,t2⟩ := turn_from a1 a2 r.length 0 r k (by omega) hr (by omega)
 rw [show ((0 : Nat) : Int) = 0 from rfl,List.take_zero,List.nil_append,List.drop_zero] at t1 t2
 have hr2 : (r.map (turnR a1 a2)).length ≤ 1048576 := by rw [List.length_map];exact hr
 have hrm2 : ∀ x ∈ r.map (turnR a1 a2),x.f3.length ≤ 1048576 := fun x hx => by
  obtain ⟨y,hy,rfl⟩ := List.mem_map.1 hx
  rw [turnR_f3]
  exact hrm y hy
 have n0 : ∀ x ∈ ([] : List S79),x.f1.length ≤ 1048576 := fun x h => by simp at h
 have n1 : ∀ x ∈ ([] : List S45),x.f3.length ≤ 1048576 := fun x h => by simp at h
 cases v
 ·exact ⟨k,false,[],[],[],by simp [spec_Turn.f,e1],by simp [impl_Turn.f,e2],likeM_ok false [] [] [] (by simp) n0 (by simp) n1 (by simp) k hk,logged_none false [] [] [] a1 a2 (by simp) n0 (by simp) n1 (by simp) (fun x h => by simp at h) k hk⟩
 ·exact ⟨k,b,c,r.map (turnR a1 a2),ids,by simp [spec_Turn.f,spec_l6Turn.f,e1,c1,t1],by simp [impl_Turn.f,impl_Machine_turn.f,e2,c2,t2],likeM_ok b c _ ids hc hcm hr2 hrm2 hi k hk,logged_none b c _ ids a1 a2 hc hcm hr2 hrm2 hi (fun x hx => by
   obtain ⟨y,_,rfl⟩ := List.mem_map.1 hx
   exact turnR_hit a1 a2 y) k hk⟩
theorem law_clr : CLR := by
 intro b c r ids a1 a2 d h1 h2 h3
 obtain ⟨k,hk⟩ : ∃ k,20000000 < k := ⟨_,Nat.lt_succ_self _⟩
 have hc : c.length ≤ 1048576 := by have := h1.1;omega
 have hcm : ∀ x ∈ c,x.f1.length ≤ 1048576 := fun x hx => by have := h1.2 x hx;omega
 have hr : r.length ≤ 1048576 := by have := h2.1;omega
 have hrm : ∀ x ∈ r,x.f3.length ≤ 1048576 := fun x hx => by have := h2.2 x hx;omega
 have hi : ids.length ≤ 1048576 := by omega
 have n0 : ∀ x ∈ ([] : List S79),x.f1.length ≤ 1048576 := fun x h => by simp at h
 have n1 : ∀ x ∈ ([] : List S45),x.f3.length ≤ 1048576 := fun x h => by simp at h
 have zero : laws_likeMachine.f k false [] [] [] false [] [] [] = some true := likeM_ok false [] [] [] (by simp) n0 (by simp) n1 (by simp) k hk
 obtain ⟨v,e1,e2,e3⟩ := machine_ok b c r ids hc hcm hr hrm hi k hk
 obtain ⟨c1,c2⟩ := copy_both b c r ids hc hcm hr hrm hi k hk
 have i1 : spec_l1Id.f a1 = some (decide (1 ≤ a1 ∧ a1 ≤ 1000000)) := by simp only [spec_l1Id.f,in_,Option.bind_some]
 have i2 : impl_isId.f a1 = some (decide (1 ≤ a1 ∧ a1 ≤ 1000000)) := by simp only [impl_isId.f,within_,Option.bind_some]
 cases v
 ·exact ⟨k,false,[],[],[],false,by simp [spec_Clear.f,e1],by simp [impl_Clear.f,e2],zero,fun _ => zero,(fun h => by cases h),by simp,by simp⟩
 ·by_cases hid : 1 ≤ a1 ∧ a1 ≤ 1000000
  ·rw [decide_eq_true hid] at i1 i2
   obtain ⟨g1,g2,g3,g4,g5,g6⟩ := e3 rfl
   obtain ⟨t,t1,t2,t3⟩ := room_val ids a1 g4 k hk
   obtain ⟨v3,⟨w1,w4,w5,w6⟩,w2,w3⟩ := clear_both r ids a1 a2 d hr g4 g5 hid k hk
   obtain ⟨u,u1,u2,u3⟩ : ∃ u,(if d = true then ((spec_l3Has.f k ids a1).bind fun v => some (v || !decide ((ids.length : Int) = 60))) else some true) = some u ∧ (if d = true then impl_Machine_canClear.f k ids a1 else some true) = some u ∧ (u = true → d = true → a1 ∈ ids ∨ (ids.length : Int) < 60) := by
    cases d
    ·exact ⟨true,by simp,by simp,fun _ h => by cases h⟩
    ·exact ⟨t,by rw [if_pos rfl];exact t1,by rw [if_pos rfl];exact t2,fun h _ => t3 h⟩
   cases u
   ·exact ⟨k,false,[],[],[],false,by simp only [spec_Clear.f,e1,i1,u1,Option.bind_some];simp,by simp only [impl_Clear.f,e2,i2,u2,Option.bind_some];simp,zero,fun _ => zero,(fun h => by cases h),by simp,by simp⟩
   ·have hv3 : (v3.length : Int) ≤ 60 := by
     rcases w6 with h | ⟨hd,hn⟩
     ·omega
     ·rcases u3 rfl hd with h | h
      ·exact absurd h hn
      ·omega
    have hf : (r.filter fun x => !hits a1 a2 x).length ≤ r.length := List.length_filter_le _ _
    have hfm : ∀ x ∈ (r.filter fun x => !hits a1 a2 x),x.f3.length ≤ 1048576 := fun x hx => hrm x (List.mem_filter.1 hx).1
    refine ⟨k,b,c,(r.filter fun x => !hits a1 a2 x),v3,true,by simp only [spec_Clear.f,e1,i1,u1,c1,w2,Option.bind_some];simp,by simp only [impl_Clear.f,e2,i2,u2,c2,w3,Option.bind_some];simp,likeM_ok b c _ v3 hc hcm (by omega) hfm (by omega) k hk,(fun h => by cases h),fun _ => ⟨fun i h e => ?_,fun hd => ?_,?_⟩,by omega,by omega⟩
    ·have hm := (List.mem_filter.1 (List.getElem_mem h)).2
     revert e hm
     generalize (r.filter fun x => !hits a1 a2 x)[i] = x
     intro e hm e'
     have hh : hits a1 a2 x = true := by
      unfold hits
      rw [e,e']
      simp
     rw [hh] at hm
     cases hm
    ·obtain ⟨p,hp,e⟩ := List.getElem_of_mem (w5 hd)
     exact ⟨p,hp,e⟩
    ·have hall : (r.filter fun x => !hits a1 a2 x).all okR = true := by
      rw [List.all_eq_true] at g6 ⊢
      exact fun x hx => g6 x (List.mem_filter.1 hx).1
     unfold impl_MachineOk.f
     rw [machine_val b c _ v3 hc hcm (by omega) hfm (by omega) g2 (by omega) hv3 w4 g1 hall k hk]
     rfl
  ·rw [decide_eq_false hid] at i1 i2
   exact ⟨k,false,[],[],[],false,by simp only [spec_Clear.f,e1,i1,Option.bind_some];simp,by simp only [impl_Clear.f,e2,i2,Option.bind_some];simp,zero,fun _ => zero,(fun h => by cases h),by simp,by simp⟩
/-! ### laws_FnCleared: function 9 -/
theorem hold_9 {p : Prop} (h : Aside0 p) : p := h.out
theorem last_hit {d fb : Bool} {v3 : List Int} {t el : Int} {p i : Nat} (_f : (d = false ∨ p < i) → fb = true) (hp : d = true → ∃ h : p < v3.length, v3[p] = t) {hlt : i < v3.length} (he : el = v3[i]) (h : d = false ∨ p < i + 1) (hfb : fb = false := by rfl) : (el == t) = true := by
 subst hfb
 have hn : ¬ (d = false ∨ p < i) := fun h => by cases _f h
 have hd : d = true := by
  cases d
  ·exact absurd (.inl rfl) hn
  ·rfl
 have hpi : p = i := by
  rcases h with h | h
  ·exact absurd (.inl h) hn
  ·have : ¬ p < i := fun h => hn (.inr h)
   omega
 obtain ⟨h1,h2⟩ := hp hd
 subst hpi
 rw [he,h2]
 exact beq_self_eq_true t
theorem all_hit {d : Bool} {v3 : List Int} {t : Int} {p i : Nat} (hp : d = true → ∃ h : p < v3.length, v3[p] = t) (hi : v3.length ≤ i) : d = false ∨ p < i := by
 cases d
 ·exact .inl rfl
 ·obtain ⟨h,_⟩ := hp rfl
  exact .inr (Nat.lt_of_lt_of_le h hi)
def laws_FnCleared.f (l0 : List Int) : Option (Bool) := some true
set_option maxHeartbeats 8000000 in
set_option maxRecDepth 100000 in
theorem laws_FnCleared.calls (A0 : Option Addr) (c0 : Nat) (l0 : List Int) (r : Bool) (w : World) (hr0 : Kd.C (Kd.int .u8) w A0 l0.length l0) (hc0 : l0.length ≤ c0) (h : laws_FnCleared.f l0 = some r) :
    Calls Try.prog 9 #[.slice A0 l0.length c0] w fun e w' => e = .returned (.bool r) ∧ Below w.heap.size w w' := by
 have hu := Try.underlying32
 have hu2 := Try.underlying45
 obtain rfl := Option.some.inj h
 clear h
 have HCc := ak hc0
 have HC := ak hr0
 have PC := ak law_clr
 have PT := ak law_trn
 have G := ak (Below.refl w.heap.size w)
 clear hr0 hc0
 go_enter Try.func9,Try.ntmps9
 obtain ⟨bg,hbg⟩ : ∃ z_ : Bool,z_ = decide ((l0.length : Int) > 4096) := ⟨_,rfl⟩
 have HG := ak hbg
 clear hbg
 go_wp2_with (go_at_call 37;refine (laws_big.calls A0 c0 l0 bg _ HC.out HCc.out (by rw [HG.out];rfl)).mono ?_;rintro e w1 ⟨rfl,B0⟩;(try dsimp only);refine hold_9 ?_)
 refine ⟨?_⟩
 have B := B0.below
 have HC := ak (Kd.C_below HC.out B)
 have G := ak (below_step G.out B)
 clear B
 clear B0
 cases bg
 rotate_left
 ·go_wp2
  go_ret
  exact ⟨rfl,G.out⟩
 have HLM : Aside0 (l0.length ≤ maxLen) := ⟨by unfold maxLen;have := of_decide_eq_false HG.out.symm;omega⟩
 clear HG
 go_wp2_with ((with_reducible refine gcal_ (f := 38) rfl ?_);refine goesL_ (some 24) rfl rfl Try.func38 (by kernel_rfl) rfl #[.slice A0 l0.length c0] rfl (by (try simp only [List.map_toArray,List.map_cons,List.map_nil]);first|done|rfl) ?_;refine (drawClear_any law_rec HLM.out HC.out HCc.out).mono ?_;rintro e w2 ⟨b,Am1,cm1,l1,Am2,cm2,l2,Am3,cm3,l3,t,r,d,rfl,hm,B⟩;refine ⟨_,rfl,?_⟩;refine hold_9 ?_)
 refine ⟨?_⟩
 have HC := ak (Kd.C_below HC.out B)
 have G := ak (below_step G.out B)
 clear B
 have Mm := ak hm.mc
 obtain ⟨k,vb,v1,v2,v3,v4,F1_,F2_,F3_,F4_,F5_,F6_,F7_⟩ := PC.out b l1 l2 l3 t r d hm.2.2.2.1 hm.2.2.2.2.1 hm.2.2.2.2.2
 have F1 := ak F1_
 have F2 := ak F2_
 have F3 := ak F3_
 have F4 := ak F4_
 have F5 := ak F5_
 have F6 := ak F6_
 have F7 := ak F7_
 clear hm PC F1_ F2_ F3_ F4_ F5_ F6_ F7_
 go_wp2_with ((with_reducible refine gate_dst (N := 3) rfl ?_);refine bx_ 3 #[.bool false,.slice none 0 0,.slice none 0 0,.slice none 0 0] 32 ?_;intro gm hg w3a hbox hb;have hge := ak (Nat.le_of_eq hg.symm);clear hg;refine hold_9 ?_)
 refine ⟨?_⟩
 have BZ := ak hbox
 have Q0 := ak hb
 have HGE := hge
 clear hbox hb hge
 obtain ⟨⟨hcgmy_0, hcgmy_1, hcgmy_2, hcgmy_3⟩, hfy_0, hfy_1, hfy_2, hfy_3⟩ := cl4_ BZ.out
 go_upto_region 4 with (fail)
 obtain ⟨n0_, n1_⟩ := fl4_ Q0.out HGE.out BZ.out (.bool b) (.slice Am1 l1.length cm1) (.slice Am2 l2.length cm2) (.slice Am3 l3.length cm3)
 clear BZ Q0
 clear hcgmy_0 hfy_0 hcgmy_1 hfy_1 hcgmy_2 hfy_2 hcgmy_3 hfy_3
 generalize ((((w3a.setCell ⟨gm,0,none⟩ (.bool b)).setCell ⟨gm,1,none⟩ (.slice Am1 l1.length cm1)).setCell ⟨gm,2,none⟩ (.slice Am2 l2.length cm2)).setCell ⟨gm,3,none⟩ (.slice Am3 l3.length cm3)) = w3 at n0_ n1_ ⊢
 have B := n0_.out
 have Bm := n1_
 clear n0_ n1_
 have Mm := ak (Mm.out.below B)
 have HC := ak (Kd.C_below HC.out B)
 have G := ak (below_step G.out B)
 clear B
 obtain ⟨⟨hc1_0,hc1_1,hc1_2,hc1_3⟩,hf1_0,hf1_1,hf1_2,hf1_3⟩ := cl4_ Bm.out
 go_wp2_with ((with_reducible refine gcal_ (f := 39) rfl ?_);refine goesL_ (some 34) rfl rfl Try.func39 (by kernel_rfl) rfl #[.agg #[.bool b,.slice Am1 l1.length cm1,.slice Am2 l2.length cm2,.slice Am3 l3.length cm3],.int .i64 t,.int .i64 r,.bool d] rfl (by (try simp only [List.map_toArray,List.map_cons,List.map_nil]);first|done|rfl) ?_;refine (impl_Clear.calls k b Am1 cm1 l1 Am2 cm2 l2 Am3 cm3 l3 t r d vb v1 v2 v3 v4 _ Mm.out.1.1 Mm.out.1.2 Mm.out.2.1.1 Mm.out.2.1.2 Mm.out.2.2.1 Mm.out.2.2.2 F2.out).mono ?_;rintro e w4 ⟨vx1,vx2,vx3,rfl,S1,S2,S3,B⟩;refine ⟨_,rfl,?_⟩;refine hold_9 ?_)
 refine ⟨?_⟩
 have Mm := ak (Mm.out.below B)
 have Bm := ak (blk_below Bm.out B)
 have HC := ak (Kd.C_below HC.out B)
 have G := ak (below_step G.out B)
 clear B
 obtain ⟨Ax1,cx1,ex1_⟩ := Kd.S_slice S1
 subst ex1_
 obtain ⟨Ax2,cx2,ex2_⟩ := Kd.S_slice S2
 subst ex2_
 obtain ⟨Ax3,cx3,ex3_⟩ := Kd.R_slice S3
 subst ex3_
 have Mx := ak (Mc.of S1 S2 S3)
 clear S1 S2 S3
 go_wp2_with ((with_reducible refine gate_dst (N := 7) rfl ?_);refine bx_ 7 #[.bool false,.slice none 0 0,.slice none 0 0,.slice none 0 0] 32 ?_;intro gx hg w5a hbox hb;have hge := ak (Nat.le_of_eq hg.symm);clear hg;refine hold_9 ?_)
 refine ⟨?_⟩
 have BZ := ak hbox
 have Q0 := ak hb
 have HGE := hge
 clear hbox hb hge
 obtain ⟨⟨hcgxy_0, hcgxy_1, hcgxy_2, hcgxy_3⟩, hfy_0, hfy_1, hfy_2, hfy_3⟩ := cl4_ BZ.out
 go_upto_region 5 with (fail)
 obtain ⟨n0_, n1_⟩ := fl4_ Q0.out HGE.out BZ.out (.bool vb) (.slice Ax1 v1.length cx1) (.slice Ax2 v2.length cx2) (.slice Ax3 v3.length cx3)
 clear BZ Q0
 clear hcgxy_0 hfy_0 hcgxy_1 hfy_1 hcgxy_2 hfy_2 hcgxy_3 hfy_3
 generalize ((((w5a.setCell ⟨gx,0,none⟩ (.bool vb)).setCell ⟨gx,1,none⟩ (.slice Ax1 v1.length cx1)).setCell ⟨gx,2,none⟩ (.slice Ax2 v2.length cx2)).setCell ⟨gx,3,none⟩ (.slice Ax3 v3.length cx3)) = w5 at n0_ n1_ ⊢
 have B := n0_.out
 have Bx := n1_
 clear n0_ n1_
 have Mm := ak (Mm.out.below B)
 have Mx := ak (Mx.out.below B)
 have Bm := ak (blk_below Bm.out B)
 have HC := ak (Kd.C_below HC.out B)
 have G := ak (below_step G.out B)
 clear B
 obtain ⟨⟨hc2_0,hc2_1,hc2_2,hc2_3⟩,hf2_0,hf2_1,hf2_2,hf2_3⟩ := cl4_ Bm.out
 go_wp2_with ((with_reducible refine gcal_ (f := 40) rfl ?_);refine goesL_ (some 42) rfl rfl Try.func40 (by kernel_rfl) rfl #[.agg #[.bool b,.slice Am1 l1.length cm1,.slice Am2 l2.length cm2,.slice Am3 l3.length cm3],.int .i64 t,.int .i64 r,.bool d] rfl (by (try simp only [List.map_toArray,List.map_cons,List.map_nil]);first|done|rfl) ?_;refine (spec_Clear.calls k b Am1 cm1 l1 Am2 cm2 l2 Am3 cm3 l3 t r d vb v1 v2 v3 v4 _ Mm.out.1.1 Mm.out.1.2 Mm.out.2.1.1 Mm.out.2.1.2 Mm.out.2.2.1 Mm.out.2.2.2 F1.out).mono ?_;rintro e w6 ⟨vy1,vy2,vy3,rfl,S1,S2,S3,B⟩;refine ⟨_,rfl,?_⟩;refine hold_9 ?_)
 refine ⟨?_⟩
 have Mm := ak (Mm.out.below B)
 have Mx := ak (Mx.out.below B)
 have Bm := ak (blk_below Bm.out B)
 have Bx := ak (blk_below Bx.out B)
 have HC := ak (Kd.C_below HC.out B)
 have G := ak (below_step G.out B)
 clear B
 obtain ⟨Ay1,cy1,ey1_⟩ := Kd.S_slice S1
 subst ey1_
 obtain ⟨Ay2,cy2,ey2_⟩ := Kd.S_slice S2
 subst ey2_
 obtain ⟨Ay3,cy3,ey3_⟩ := Kd.R_slice S3
 subst ey3_
 have My := ak (Mc.of S1 S2 S3)
 clear S1 S2 S3
 go_wp2_with ((with_reducible refine gate_dst (N := 9) rfl ?_);refine bx_ 9 #[.bool false,.slice none 0 0,.slice none 0 0,.slice none 0 0] 32 ?_;intro gy hg w7a hbox hb;have hge := ak (Nat.le_of_eq hg.symm);clear hg;refine hold_9 ?_)
 refine ⟨?_⟩
 have BZ := ak hbox
 have Q0 := ak hb
 have HGE := hge
 clear hbox hb hge
 obtain ⟨⟨hcgyy_0, hcgyy_1, hcgyy_2, hcgyy_3⟩, hfy_0, hfy_1, hfy_2, hfy_3⟩ := cl4_ BZ.out
 go_upto_region 6 with (fail)
 obtain ⟨n0_, n1_⟩ := fl4_ Q0.out HGE.out BZ.out (.bool vb) (.slice Ay1 v1.length cy1) (.slice Ay2 v2.length cy2) (.slice Ay3 v3.length cy3)
 clear BZ Q0
 clear hcgyy_0 hfy_0 hcgyy_1 hfy_1 hcgyy_2 hfy_2 hcgyy_3 hfy_3
 generalize ((((w7a.setCell ⟨gy,0,none⟩ (.bool vb)).setCell ⟨gy,1,none⟩ (.slice Ay1 v1.length cy1)).setCell ⟨gy,2,none⟩ (.slice Ay2 v2.length cy2)).setCell ⟨gy,3,none⟩ (.slice Ay3 v3.length cy3)) = w7 at n0_ n1_ ⊢
 have B := n0_.out
 have By := n1_
 clear n0_ n1_
 have Mm := ak (Mm.out.below B)
 have Mx := ak (Mx.out.below B)
 have My := ak (My.out.below B)
 have Bm := ak (blk_below Bm.out B)
 have Bx := ak (blk_below Bx.out B)
 have HC := ak (Kd.C_below HC.out B)
 have G := ak (below_step G.out B)
 clear B
 obtain ⟨⟨hc3_0,hc3_1,hc3_2,hc3_3⟩,hf3_0,hf3_1,hf3_2,hf3_3⟩ := cl4_ Bx.out
 obtain ⟨⟨hc4_0,hc4_1,hc4_2,hc4_3⟩,hf4_0,hf4_1,hf4_2,hf4_3⟩ := cl4_ By.out
 have hvv : (v4 != v4) = false := by cases v4 <;> rfl
 go_wp2_with (go_at_call 41;refine (laws_likeMachine.calls k vb Ax1 cx1 v1 Ax2 cx2 v2 Ax3 cx3 v3 vb Ay1 cy1 v1 Ay2 cy2 v2 Ay3 cy3 v3 true _ Mx.out.1.1 Mx.out.1.2 Mx.out.2.1.1 Mx.out.2.1.2 Mx.out.2.2.1 Mx.out.2.2.2 My.out.1.1 My.out.1.2 My.out.2.1.1 My.out.2.1.2 My.out.2.2.1 My.out.2.2.2 F3.out).mono ?_;rintro e w8 ⟨rfl,B⟩;(try dsimp only);refine hold_9 ?_)
 refine ⟨?_⟩
 clear hvv
 have Mm := ak (Mm.out.below B)
 have Mx := ak (Mx.out.below B)
 have My := ak (My.out.below B)
 have Bm := ak (blk_below Bm.out B)
 have Bx := ak (blk_below Bx.out B)
 have By := ak (blk_below By.out B)
 have HC := ak (Kd.C_below HC.out B)
 have G := ak (below_step G.out B)
 clear B
 clear My Mm Bm By F1 F2 F3
 go_wp2_with ((with_reducible refine gcal_ (f := 42) rfl ?_);refine goesL_ (some 56) rfl rfl Try.func42 (by kernel_rfl) rfl #[.slice A0 l0.length c0] rfl (by (try simp only [List.map_toArray,List.map_cons,List.map_nil]);first|done|rfl) ?_;refine (drawTurn_any law_rec HLM.out HC.out HCc.out).mono ?_;rintro e w9 ⟨nb,An1,cn1,o1,An2,cn2,o2,An3,cn3,o3,tt,rr,rfl,hm,B⟩;refine ⟨_,rfl,?_⟩;refine hold_9 ?_)
 refine ⟨?_⟩
 have Mx := ak (Mx.out.below B)
 have Bx := ak (blk_below Bx.out B)
 have HC := ak (Kd.C_below HC.out B)
 have G := ak (below_step G.out B)
 clear B
 have Mn := ak hm.mc
 obtain ⟨k2,ub,u1,u2,u3,E1_,E2_,E3_,E4_⟩ := PT.out nb o1 o2 o3 tt rr hm.2.2.2.1 hm.2.2.2.2.1 hm.2.2.2.2.2
 have E1 := ak E1_
 have E2 := ak E2_
 have E3 := ak E3_
 have E4 := ak E4_
 clear hm PT E1_ E2_ E3_ E4_
 go_wp2_with ((with_reducible refine gate_dst (N := 11) rfl ?_);refine bx_ 11 #[.bool false,.slice none 0 0,.slice none 0 0,.slice none 0 0] 32 ?_;intro gn hg w10a hbox hb;have hge := ak (Nat.le_of_eq hg.symm);clear hg;refine hold_9 ?_)
 refine ⟨?_⟩
 have BZ := ak hbox
 have Q0 := ak hb
 have HGE := hge
 clear hbox hb hge
 obtain ⟨⟨hcgny_0, hcgny_1, hcgny_2, hcgny_3⟩, hfy_0, hfy_1, hfy_2, hfy_3⟩ := cl4_ BZ.out
 go_upto_region 9 with (fail)
 obtain ⟨n0_, n1_⟩ := fl4_ Q0.out HGE.out BZ.out (.bool nb) (.slice An1 o1.length cn1) (.slice An2 o2.length cn2) (.slice An3 o3.length cn3)
 clear BZ Q0
 clear hcgny_0 hfy_0 hcgny_1 hfy_1 hcgny_2 hfy_2 hcgny_3 hfy_3
 generalize ((((w10a.setCell ⟨gn,0,none⟩ (.bool nb)).setCell ⟨gn,1,none⟩ (.slice An1 o1.length cn1)).setCell ⟨gn,2,none⟩ (.slice An2 o2.length cn2)).setCell ⟨gn,3,none⟩ (.slice An3 o3.length cn3)) = w10 at n0_ n1_ ⊢
 have B := n0_.out
 have Bn := n1_
 clear n0_ n1_
 have Mx := ak (Mx.out.below B)
 have Mn := ak (Mn.out.below B)
 have Bx := ak (blk_below Bx.out B)
 have HC := ak (Kd.C_below HC.out B)
 have G := ak (below_step G.out B)
 clear B
 obtain ⟨⟨hc5_0,hc5_1,hc5_2,hc5_3⟩,hf5_0,hf5_1,hf5_2,hf5_3⟩ := cl4_ Bn.out
 go_wp2_with ((with_reducible refine gcal_ (f := 32) rfl ?_);refine goesL_ (some 63) rfl rfl Try.func32 (by kernel_rfl) rfl #[.agg #[.bool nb,.slice An1 o1.length cn1,.slice An2 o2.length cn2,.slice An3 o3.length cn3],.int .i64 tt,.int .i64 rr] rfl (by (try simp only [List.map_toArray,List.map_cons,List.map_nil]);first|done|rfl) ?_;refine (impl_Turn.calls k2 nb An1 cn1 o1 An2 cn2 o2 An3 cn3 o3 tt rr ub u1 u2 u3 _ Mn.out.1.1 Mn.out.1.2 Mn.out.2.1.1 Mn.out.2.1.2 Mn.out.2.2.1 Mn.out.2.2.2 E2.out).mono ?_;rintro e w11 ⟨vz1,vz2,vz3,rfl,S1,S2,S3,B⟩;refine ⟨_,rfl,?_⟩;refine hold_9 ?_)
 refine ⟨?_⟩
 have Mx := ak (Mx.out.below B)
 have Mn := ak (Mn.out.below B)
 have Bx := ak (blk_below Bx.out B)
 have Bn := ak (blk_below Bn.out B)
 have HC := ak (Kd.C_below HC.out B)
 have G := ak (below_step G.out B)
 clear B
 obtain ⟨Az1,cz1,ez1_⟩ := Kd.S_slice S1
 subst ez1_
 obtain ⟨Az2,cz2,ez2_⟩ := Kd.S_slice S2
 subst ez2_
 obtain ⟨Az3,cz3,ez3_⟩ := Kd.R_slice S3
 subst ez3_
 have Mz := ak (Mc.of S1 S2 S3)
 clear S1 S2 S3
 go_wp2_with ((with_reducible refine gate_dst (N := 14) rfl ?_);refine bx_ 14 #[.bool false,.slice none 0 0,.slice none 0 0,.slice none 0 0] 32 ?_;intro gz hg w12a hbox hb;have hge := ak (Nat.le_of_eq hg.symm);clear hg;refine hold_9 ?_)
 refine ⟨?_⟩
 have BZ := ak hbox
 have Q0 := ak hb
 have HGE := hge
 clear hbox hb hge
 obtain ⟨⟨hcgzy_0, hcgzy_1, hcgzy_2, hcgzy_3⟩, hfy_0, hfy_1, hfy_2, hfy_3⟩ := cl4_ BZ.out
 go_upto_region 10 with (fail)
 obtain ⟨n0_, n1_⟩ := fl4_ Q0.out HGE.out BZ.out (.bool ub) (.slice Az1 u1.length cz1) (.slice Az2 u2.length cz2) (.slice Az3 u3.length cz3)
 clear BZ Q0
 clear hcgzy_0 hfy_0 hcgzy_1 hfy_1 hcgzy_2 hfy_2 hcgzy_3 hfy_3
 generalize ((((w12a.setCell ⟨gz,0,none⟩ (.bool ub)).setCell ⟨gz,1,none⟩ (.slice Az1 u1.length cz1)).setCell ⟨gz,2,none⟩ (.slice Az2 u2.length cz2)).setCell ⟨gz,3,none⟩ (.slice Az3 u3.length cz3)) = w12 at n0_ n1_ ⊢
 have B := n0_.out
 have Bz := n1_
 clear n0_ n1_
 have Mx := ak (Mx.out.below B)
 have Mn := ak (Mn.out.below B)
 have Mz := ak (Mz.out.below B)
 have Bx := ak (blk_below Bx.out B)
 have Bn := ak (blk_below Bn.out B)
 have HC := ak (Kd.C_below HC.out B)
 have G := ak (below_step G.out B)
 clear B
 go_upto_region 10 with (fail)
 have B : Below w12.heap.size w12 w12.drew := below_drew1 (Below.refl _ _)
 have Mx := ak (Mx.out.below B)
 have Mn := ak (Mn.out.below B)
 have Mz := ak (Mz.out.below B)
 have Bx := ak (blk_below Bx.out B)
 have Bn := ak (blk_below Bn.out B)
 have Bz := ak (blk_below Bz.out B)
 have HC := ak (Kd.C_below HC.out B)
 have G := ak (below_step G.out B)
 clear B
 refine start_ (n := 7) (S := fun w' => w'.cell? ⟨gz,0,none⟩ = some (.bool ub) ∧ w'.cell? ⟨gz,1,none⟩ = some (.slice Az1 u1.length cz1) ∧ w'.cell? ⟨gz,2,none⟩ = some (.slice Az2 u2.length cz2) ∧ w'.cell? ⟨gz,3,none⟩ = some (.slice Az3 u3.length cz3) ∧ w'.cell? ⟨gn,0,none⟩ = some (.bool nb) ∧ w'.cell? ⟨gn,1,none⟩ = some (.slice An1 o1.length cn1) ∧ w'.cell? ⟨gn,2,none⟩ = some (.slice An2 o2.length cn2) ∧ w'.cell? ⟨gn,3,none⟩ = some (.slice An3 o3.length cn3)) (ds := []) #[false,false,false,false,false,false,false] (by kernel_rfl) rfl rfl ⟨(blk_cell Bz.out 0).trans rfl,(blk_cell Bz.out 1).trans rfl,(blk_cell Bz.out 2).trans rfl,(blk_cell Bz.out 3).trans rfl,(blk_cell Bn.out 0).trans rfl,(blk_cell Bn.out 1).trans rfl,(blk_cell Bn.out 2).trans rfl,(blk_cell Bn.out 3).trans rfl⟩ (fun hHeld => ?_)
 generalize w12.drew = w13 at Mx Mn Mz Bx Bn Bz HC G hHeld ⊢
 refine take_ (i := 0) (N := some 64) (v := ?_) (a' := ?_) #[true,false,false,false,false,false,false] rfl rfl (by kernel_rfl) (fun _ _ _ h => h) (Or.inl ⟨by rfl,?_⟩) hHeld ?_ ?_
 rotate_left
 ·rintro w' ⟨s0,s1,s2,s3,s4,s5,s6,s7⟩
  go_simp
  with_reducible rfl
 rotate_left
 ·simp only [Act.put,q1,q2,q3,i64_w,i32_w]
  rfl
 refine take_ (i := 1) (N := some 65) (v := ?_) (a' := ?_) #[true,true,false,false,false,false,false] rfl rfl (by kernel_rfl) (fun _ _ _ h => h) (Or.inl ⟨by rfl,?_⟩) hHeld ?_ ?_
 rotate_left
 ·rintro w' ⟨s0,s1,s2,s3,s4,s5,s6,s7⟩
  go_simp
  with_reducible rfl
 rotate_left
 ·simp only [Act.put,q1,q2,q3,i64_w,i32_w]
  rfl
 refine pure_ (i := 2) (N := some 66) (v := ?_) (a' := ?_) #[true,true,true,false,false,false,false] rfl rfl (by kernel_rfl) (fun _ _ _ h => h) (Or.inl ⟨by rfl,?_⟩) ?_ ?_
 rotate_left
 ·intro w'
  go_simp
  with_reducible rfl
 rotate_left
 ·simp only [Act.put,q1,q2,q3,i64_w,i32_w]
  rfl
 refine pure_ (i := 3) (N := some 67) (v := ?_) (a' := ?_) #[true,true,true,true,false,false,false] rfl rfl (by kernel_rfl) (fun _ _ _ h => h) (Or.inl ⟨by rfl,?_⟩) ?_ ?_
 rotate_left
 ·intro w'
  go_simp
  with_reducible rfl
 rotate_left
 ·simp only [Act.put,q1,q2,q3,i64_w,i32_w]
  rfl
 refine one_ (i := 4) (N := some 68) #[true,true,true,true,true,false,false] rfl rfl (by kernel_rfl) (by decide) (fun K hK => ?_)
 refine goes_ Try.func31 (by kernel_rfl) rfl #[.agg #[.bool nb,.slice An1 o1.length cn1,.slice An2 o2.length cn2,.slice An3 o3.length cn3],.int .i64 tt,.int .i64 rr] (by rfl) rfl rfl (by (try simp only [List.map_toArray,List.map_cons,List.map_nil]);first|done|rfl) ?_
 refine (spec_Turn.calls k2 nb An1 cn1 o1 An2 cn2 o2 An3 cn3 o3 tt rr ub u1 u2 u3 _ Mn.out.1.1 Mn.out.1.2 Mn.out.2.1.1 Mn.out.2.1.2 Mn.out.2.2.1 Mn.out.2.2.2 E1.out).mono ?_
 rintro e w14 ⟨vq1,vq2,vq3,rfl,S1,S2,S3,B⟩
 refine ⟨_,rfl,?_⟩
 have Mx := ak (Mx.out.below B)
 have Mn := ak (Mn.out.below B)
 have Mz := ak (Mz.out.below B)
 have Bx := ak (blk_below Bx.out B)
 have Bn := ak (blk_below Bn.out B)
 have Bz := ak (blk_below Bz.out B)
 have HC := ak (Kd.C_below HC.out B)
 have G := ak (below_step G.out B)
 clear B
 obtain ⟨Aq1,cq1,eq1_⟩ := Kd.S_slice S1
 subst eq1_
 obtain ⟨Aq2,cq2,eq2_⟩ := Kd.S_slice S2
 subst eq2_
 obtain ⟨Aq3,cq3,eq3_⟩ := Kd.R_slice S3
 subst eq3_
 have Mq := ak (Mc.of S1 S2 S3)
 clear S1 S2 S3
 refine hK.out _ _ ⟨(blk_cell Bz.out 0).trans rfl,(blk_cell Bz.out 1).trans rfl,(blk_cell Bz.out 2).trans rfl,(blk_cell Bz.out 3).trans rfl,(blk_cell Bn.out 0).trans rfl,(blk_cell Bn.out 1).trans rfl,(blk_cell Bn.out 2).trans rfl,(blk_cell Bn.out 3).trans rfl⟩ (fun hHeld => ?_)
 clear hK K
 refine nr_ (some 68) _ ?_
 refine one_ (i := 5) (N := some 69) #[true,true,true,true,true,true,false] rfl rfl (by kernel_rfl) (by decide) (fun K hK => ?_)
 refine goes_ Try.func41 (by kernel_rfl) rfl #[.agg #[.bool ub,.slice Az1 u1.length cz1,.slice Az2 u2.length cz2,.slice Az3 u3.length cz3],.agg #[.bool ub,.slice Aq1 u1.length cq1,.slice Aq2 u2.length cq2,.slice Aq3 u3.length cq3]] (by rfl) rfl rfl (by (try simp only [List.map_toArray,List.map_cons,List.map_nil]);first|done|rfl) ?_
 refine (laws_likeMachine.calls k2 ub Az1 cz1 u1 Az2 cz2 u2 Az3 cz3 u3 ub Aq1 cq1 u1 Aq2 cq2 u2 Aq3 cq3 u3 true _ Mz.out.1.1 Mz.out.1.2 Mz.out.2.1.1 Mz.out.2.1.2 Mz.out.2.2.1 Mz.out.2.2.2 Mq.out.1.1 Mq.out.1.2 Mq.out.2.1.1 Mq.out.2.1.2 Mq.out.2.2.1 Mq.out.2.2.2 E3.out).mono ?_
 rintro e w15 ⟨rfl,B⟩
 refine ⟨_,rfl,?_⟩
 have Mx := ak (Mx.out.below B)
 have Mn := ak (Mn.out.below B)
 have Mz := ak (Mz.out.below B)
 have Mq := ak (Mq.out.below B)
 have Bx := ak (blk_below Bx.out B)
 have Bn := ak (blk_below Bn.out B)
 have Bz := ak (blk_below Bz.out B)
 have HC := ak (Kd.C_below HC.out B)
 have G := ak (below_step G.out B)
 clear B
 refine hK.out _ _ ⟨(blk_cell Bz.out 0).trans rfl,(blk_cell Bz.out 1).trans rfl,(blk_cell Bz.out 2).trans rfl,(blk_cell Bz.out 3).trans rfl,(blk_cell Bn.out 0).trans rfl,(blk_cell Bn.out 1).trans rfl,(blk_cell Bn.out 2).trans rfl,(blk_cell Bn.out 3).trans rfl⟩ (fun hHeld => ?_)
 clear hK K
 refine nr_ (some 69) _ ?_
 refine pure_ (i := 6) (N := some 70) (v := ?_) (a' := ?_) #[true,true,true,true,true,true,true] rfl rfl (by kernel_rfl) (fun _ _ _ h => h) (Or.inl ⟨by rfl,?_⟩) ?_ ?_
 rotate_left
 ·intro w'
  go_simp
  with_reducible rfl
 rotate_left
 ·simp only [Act.put,q1,q2,q3,i64_w,i32_w]
  rfl
 refine done_ (by kernel_rfl) ?_
 clear hHeld
 clear Mq Mn Bn E1 E2 E3
 obtain ⟨⟨hc6_0,hc6_1,hc6_2,hc6_3⟩,hf6_0,hf6_1,hf6_2,hf6_3⟩ := cl4_ Bz.out
 go_wp2_with ((with_reducible refine gcal_ (f := 22) rfl ?_);refine goesL_ (some 75) rfl rfl Try.func22 (by kernel_rfl) rfl #[.agg #[.bool ub,.slice Az1 u1.length cz1,.slice Az2 u2.length cz2,.slice Az3 u3.length cz3],.int .i64 tt,.int .i64 rr,.int .i64 1] rfl (by (try simp only [List.map_toArray,List.map_cons,List.map_nil]);first|done|rfl) ?_;refine (impl_Logged.calls k2 ub Az1 cz1 u1 Az2 cz2 u2 Az3 cz3 u3 tt rr 1 0 0 0 [] false _ Mz.out.1.1 Mz.out.1.2 Mz.out.2.1.1 Mz.out.2.1.2 Mz.out.2.2.1 Mz.out.2.2.2 E4.out).mono ?_;rintro e w16 ⟨vf,rfl,S,B⟩;refine ⟨_,rfl,?_⟩;refine hold_9 ?_)
 refine ⟨?_⟩
 have Mx := ak (Mx.out.below B)
 have Mz := ak (Mz.out.below B)
 have Bx := ak (blk_below Bx.out B)
 have Bz := ak (blk_below Bz.out B)
 have HC := ak (Kd.C_below HC.out B)
 have G := ak (below_step G.out B)
 clear B
 obtain ⟨Af,cf,ef⟩ := Kd.R_slice S
 subst ef
 clear S
 clear Mz Bz E4
 go_wp2_with ((with_reducible refine gate_dst (N := 15) rfl ?_);refine bx_ 15 #[.int .i64 0,.int .i64 0,.int .i64 0,.slice none 0 0] 45 ?_;intro gf hg w17a hbox hb;have hge := ak (Nat.le_of_eq hg.symm);clear hg;refine hold_9 ?_)
 refine ⟨?_⟩
 have BZ := ak hbox
 have Q0 := ak hb
 have HGE := hge
 clear hbox hb hge
 obtain ⟨⟨hcgfy_0, hcgfy_1, hcgfy_2, hcgfy_3⟩, hfy_0, hfy_1, hfy_2, hfy_3⟩ := cl4_ BZ.out
 go_upto_region 13 with (fail)
 obtain ⟨n0_, n1_⟩ := fl4_ Q0.out HGE.out BZ.out (.int .i64 0) (.int .i64 0) (.int .i64 0) (.slice Af ([] : List S127).length cf)
 clear BZ Q0
 clear hcgfy_0 hfy_0 hcgfy_1 hfy_1 hcgfy_2 hfy_2 hcgfy_3 hfy_3
 generalize ((((w17a.setCell ⟨gf,0,none⟩ (.int .i64 0)).setCell ⟨gf,1,none⟩ (.int .i64 0)).setCell ⟨gf,2,none⟩ (.int .i64 0)).setCell ⟨gf,3,none⟩ (.slice Af ([] : List S127).length cf)) = w17 at n0_ n1_ ⊢
 have B := n0_.out
 have Bf := n1_
 clear n0_ n1_
 have Mx := ak (Mx.out.below B)
 have Bx := ak (blk_below Bx.out B)
 have HC := ak (Kd.C_below HC.out B)
 have G := ak (below_step G.out B)
 clear B
 clear Bf
 cases v4 with
  | false =>
  obtain ⟨⟨hc7_0,hc7_1,hc7_2,hc7_3⟩,hf7_0,hf7_1,hf7_2,hf7_3⟩ := cl4_ Bx.out
  go_wp2_with ((with_reducible refine gcal_ (f := 41) rfl ?_);refine goesL_ (some 83) rfl rfl Try.func41 (by kernel_rfl) rfl #[.agg #[.bool vb,.slice Ax1 v1.length cx1,.slice Ax2 v2.length cx2,.slice Ax3 v3.length cx3],.agg #[.bool false,.slice none 0 0,.slice none 0 0,.slice none 0 0]] rfl (by (try simp only [List.map_toArray,List.map_cons,List.map_nil]);first|done|rfl) ?_;refine (laws_likeMachine.calls k vb Ax1 cx1 v1 Ax2 cx2 v2 Ax3 cx3 v3 false none 0 [] none 0 [] none 0 [] true _ Mx.out.1.1 Mx.out.1.2 Mx.out.2.1.1 Mx.out.2.1.2 Mx.out.2.2.1 Mx.out.2.2.2 (Mc.nil _).1.1 (Nat.le_refl _) (Mc.nil _).2.1.1 (Nat.le_refl _) (Mc.nil _).2.2.1 (Nat.le_refl _) (F4.out rfl)).mono ?_;rintro e w18 ⟨rfl,B⟩;refine ⟨_,rfl,?_⟩;refine hold_9 ?_)
  refine ⟨?_⟩
  have Mx := ak (Mx.out.below B)
  have Bx := ak (blk_below Bx.out B)
  have HC := ak (Kd.C_below HC.out B)
  have G := ak (below_step G.out B)
  clear B
  go_wp2
  go_ret
  exact ⟨rfl,G.out⟩
  | true =>
  obtain ⟨P1_,P2_,P3_⟩ := F5.out rfl
  have P1 := ak P1_
  have P3 := ak P3_
  obtain ⟨p,hp⟩ : ∃ p : Nat,d = true → ∃ h : p < v3.length,v3[p] = t := by
   cases d
   ·exact ⟨0,fun h => by cases h⟩
   ·obtain ⟨p,h1,h2⟩ := P2_ rfl
    exact ⟨p,fun _ => ⟨h1,h2⟩⟩
  have HP := ak hp
  clear P1_ P2_ P3_ hp F4 F5
  obtain ⟨⟨hc8_0,hc8_1,hc8_2,hc8_3⟩,hf8_0,hf8_1,hf8_2,hf8_3⟩ := cl4_ Bx.out
  go_wp2
  go_loopg [17] v2.length (fun gg v17 wr => ∃ (i : Nat),v17 = .int .i64 i ∧ i ≤ v2.length ∧ v2.length - i ≤ gg ∧ w17 = wr)
  case atStart => exact ⟨0,rfl,by omega,by omega,rfl⟩
  case round =>
   obtain ⟨i,rfl,hi,hgg,rfl⟩ := hrel
   have hv2 := F6.out
   by_cases hlt : i < v2.length
   ·have hjb : decide ((i : Int) < (v2.length : Int)) = true := decide_eq_true (by omega)
    obtain ⟨ad,Al,cl_,ea,hz0,hz1,hz2,hz3,_,_⟩ := at_T45 Mx.out.2.1.1 (i : Int) (by omega) (by omega)
    have P1i := P1.out i hlt
    have e45 : rd_T45 v2 (i : Int) = v2[i] := by unfold rd_T45;rw [List.getD_eq_getElem?_getD,Int.toNat_natCast,List.getElem?_eq_getElem hlt];rfl
    rw [← e45] at P1i
    have P1i := ak P1i
    clear e45
    generalize rd_T45 v2 (i : Int) = el at P1i hz0 hz1 hz2 hz3
    rw [Int.toNat_natCast] at hz0 hz1 hz2 hz3
    have px : (0 ≤ (i : Int)) = True := eq_true (by omega)
    have qx : ((i : Int) < (v2.length : Int)) = True := eq_true (by omega)
    have qn : (i < v2.length) = True := eq_true hlt
    by_cases e1 : el.f1 = t
    ·have e1b : (el.f1 == t) = true := beq_iff_eq.mpr e1
     have e2b : (el.f2 == r) = false := beq_eq_false_iff_ne.mpr (P1i.out e1)
     clear e1
     subst ea
     go_wp2
     go_roundg (v2.length - (i + 1))
     case measure => omega
     case rel => exact ⟨i + 1,by go_num,by omega,by omega,rfl⟩
    ·have e1b : (el.f1 == t) = false := beq_eq_false_iff_ne.mpr e1
     clear e1
     subst ea
     go_wp2
     go_roundg (v2.length - (i + 1))
     case measure => omega
     case rel => exact ⟨i + 1,by go_num,by omega,by omega,rfl⟩
   ·have hjb : decide ((i : Int) < (v2.length : Int)) = false := decide_eq_false (by omega)
    go_wp2
    go_loopg [18,19] v3.length (fun gg v18 v19 wr => ∃ (i : Nat) (fb : Bool),v18 = .bool fb ∧ v19 = .int .i64 i ∧ i ≤ v3.length ∧ v3.length - i ≤ gg ∧ Aside0 ((d = false ∨ p < i) → fb = true) ∧ w17 = wr)
    case atStart => exact ⟨0,!d,rfl,rfl,by omega,by omega,⟨fun h => by rcases h with rfl|h;rfl;omega⟩,rfl⟩
    case round =>
     obtain ⟨i,fb,rfl,rfl,hi,hgg,FB,rfl⟩ := hrel
     have hv3 := F7.out
     by_cases hlt : i < v3.length
     ·have hjb : decide ((i : Int) < (v3.length : Int)) = true := decide_eq_true (by omega)
      cases fb with
      | true =>
       go_wp2
       go_roundg (v3.length - (i + 1))
       case measure => omega
       case rel => exact ⟨i + 1,true,rfl,by go_num,by omega,by omega,⟨fun _ => rfl⟩,rfl⟩
      | false =>
       obtain ⟨ad,ea,hz⟩ := Kd.at_int Mx.out.2.2.1 (i : Int) (by omega) (by omega)
       have e3 : rd v3 (i : Int) = v3[i] := rd_get hlt
       rw [Int.toNat_natCast] at hz
       have px : (0 ≤ (i : Int)) = True := eq_true (by omega)
       have qx : ((i : Int) < (v3.length : Int)) = True := eq_true (by omega)
       have qn : (i < v3.length) = True := eq_true hlt
       have HE := ak e3
       clear e3
       generalize rd v3 (i : Int) = el at HE hz
       subst ea
       go_wp2
       go_roundg (v3.length - (i + 1))
       case measure => omega
       case rel => exact ⟨i + 1,(el == t),by first|rfl|(simp;done),by go_num,by omega,by omega,⟨fun h => last_hit FB.out HP.out HE.out h⟩,rfl⟩
     ·have hjb : decide ((i : Int) < (v3.length : Int)) = false := decide_eq_false (by omega)
      have hfb : fb = true := FB.out (all_hit HP.out (by omega))
      subst hfb
      go_wp2_with (go_at_call 13;refine (impl_MachineOk.calls k vb Ax1 cx1 v1 Ax2 cx2 v2 Ax3 cx3 v3 true _ Mx.out.1.1 Mx.out.1.2 Mx.out.2.1.1 Mx.out.2.1.2 Mx.out.2.2.1 Mx.out.2.2.2 P3.out).mono ?_;rintro e w19 ⟨rfl,B⟩;(try dsimp only);refine hold_9 ?_)
      refine ⟨?_⟩
      have G := ak (below_step G.out B)
      go_wp2
      go_ret
      exact ⟨rfl,G.out⟩
end Go.Proofs.Ythplaakckfhaaaa.XCd
