/- Proved: a call of each Go function here comes to what its Lean function tells. -/
import Derived.Test.YthplaakckfhaaaaGreatXMs0
import Derived.Test.YthplaakckfhaaaaGreatXMs3
import Derived.Test.YthplaakckfhaaaaGreatXMs4
import Derived.Test.YthplaakckfhaaaaGreatXMs5
import Derived.Test.YthplaakckfhaaaaGreatXMs6
import Derived.Test.YthplaakckfhaaaaGreatXMs7
import Derived.Test.YthplaakckfhaaaaGreatXMs8
import Derived.Test.YthplaakckfhaaaaGreatXMs9
import Derived.Test.YthplaakckfhaaaaGreatXMs10
import Derived.Test.YthplaakckfhaaaaGreatXMs11
import Derived.Test.YthplaakckfhaaaaGreatXMs12
import Derived.Test.YthplaakckfhaaaaGreatXMs13
import Derived.Test.YthplaakckfhaaaaGreatXMs14
import Derived.Test.YthplaakckfhaaaaGreatXMs15
import Derived.Test.YthplaakckfhaaaaGreatXMs16
import Derived.Test.YthplaakckfhaaaaGreatXMs17
import Derived.Test.YthplaakckfhaaaaGreatXMs18
import Derived.Test.YthplaakckfhaaaaGreatXMs19
import Derived.Test.YthplaakckfhaaaaGreatXMs20
import Derived.Test.YthplaakckfhaaaaGreatXMs21
import Derived.Test.YthplaakckfhaaaaGreatXMs22
namespace Go.Proofs.YthplaakckfhaaaaGreat.XMs
open Go.RowKit Go.Proofs.YthplaakckfhaaaaGreat.Aid Go.Proofs.YthplaakckfhaaaaGreatW.PrintWords Go.Proofs.YthplaakckfhaaaaGreatW.PrintLast Go.Proofs.YthplaakckfhaaaaGreatW.PrintMore
set_option linter.unusedVariables false
set_option linter.unusedSimpArgs false

open Go.Proofs.YthplaakckfhaaaaGreat.Gen
def RPL : Prop := ∀ (b : Bool) (l1 : List S83) (l2 : List S50) (l3 : List Int) (r : Int) (cs : List S87), (l1.length ≤ 300 ∧ sm1 l1) → (l2.length ≤ 250 ∧ sm2 l2) → l3.length ≤ 300 → cs.length ≤ 6 → ∃ k vb v1 v2 v3 v4, spec_Replace.f k b l1 l2 l3 r cs = some (vb, v1, v2, v3, v4) ∧ impl_Replace.f k b l1 l2 l3 r cs = some (vb, v1, v2, v3, v4) ∧ laws_likeMachine.f k vb v1 v2 v3 vb v1 v2 v3 = some true ∧ (v4 = true → ∃ g, impl_Copied.f k vb v1 v2 v3 r = some (g, true) ∧ laws_likeCells.f k g cs = some true ∧ impl_MachineOk.f k vb v1 v2 v3 = some true)
def APD : Prop := ∀ (b : Bool) (l1 : List S83) (l2 : List S50) (l3 : List Int) (f0 f1 f2 : Int) (ys : List S119), (l1.length ≤ 300 ∧ sm1 l1) → (l2.length ≤ 250 ∧ sm2 l2) → l3.length ≤ 300 → ys.length ≤ 7 → ∃ k vb v1 v2 v3 v4, spec_Append.f k b l1 l2 l3 f0 f1 f2 ys = some (vb, v1, v2, v3, v4) ∧ impl_Append.f k b l1 l2 l3 f0 f1 f2 ys = some (vb, v1, v2, v3, v4) ∧ laws_likeMachine.f k vb v1 v2 v3 vb v1 v2 v3 = some true ∧ (v4 = false → laws_likeMachine.f k vb v1 v2 v3 false [] [] [] = some true) ∧ (v4 = true → ∃ g0 g2 g3, impl_Logged.f k vb v1 v2 v3 f1 f2 f0 = some (g0, f1, g2, g3, true) ∧ ∃ ub u1 u2 u3, impl_Clear.f k vb v1 v2 v3 f1 f2 false = some (ub, u1, u2, u3, true) ∧ impl_Logged.f k ub u1 u2 u3 f1 f2 f0 = some (0, 0, 0, [], false) ∧ (v2.length : Int) = (l2.length : Int) + 1 ∧ impl_MachineOk.f k vb v1 v2 v3 = some true ∧ laws_likeInts.f k u3 l3 = some true)
def RECOK : Prop := ∀ (f0 f1 f2 : Int) (ys : List S119), ys.length ≤ 7 → ∃ k b, spec_RecordOk.f k f0 f1 f2 ys = some b

theorem in_ (a b c : Int) : spec_l1In.f a b c = some (decide (b ≤ a ∧ a ≤ c)) := by
 unfold spec_l1In.f
 by_cases h : a ≥ b <;> simp [h]
theorem within_ (a b c : Int) : impl_within.f a b c = some (decide (b ≤ a ∧ a ≤ c)) := by
 unfold impl_within.f
 by_cases h : a ≥ b <;> simp [h]
theorem rd87_get {l : List S87} {i : Nat} (h : i < l.length) : rd_T87 l (i : Int) = l[i] := by
 unfold rd_T87
 rw [Int.toNat_natCast,List.getD_eq_getElem?_getD,List.getElem?_eq_getElem h]
 rfl
theorem rd119_get {l : List S119} {i : Nat} (h : i < l.length) : rd_T119 l (i : Int) = l[i] := by
 unfold rd_T119
 rw [Int.toNat_natCast,List.getD_eq_getElem?_getD,List.getElem?_eq_getElem h]
 rfl
theorem rd50_get {l : List S50} {i : Nat} (h : i < l.length) : rd_T50 l (i : Int) = l[i] := by
 unfold rd_T50
 rw [Int.toNat_natCast,List.getD_eq_getElem?_getD,List.getElem?_eq_getElem h]
 rfl
theorem rd83_get {l : List S83} {i : Nat} (h : i < l.length) : rd_T83 l (i : Int) = l[i] := by
 unfold rd_T83
 rw [Int.toNat_natCast,List.getD_eq_getElem?_getD,List.getElem?_eq_getElem h]
 rfl
/-- A cell is right. -/
def okC (c : S87) : Bool := decide (0 ≤ c.f0 ∧ c.f0 ≤ 4000003) && (decide (-1000000000 ≤ c.f1 ∧ c.f1 ≤ 1000000000) && (decide (c.f0 / 2 % 2 = 1) || decide (c.f1 = 0)))
theorem spec_used (a : Int) : spec_Used.f a = some (decide (0 ≤ a ∧ a ≤ 4000003) && decide (a / 2 % 2 = 1)) := by
 simp only [spec_Used.f,spec_HeadOk.f,in_,Option.bind_some]
 by_cases h : 0 ≤ a ∧ a ≤ 4000003
 ·rw [if_pos (by simpa using h),Int.tdiv_eq_ediv_of_nonneg h.1,wrap_of (by omega) (by omega),Int.tmod_eq_emod_of_nonneg (by omega)]
  simp [h]
  rfl
 ·rw [if_neg (by simpa using h)]
  simp [h]
theorem spec_cells_from (l : List S87) (hl : l.length ≤ 1048576) : ∀ d i k, i + d = l.length → d < k → spec_CellsOk.l0 k l (i : Int) = some ((l.drop i).all okC) := by
 intro d
 induction d with
  | zero =>
  intro i k hd hk
  obtain ⟨k,rfl⟩ : ∃ m,k = m + 1 := ⟨k - 1,by omega⟩
  simp only [spec_CellsOk.l0]
  rw [if_neg (by omega),List.drop_of_length_le (by omega)]
  rfl
  | succ d ih =>
  intro i k hd hk
  obtain ⟨k,rfl⟩ : ∃ m,k = m + 1 := ⟨k - 1,by omega⟩
  simp only [spec_CellsOk.l0]
  rw [if_pos (by omega),if_pos (by omega),rd87_get (show i < l.length by omega),wrap_of (by omega) (by omega),List.drop_eq_getElem_cons (show i < l.length by omega)]
  have e := ih (i + 1) k (by omega) (by omega)
  rw [show ((i + 1 : Nat) : Int) = (i : Int) + 1 from by omega] at e
  rw [e]
  simp only [spec_HeadOk.f,spec_l1Value.f,in_,spec_used,Option.bind_some,List.all_cons,okC]
  by_cases h1 : 0 ≤ l[i].f0 ∧ l[i].f0 ≤ 4000003 <;> by_cases h2 : -1000000000 ≤ l[i].f1 ∧ l[i].f1 ≤ 1000000000 <;> by_cases h3 : l[i].f0 / 2 % 2 = 1 <;> by_cases h4 : l[i].f1 = 0 <;> simp [h1,h2,h3,h4]
def okCs (l : List S87) : Bool := decide (l.length = 6) && l.all okC
theorem spec_cells (l : List S87) (hl : l.length ≤ 1048576) (k : Nat) (hk : l.length < k) : spec_CellsOk.f k l = some (okCs l) := by
 unfold spec_CellsOk.f okCs
 by_cases h : l.length = 6
 ·rw [if_pos (by omega)]
  have e := spec_cells_from l hl l.length 0 k (by omega) hk
  rw [show ((0 : Nat) : Int) = 0 from rfl] at e
  rw [e]
  simp [h]
 ·rw [if_neg (by omega)]
  simp [h]
theorem impl_cell (x : S87) : impl_areCells_1.f x.f0 x.f1 = some (!okC x) := by
 simp only [impl_areCells_1.f,impl_isHead.f,impl_isValue.f,within_,Option.bind_some,okC]
 by_cases h1 : 0 ≤ x.f0 ∧ x.f0 ≤ 4000003
 ·by_cases h2 : -1000000000 ≤ x.f1 ∧ x.f1 ≤ 1000000000
  ·rw [if_pos (by simpa using h1),if_pos (by simpa using h2),and2]
   by_cases h3 : x.f0 / 2 % 2 = 1
   ·rw [if_neg (by omega)]
    simp [h1,h2,h3]
   ·rw [if_pos (by omega)]
    by_cases h4 : x.f1 = 0 <;> simp [h1,h2,h3,h4]
  ·rw [if_pos (by simpa using h1),if_neg (by simpa using h2)]
   simp [h1,h2]
 ·rw [if_neg (by simpa using h1)]
  simp [h1]
theorem impl_cells (l : List S87) : impl_areCells.f l = some (okCs l) := by
 unfold impl_areCells.f okCs
 by_cases h : l.length = 6
 ·rw [if_pos (by omega)]
  obtain ⟨r,e,hr⟩ := idx_total (fun x : S87 => impl_areCells_1.f x.f0 x.f1) (fun x => !okC x) l (fun x _ => impl_cell x) 0
  simp only [impl_Cell_97.f,e,Option.bind_some,hr]
  rw [← List.not_all_eq_any_not]
  simp [h]
 ·rw [if_neg (by omega)]
  simp [h]
def okS (x : S119) : Bool := decide (0 ≤ x.f0 ∧ x.f0 ≤ 5) && (decide (0 ≤ x.f1 ∧ x.f1 ≤ 5) && (decide (-1000000000 ≤ x.f2 ∧ x.f2 ≤ 1000000000) && decide (0 ≤ x.f4 ∧ x.f4 ≤ 999999)))
theorem spec_set (x : S119) : spec_SetOk.f x.f0 x.f1 x.f2 x.f3 x.f4 = some (okS x) := by
 simp only [spec_SetOk.f,spec_l1Region.f,spec_l1Slot.f,spec_l1Value.f,in_,Option.bind_some,okS]
 by_cases h1 : 0 ≤ x.f0 ∧ x.f0 ≤ 5 <;> by_cases h2 : 0 ≤ x.f1 ∧ x.f1 ≤ 5 <;> by_cases h3 : -1000000000 ≤ x.f2 ∧ x.f2 ≤ 1000000000 <;> simp [h1,h2,h3]
theorem impl_set (x : S119) : impl_isSet.f x.f0 x.f1 x.f2 x.f3 x.f4 = some (okS x) := by
 simp only [impl_isSet.f,impl_isRegion.f,impl_isSlot.f,impl_isValue.f,within_,Option.bind_some,okS]
 by_cases h1 : 0 ≤ x.f0 ∧ x.f0 ≤ 5 <;> by_cases h2 : 0 ≤ x.f1 ∧ x.f1 ≤ 5 <;> by_cases h3 : -1000000000 ≤ x.f2 ∧ x.f2 ≤ 1000000000 <;> simp [h1,h2,h3]
/-- The set at place i is right, and stands rightly behind the one ahead of it. -/
def stepS (l : List S119) (i : Nat) : Bool := okS (rd_T119 l (i : Int)) && (decide (i = 0) || (decide ((rd_T119 l (i : Int)).f0 = (rd_T119 l 0).f0) && decide ((rd_T119 l ((i : Int) - 1)).f1 < (rd_T119 l (i : Int)).f1)))
def okSs (l : List S119) : Nat → Nat → Bool
  | _, 0 => true
  | i, d + 1 => stepS l i && okSs l (i + 1) d
theorem spec_sets_from (l : List S119) (hl : l.length ≤ 1048576) : ∀ d i k, i + d = l.length → 2 * d + 2 < k → spec_l2Sets.l0 k l (i : Int) = some (okSs l i d) := by
 intro d
 induction d with
  | zero =>
  intro i k hd hk
  obtain ⟨k,rfl⟩ : ∃ q,k = q + 1 := ⟨k - 1,by omega⟩
  simp only [spec_l2Sets.l0]
  rw [if_neg (by omega)]
  rfl
  | succ d ih =>
  intro i k hd hk
  obtain ⟨k,rfl⟩ : ∃ q,k = q + 1 := ⟨k - 1,by omega⟩
  have e := ih (i + 1) k (by omega) (by omega)
  rw [show ((i + 1 : Nat) : Int) = (i : Int) + 1 from by omega] at e
  simp only [spec_l2Sets.l0,spec_set,Option.bind_some,if_pos (show (i : Int) < (l.length : Int) by omega),if_pos (show (0 : Int) ≤ (i : Int) by omega),wrap_of (x := (i : Int) + 1) (by omega) (by omega),e,okSs,stepS]
  by_cases h0 : (i : Int) > 0
  ·have h0' : ¬ i = 0 := by omega
   simp only [if_pos h0,wrap_of (x := (i : Int) - 1) (by omega) (by omega),if_pos (show 0 ≤ (i : Int) - 1 by omega),if_pos (show (i : Int) - 1 < (l.length : Int) by omega),if_pos (show (0 : Int) < (l.length : Int) by omega)]
   by_cases a2 : (rd_T119 l (i : Int)).f1 ≤ (rd_T119 l ((i : Int) - 1)).f1
   ·have a2' : ¬ (rd_T119 l ((i : Int) - 1)).f1 < (rd_T119 l (i : Int)).f1 := by omega
    cases okS (rd_T119 l (i : Int)) <;> simp [h0',a2,a2']
   ·have a2' : (rd_T119 l ((i : Int) - 1)).f1 < (rd_T119 l (i : Int)).f1 := by omega
    by_cases a3 : (rd_T119 l (i : Int)).f0 = (rd_T119 l 0).f0 <;> cases okS (rd_T119 l (i : Int)) <;> simp [h0',a2,a2',a3]
  ·have h0' : i = 0 := by omega
   rw [if_neg h0]
   cases okS (rd_T119 l (i : Int)) <;> simp [h0']
theorem impl_sets_from (l : List S119) (hl : l.length ≤ 1048576) : ∀ d i k, i + d = l.length → 2 * d + 2 < k → impl_areSets.l0 k l l (l.length : Int) (i : Int) = some (okSs l i d) := by
 intro d
 induction d with
  | zero =>
  intro i k hd hk
  obtain ⟨k,rfl⟩ : ∃ q,k = q + 1 := ⟨k - 1,by omega⟩
  simp only [impl_areSets.l0]
  rw [if_neg (by omega)]
  rfl
  | succ d ih =>
  intro i k hd hk
  obtain ⟨k,rfl⟩ : ∃ q,k = q + 1 := ⟨k - 1,by omega⟩
  have e := ih (i + 1) k (by omega) (by omega)
  rw [show ((i + 1 : Nat) : Int) = (i : Int) + 1 from by omega] at e
  simp only [impl_areSets.l0,impl_set,Option.bind_some,if_pos (show (i : Int) < (l.length : Int) by omega),if_pos (show (0 : Int) ≤ (i : Int) by omega),if_pos (show (0 : Int) < (l.length : Int) by omega),wrap_of (x := (i : Int) + 1) (by omega) (by omega),e,okSs,stepS]
  by_cases h0 : (i : Int) > 0
  ·have h0' : ¬ i = 0 := by omega
   simp only [if_pos h0,wrap_of (x := (i : Int) - 1) (by omega) (by omega),if_pos (show 0 ≤ (i : Int) - 1 by omega),if_pos (show (i : Int) - 1 < (l.length : Int) by omega)]
   by_cases a2 : (rd_T119 l (i : Int)).f1 ≤ (rd_T119 l ((i : Int) - 1)).f1
   ·have a2' : ¬ (rd_T119 l ((i : Int) - 1)).f1 < (rd_T119 l (i : Int)).f1 := by omega
    by_cases a3 : (rd_T119 l (i : Int)).f0 = (rd_T119 l 0).f0 <;> cases okS (rd_T119 l (i : Int)) <;> simp [h0',a2,a2',a3]
   ·have a2' : (rd_T119 l ((i : Int) - 1)).f1 < (rd_T119 l (i : Int)).f1 := by omega
    by_cases a3 : (rd_T119 l (i : Int)).f0 = (rd_T119 l 0).f0 <;> cases okS (rd_T119 l (i : Int)) <;> simp [h0',a2,a2',a3]
  ·have h0' : i = 0 := by omega
   subst h0'
   rw [if_neg h0]
   cases okS (rd_T119 l ((0 : Nat) : Int)) <;> simp
theorem spec_sets (l : List S119) (hl : l.length ≤ 1048576) (k : Nat) (hk : 2 * l.length + 2 < k) : spec_l2Sets.f k l = some (okSs l 0 l.length) := spec_sets_from l hl l.length 0 k (by omega) hk
theorem impl_sets (l : List S119) (hl : l.length ≤ 1048576) (k : Nat) (hk : 2 * l.length + 2 < k) : impl_areSets.f k l = some (okSs l 0 l.length) := impl_sets_from l hl l.length 0 k (by omega) hk
theorem okSs_reg (l : List S119) : ∀ d i, okSs l i d = true → ∀ j, i ≤ j → j < i + d → (rd_T119 l (j : Int)).f0 = (rd_T119 l 0).f0 := by
 intro d
 induction d with
  | zero => intro i _ j h1 h2; omega
  | succ d ih =>
  intro i h j h1 h2
  simp only [okSs,Bool.and_eq_true] at h
  by_cases hj : j = i
  ·subst hj
   have := h.1
   simp only [stepS,Bool.and_eq_true,Bool.or_eq_true,decide_eq_true_eq] at this
   rcases this.2 with h0 | h0
   ·subst h0;rfl
   ·exact h0.1
  ·exact ih (i + 1) h.2 j (by omega) (by omega)
theorem regions (l : List S119) (q : Int) (h1 : 1 ≤ l.length) (h : okSs l 0 l.length = true) : impl_Set_113.f l q = some (!decide ((rd_T119 l 0).f0 = q)) := by
 obtain ⟨r,e,hr⟩ := idx_total (fun x : S119 => impl_isRecord_1.f x.f0 x.f1 x.f2 x.f3 x.f4 q) (fun x => x.f0 != q) l (fun x _ => rfl) 0
 simp only [impl_Set_113.f,e,Option.bind_some,hr]
 have hall := okSs_reg l l.length 0 h
 by_cases hq : (rd_T119 l 0).f0 = q
 ·have : l.any (fun x => x.f0 != q) = false := by
   rw [List.any_eq_false]
   intro x hx
   obtain ⟨j,hj,rfl⟩ := List.mem_iff_getElem.1 hx
   have := hall j (by omega) (by omega)
   rw [rd119_get hj] at this
   simp [this,hq]
  simp [this,hq]
 ·have : l.any (fun x => x.f0 != q) = true := by
   rw [List.any_eq_true]
   have h0 : 0 < l.length := by omega
   refine ⟨l[0],List.getElem_mem h0,?_⟩
   have := rd119_get h0
   rw [show ((0 : Nat) : Int) = 0 from rfl] at this
   rw [this] at hq
   simp [hq]
  simp [this,hq]
def okR (x : S50) : Bool := decide (1 ≤ x.f0 ∧ x.f0 ≤ 3) && (decide (1 ≤ x.f1 ∧ x.f1 ≤ 1000000) && (decide (0 ≤ x.f2 ∧ x.f2 ≤ 5) && (decide (1 ≤ (x.f3.length : Int) ∧ (x.f3.length : Int) ≤ 12) && (okSs x.f3 0 x.f3.length && decide ((rd_T119 x.f3 0).f0 = x.f2)))))
theorem record_val (x : S50) (hl : x.f3.length ≤ 1048576) (k : Nat) (hk : 2 * x.f3.length + 2 < k) : spec_RecordOk.f k x.f0 x.f1 x.f2 x.f3 = some (okR x) ∧ impl_isRecord.f k x.f0 x.f1 x.f2 x.f3 = some (okR x) := by
 simp only [spec_RecordOk.f,impl_isRecord.f,spec_l1Id.f,spec_l1Region.f,impl_isId.f,impl_isRegion.f,impl_Set_111.f,in_,within_,spec_sets x.f3 hl k hk,impl_sets x.f3 hl k hk,Option.bind_some,okR]
 by_cases h1 : 1 ≤ x.f0 ∧ x.f0 ≤ 3
 ·by_cases h2 : 1 ≤ x.f1 ∧ x.f1 ≤ 1000000
  ·by_cases h3 : 0 ≤ x.f2 ∧ x.f2 ≤ 5
   ·by_cases h4 : (x.f3.length : Int) ≥ 1
    ·by_cases h5 : (x.f3.length : Int) ≤ 12
     ·have h6 : 1 ≤ (x.f3.length : Int) ∧ (x.f3.length : Int) ≤ 12 := ⟨h4,h5⟩
      by_cases h7 : okSs x.f3 0 x.f3.length = true
      ·rw [regions x.f3 x.f2 (by omega) h7]
       have h8 : 0 < x.f3.length := by omega
       by_cases h9 : (rd_T119 x.f3 0).f0 = x.f2 <;> simp [h1,h2,h3,h4,h5,h6,h7,h8,h9]
      ·simp [h1,h2,h3,h4,h5,h6,h7]
     ·have h6 : ¬ (1 ≤ (x.f3.length : Int) ∧ (x.f3.length : Int) ≤ 12) := by omega
      simp only [decide_eq_true h1,decide_eq_true h2,decide_eq_true h3,if_pos h4,if_neg h5,decide_eq_false h6]
      simp
    ·have h6 : ¬ (1 ≤ (x.f3.length : Int) ∧ (x.f3.length : Int) ≤ 12) := by omega
     simp only [decide_eq_true h1,decide_eq_true h2,decide_eq_true h3,if_neg h4,decide_eq_false h6]
     simp
   ·simp [h1,h2,h3]
  ·simp [h1,h2]
 ·simp [h1]
def okIds (l : List Int) : Nat → Nat → Bool
  | _, 0 => true
  | i, d + 1 => (decide (1 ≤ rd l (i : Int) ∧ rd l (i : Int) ≤ 1000000) && (decide (i = 0) || decide (rd l ((i : Int) - 1) < rd l (i : Int)))) && okIds l (i + 1) d
def okCps (l : List S83) : Nat → Nat → Bool
  | _, 0 => true
  | i, d + 1 => (decide (0 ≤ (rd_T83 l (i : Int)).f0 ∧ (rd_T83 l (i : Int)).f0 ≤ 5) && (okCs (rd_T83 l (i : Int)).f1 && (decide (i = 0) || decide ((rd_T83 l ((i : Int) - 1)).f0 < (rd_T83 l (i : Int)).f0)))) && okCps l (i + 1) d
theorem spec_ids (l : List Int) (hl : l.length ≤ 1048576) : ∀ d i k, i + d = l.length → d < k → spec_l6Rises.l0 k l (i : Int) = some (okIds l i d) := by
 intro d
 induction d with
  | zero =>
  intro i k hd hk
  obtain ⟨k,rfl⟩ : ∃ q,k = q + 1 := ⟨k - 1,by omega⟩
  simp only [spec_l6Rises.l0]
  rw [if_neg (by omega)]
  rfl
  | succ d ih =>
  intro i k hd hk
  obtain ⟨k,rfl⟩ : ∃ q,k = q + 1 := ⟨k - 1,by omega⟩
  have e := ih (i + 1) k (by omega) (by omega)
  rw [show ((i + 1 : Nat) : Int) = (i : Int) + 1 from by omega] at e
  simp only [spec_l6Rises.l0,spec_l1Id.f,in_,Option.bind_some,if_pos (show (i : Int) < (l.length : Int) by omega),if_pos (show (0 : Int) ≤ (i : Int) by omega),wrap_of (x := (i : Int) + 1) (by omega) (by omega),e,okIds]
  by_cases h1 : 1 ≤ rd l (i : Int) ∧ rd l (i : Int) ≤ 1000000
  ·by_cases h0 : (i : Int) > 0
   ·have h0' : ¬ i = 0 := by omega
    simp only [if_pos h0,wrap_of (x := (i : Int) - 1) (by omega) (by omega),if_pos (show 0 ≤ (i : Int) - 1 by omega),if_pos (show (i : Int) - 1 < (l.length : Int) by omega)]
    by_cases h2 : rd l (i : Int) ≤ rd l ((i : Int) - 1)
    ·have h2' : ¬ rd l ((i : Int) - 1) < rd l (i : Int) := by omega
     simp [h1,h0',h2,h2']
    ·have h2' : rd l ((i : Int) - 1) < rd l (i : Int) := by omega
     simp [h1,h0',h2,h2']
   ·have h0' : i = 0 := by omega
    subst h0'
    have h1' : 1 ≤ rd l 0 ∧ rd l 0 ≤ 1000000 := h1
    simp [h1']
  ·simp [h1]
theorem impl_ids (b : Bool) (c : List S83) (r : List S50) (l : List Int) (hl : l.length ≤ 1048576) : ∀ d i k, i + d = l.length → d < k → impl_isMachineOk.l1 k l (l.length : Int) (i : Int) b c r l = some (okIds l i d) := by
 intro d
 induction d with
  | zero =>
  intro i k hd hk
  obtain ⟨k,rfl⟩ : ∃ q,k = q + 1 := ⟨k - 1,by omega⟩
  simp only [impl_isMachineOk.l1]
  rw [if_neg (by omega)]
  rfl
  | succ d ih =>
  intro i k hd hk
  obtain ⟨k,rfl⟩ : ∃ q,k = q + 1 := ⟨k - 1,by omega⟩
  have e := ih (i + 1) k (by omega) (by omega)
  rw [show ((i + 1 : Nat) : Int) = (i : Int) + 1 from by omega] at e
  simp only [impl_isMachineOk.l1,impl_isId.f,within_,Option.bind_some,if_pos (show (i : Int) < (l.length : Int) by omega),if_pos (show (0 : Int) ≤ (i : Int) by omega),wrap_of (x := (i : Int) + 1) (by omega) (by omega),e,okIds]
  by_cases h1 : 1 ≤ rd l (i : Int) ∧ rd l (i : Int) ≤ 1000000
  ·by_cases h0 : (i : Int) > 0
   ·have h0' : ¬ i = 0 := by omega
    simp only [if_pos h0,wrap_of (x := (i : Int) - 1) (by omega) (by omega),if_pos (show 0 ≤ (i : Int) - 1 by omega),if_pos (show (i : Int) - 1 < (l.length : Int) by omega)]
    by_cases h2 : rd l ((i : Int) - 1) ≥ rd l (i : Int)
    ·have h2' : ¬ rd l ((i : Int) - 1) < rd l (i : Int) := by omega
     simp [h1,h0',h2,h2']
    ·have h2' : rd l ((i : Int) - 1) < rd l (i : Int) := by omega
     simp [h1,h0',h2,h2']
   ·have h0' : i = 0 := by omega
    subst h0'
    have h1' : 1 ≤ rd l 0 ∧ rd l 0 ≤ 1000000 := h1
    simp [h1']
  ·simp [h1]
theorem spec_cps (b : Bool) (l : List S83) (r : List S50) (ids : List Int) (hl : l.length ≤ 1048576) (hm : ∀ x ∈ l, x.f1.length ≤ 1048576) : ∀ d i k, i + d = l.length → d + 2000000 < k → spec_MachineOk.l0 k (i : Int) b l r ids = if okCps l i d = true then spec_MachineOk.l1 (k - d - 1) 0 b l r ids else some false := by
 intro d
 induction d with
  | zero =>
  intro i k hd hk
  obtain ⟨k,rfl⟩ : ∃ q,k = q + 1 := ⟨k - 1,by omega⟩
  simp only [spec_MachineOk.l0]
  rw [if_neg (by omega)]
  simp [okCps]
  | succ d ih =>
  intro i k hd hk
  obtain ⟨k,rfl⟩ : ∃ q,k = q + 1 := ⟨k - 1,by omega⟩
  have e := ih (i + 1) k (by omega) (by omega)
  rw [show ((i + 1 : Nat) : Int) = (i : Int) + 1 from by omega] at e
  have ek : k + 1 - (d + 1) - 1 = k - d - 1 := by omega
  have hx : (rd_T83 l (i : Int)).f1.length ≤ 1048576 := by rw [rd83_get (show i < l.length by omega)];exact hm _ (List.getElem_mem _)
  simp only [spec_MachineOk.l0,spec_l1Region.f,in_,spec_cells _ hx k (by omega),Option.bind_some,if_pos (show (i : Int) < (l.length : Int) by omega),if_pos (show (0 : Int) ≤ (i : Int) by omega),wrap_of (x := (i : Int) + 1) (by omega) (by omega),e,okCps,ek]
  by_cases h1 : 0 ≤ (rd_T83 l (i : Int)).f0 ∧ (rd_T83 l (i : Int)).f0 ≤ 5
  ·by_cases h3 : okCs (rd_T83 l (i : Int)).f1 = true
   ·by_cases h0 : (i : Int) > 0
    ·have h0' : ¬ i = 0 := by omega
     simp only [if_pos h0,wrap_of (x := (i : Int) - 1) (by omega) (by omega),if_pos (show 0 ≤ (i : Int) - 1 by omega),if_pos (show (i : Int) - 1 < (l.length : Int) by omega)]
     by_cases h2 : (rd_T83 l (i : Int)).f0 ≤ (rd_T83 l ((i : Int) - 1)).f0
     ·have h2' : ¬ (rd_T83 l ((i : Int) - 1)).f0 < (rd_T83 l (i : Int)).f0 := by omega
      simp [h1,h3,h0',h2,h2']
     ·have h2' : (rd_T83 l ((i : Int) - 1)).f0 < (rd_T83 l (i : Int)).f0 := by omega
      simp [h1,h3,h0',h2,h2']
    ·have h0' : i = 0 := by omega
     subst h0'
     have h3' : okCs (rd_T83 l 0).f1 = true := h3
     have h1' : 0 ≤ (rd_T83 l 0).f0 ∧ (rd_T83 l 0).f0 ≤ 5 := h1
     simp [h1',h3']
   ·simp [h1,h3]
  ·simp [h1]
theorem impl_cps (b : Bool) (l : List S83) (r : List S50) (ids : List Int) (hl : l.length ≤ 1048576) : ∀ d i k, i + d = l.length → d < k → impl_isMachineOk.l0 k l (l.length : Int) (i : Int) b l r ids = if okCps l i d = true then impl_isMachineOk.l1 (k - d - 1) ids (ids.length : Int) 0 b l r ids else some false := by
 intro d
 induction d with
  | zero =>
  intro i k hd hk
  obtain ⟨k,rfl⟩ : ∃ q,k = q + 1 := ⟨k - 1,by omega⟩
  simp only [impl_isMachineOk.l0]
  rw [if_neg (by omega)]
  simp [okCps]
  | succ d ih =>
  intro i k hd hk
  obtain ⟨k,rfl⟩ : ∃ q,k = q + 1 := ⟨k - 1,by omega⟩
  have e := ih (i + 1) k (by omega) (by omega)
  rw [show ((i + 1 : Nat) : Int) = (i : Int) + 1 from by omega] at e
  have ek : k + 1 - (d + 1) - 1 = k - d - 1 := by omega
  simp only [impl_isMachineOk.l0,impl_isRegion.f,within_,impl_cells,Option.bind_some,if_pos (show (i : Int) < (l.length : Int) by omega),if_pos (show (0 : Int) ≤ (i : Int) by omega),wrap_of (x := (i : Int) + 1) (by omega) (by omega),e,okCps,ek]
  by_cases h1 : 0 ≤ (rd_T83 l (i : Int)).f0 ∧ (rd_T83 l (i : Int)).f0 ≤ 5
  ·by_cases h3 : okCs (rd_T83 l (i : Int)).f1 = true
   ·by_cases h0 : (i : Int) > 0
    ·have h0' : ¬ i = 0 := by omega
     simp only [if_pos h0,wrap_of (x := (i : Int) - 1) (by omega) (by omega),if_pos (show 0 ≤ (i : Int) - 1 by omega),if_pos (show (i : Int) - 1 < (l.length : Int) by omega)]
     by_cases h2 : (rd_T83 l ((i : Int) - 1)).f0 ≥ (rd_T83 l (i : Int)).f0
     ·have h2' : ¬ (rd_T83 l ((i : Int) - 1)).f0 < (rd_T83 l (i : Int)).f0 := by omega
      simp [h1,h3,h0',h2,h2']
     ·have h2' : (rd_T83 l ((i : Int) - 1)).f0 < (rd_T83 l (i : Int)).f0 := by omega
      simp [h1,h3,h0',h2,h2']
    ·have h0' : i = 0 := by omega
     subst h0'
     have h3' : okCs (rd_T83 l 0).f1 = true := h3
     have h1' : 0 ≤ (rd_T83 l 0).f0 ∧ (rd_T83 l 0).f0 ≤ 5 := h1
     simp [h1',h3']
   ·simp [h1,h3]
  ·simp [h1]
theorem spec_recs (b : Bool) (c : List S83) (l : List S50) (ids : List Int) (hl : l.length ≤ 1048576) (hm : ∀ x ∈ l, x.f3.length ≤ 1048576) : ∀ d i k, i + d = l.length → d + 4000000 < k → spec_MachineOk.l1 k (i : Int) b c l ids = some ((l.drop i).all okR) := by
 intro d
 induction d with
  | zero =>
  intro i k hd hk
  obtain ⟨k,rfl⟩ : ∃ q,k = q + 1 := ⟨k - 1,by omega⟩
  simp only [spec_MachineOk.l1]
  rw [if_neg (by omega),List.drop_of_length_le (by omega)]
  rfl
  | succ d ih =>
  intro i k hd hk
  obtain ⟨k,rfl⟩ : ∃ q,k = q + 1 := ⟨k - 1,by omega⟩
  have e := ih (i + 1) k (by omega) (by omega)
  rw [show ((i + 1 : Nat) : Int) = (i : Int) + 1 from by omega] at e
  have hx := hm _ (List.getElem_mem (show i < l.length by omega))
  simp only [spec_MachineOk.l1,if_pos (show (i : Int) < (l.length : Int) by omega),if_pos (show (0 : Int) ≤ (i : Int) by omega),rd50_get (show i < l.length by omega),(record_val l[i] hx k (by omega)).1,Option.bind_some,wrap_of (x := (i : Int) + 1) (by omega) (by omega),e]
  rw [List.drop_eq_getElem_cons (show i < l.length by omega),List.all_cons]
  cases okR l[i] <;> simp
theorem impl_recs (l : List S50) (hm : ∀ x ∈ l, x.f3.length ≤ 1048576) (k : Nat) (hk : 4000000 < k) : impl_Record_78.f k l = some (!l.all okR) := by
 obtain ⟨r,e,hr⟩ := idx_total (fun x : S50 => impl_isMachineOk_1.f k x.f0 x.f1 x.f2 x.f3) (fun x => !okR x) l (fun x hx => by
  have := hm x hx
  show impl_isMachineOk_1.f k x.f0 x.f1 x.f2 x.f3 = _
  simp only [impl_isMachineOk_1.f,(record_val x this k (by omega)).2,Option.bind_some]) 0
 simp only [impl_Record_78.f,e,Option.bind_some,hr]
 rw [← List.not_all_eq_any_not]
theorem machine_ok (b : Bool) (c : List S83) (r : List S50) (ids : List Int) (hc : c.length ≤ 1048576) (hcm : ∀ x ∈ c, x.f1.length ≤ 1048576) (hr : r.length ≤ 1048576) (hrm : ∀ x ∈ r, x.f3.length ≤ 1048576) (hi : ids.length ≤ 1048576) (k : Nat) (hk : 20000000 < k) : ∃ v, spec_MachineOk.f k b c r ids = some v ∧ impl_isMachineOk.f k b c r ids = some v ∧ (v = true → okCps c 0 c.length = true ∧ (c.length : Int) ≤ 6 ∧ (r.length : Int) ≤ 200 ∧ (ids.length : Int) ≤ 60 ∧ okIds ids 0 ids.length = true ∧ r.all okR = true) := by
 obtain ⟨k,rfl⟩ : ∃ q,k = q + 1 := ⟨k - 1,by omega⟩
 have a1 := spec_ids ids hi ids.length 0 (k + 1) (by omega) (by omega)
 have a2 := spec_cps b c r ids hc hcm c.length 0 k (by omega) (by omega)
 have a3 := spec_recs b c r ids hr hrm r.length 0 (k - c.length - 1) (by omega) (by omega)
 have b1 := impl_recs r hrm (k + 1) (by omega)
 have b2 := impl_cps b c r ids hc c.length 0 k (by omega) (by omega)
 have b3 := impl_ids b c r ids hi ids.length 0 (k - c.length - 1) (by omega) (by omega)
 rw [show ((0 : Nat) : Int) = 0 from rfl] at a1 a2 a3 b2 b3
 rw [a3] at a2
 rw [b3] at b2
 simp only [spec_MachineOk.f,impl_isMachineOk.f,spec_MachineOk.j0,impl_isMachineOk.j0,spec_l6Rises.f,a1,a2,b1,b2,Option.bind_some,List.drop_zero]
 by_cases h1 : (c.length : Int) > 6
 ·exact ⟨false,by simp [h1],by simp [h1],by simp⟩
 by_cases h2 : (r.length : Int) > 200
 ·exact ⟨false,by simp [h1,h2],by simp [h1,h2],by simp⟩
 by_cases h3 : (ids.length : Int) > 60
 ·exact ⟨false,by simp [h1,h2,h3],by simp [h1,h2,h3],by simp⟩
 simp only [if_neg h1,if_neg h2,if_neg h3]
 cases okIds ids 0 ids.length <;> cases okCps c 0 c.length <;> cases r.all okR <;> exact ⟨_,rfl,rfl,by simp <;> omega⟩
theorem machine_val (b : Bool) (c : List S83) (r : List S50) (ids : List Int) (hc : c.length ≤ 1048576) (hcm : ∀ x ∈ c, x.f1.length ≤ 1048576) (hr : r.length ≤ 1048576) (hrm : ∀ x ∈ r, x.f3.length ≤ 1048576) (hi : ids.length ≤ 1048576) (h1 : (c.length : Int) ≤ 6) (h2 : (r.length : Int) ≤ 200) (h3 : (ids.length : Int) ≤ 60) (h4 : okIds ids 0 ids.length = true) (h5 : okCps c 0 c.length = true) (h6 : r.all okR = true) (k : Nat) (hk : 20000000 < k) : impl_isMachineOk.f k b c r ids = some true := by
 obtain ⟨k,rfl⟩ : ∃ q,k = q + 1 := ⟨k - 1,by omega⟩
 have a1 := spec_ids ids hi ids.length 0 (k + 1) (by omega) (by omega)
 have a2 := spec_cps b c r ids hc hcm c.length 0 k (by omega) (by omega)
 have a3 := spec_recs b c r ids hr hrm r.length 0 (k - c.length - 1) (by omega) (by omega)
 have b1 := impl_recs r hrm (k + 1) (by omega)
 have b2 := impl_cps b c r ids hc c.length 0 k (by omega) (by omega)
 have b3 := impl_ids b c r ids hi ids.length 0 (k - c.length - 1) (by omega) (by omega)
 rw [show ((0 : Nat) : Int) = 0 from rfl] at a1 a2 a3 b2 b3
 rw [a3] at a2
 rw [b3] at b2
 simp only [impl_isMachineOk.f,impl_isMachineOk.j0,b1,b2,Option.bind_some]
 rw [if_neg (by omega),if_neg (by omega),if_neg (by omega)]
 simp [h4,h5,h6]
theorem copy3 (l : List S87) (h : l.length ≤ 1048576) : spec_l3Copy.f l = some l ∧ impl_Cell_63.f l = some l := by
 constructor
 ·simp only [spec_l3Copy.f,Option.bind_some,List.length_nil,List.nil_append]
  rw [if_pos (by omega)]
 ·simp only [impl_Cell_63.f,Option.bind_some,List.length_nil,List.nil_append]
  rw [if_pos (by omega)]
theorem copyRec (x : S50) (h : x.f3.length ≤ 1048576) : spec_l6Record.f x.f0 x.f1 x.f2 x.f3 = some (x.f0, x.f1, x.f2, x.f3) ∧ impl_cloneRecord.f x.f0 x.f1 x.f2 x.f3 = some (x.f0, x.f1, x.f2, x.f3) := by
 constructor
 ·simp only [spec_l6Record.f,Option.bind_some,List.length_nil,List.nil_append]
  rw [if_pos (by omega)]
 ·simp only [impl_cloneRecord.f,impl_Set_118.f,Option.bind_some,List.length_nil,List.nil_append]
  rw [if_pos (by omega)]
  rfl
theorem specRecs (b b2 : Bool) (c c2 : List S83) (r : List S50) (ids ids2 : List Int) (hr : r.length ≤ 1048576) (hrm : ∀ x ∈ r, x.f3.length ≤ 1048576) : ∀ d i k, i + d = r.length → d < k → spec_l6Copy.l1 k (i : Int) b c r ids b2 c2 (r.take i) ids2 = some (b2, c2, r, ids2) ∧ impl_cloneMachine.l1 k r (r.length : Int) (i : Int) b2 c2 (r.take i) ids2 = some (b2, c2, r, ids2) := by
 intro d
 induction d with
  | zero =>
  intro i k hd hk
  obtain ⟨k,rfl⟩ : ∃ z,k = z + 1 := ⟨k - 1,by omega⟩
  simp only [spec_l6Copy.l1,impl_cloneMachine.l1]
  rw [if_neg (by omega),if_neg (by omega),List.take_of_length_le (by omega)]
  exact ⟨rfl,rfl⟩
  | succ d ih =>
  intro i k hd hk
  obtain ⟨k,rfl⟩ : ∃ z,k = z + 1 := ⟨k - 1,by omega⟩
  have hi : i < r.length := by omega
  have hx := hrm _ (List.getElem_mem hi)
  have hl : (r.take i).length < 2932031007402 := by rw [List.length_take];omega
  simp only [spec_l6Copy.l1,impl_cloneMachine.l1]
  rw [if_pos (show (i : Int) < (r.length : Int) by omega),if_pos (show 0 ≤ (i : Int) by omega),rd50_get hi,(copyRec r[i] hx).1,(copyRec r[i] hx).2]
  simp only [Option.bind_some]
  rw [if_pos hl,if_pos (show (i : Int) < (r.length : Int) by omega),if_pos (show 0 ≤ (i : Int) by omega),if_pos (show (i : Int) < (r.length : Int) by omega),if_pos hl,wrap_of (x := (i : Int) + 1) (by omega) (by omega),show (i : Int) + 1 = ((i + 1 : Nat) : Int) by omega,show r.take i ++ [(⟨r[i].f0,r[i].f1,r[i].f2,r[i].f3⟩ : S50)] = r.take (i + 1) from by rw [List.take_succ_eq_append_getElem hi]]
  exact ih (i + 1) k (by omega) (by omega)
theorem specCps (b : Bool) (c : List S83) (r : List S50) (ids ids2 : List Int) (hc : c.length ≤ 1048576) (hcm : ∀ x ∈ c, x.f1.length ≤ 1048576) (hr : r.length ≤ 1048576) (hrm : ∀ x ∈ r, x.f3.length ≤ 1048576) : ∀ d i k, i + d = c.length → d + 1048580 < k → spec_l6Copy.l0 k (i : Int) b c r ids b (c.take i) ids2 = some (b, c, r, ids2) ∧ impl_cloneMachine.l0 k c (c.length : Int) (i : Int) b c r ids b (c.take i) ids2 = some (b, c, r, ids2) := by
 intro d
 induction d with
  | zero =>
  intro i k hd hk
  obtain ⟨k,rfl⟩ : ∃ z,k = z + 1 := ⟨k - 1,by omega⟩
  simp only [spec_l6Copy.l0,impl_cloneMachine.l0]
  rw [if_neg (by omega),if_neg (by omega),List.take_of_length_le (by omega)]
  exact specRecs b b c c r ids ids2 hr hrm r.length 0 k (by omega) (by omega)
  | succ d ih =>
  intro i k hd hk
  obtain ⟨k,rfl⟩ : ∃ z,k = z + 1 := ⟨k - 1,by omega⟩
  have hi : i < c.length := by omega
  have hx := hcm _ (List.getElem_mem hi)
  have hl : (c.take i).length < 4398046511104 := by rw [List.length_take];omega
  simp only [spec_l6Copy.l0,impl_cloneMachine.l0]
  rw [if_pos (show (i : Int) < (c.length : Int) by omega),if_pos (show 0 ≤ (i : Int) by omega),rd83_get hi,(copy3 c[i].f1 hx).1,(copy3 c[i].f1 hx).2]
  simp only [Option.bind_some]
  rw [if_pos hl,if_pos (show (i : Int) < (c.length : Int) by omega),if_pos (show 0 ≤ (i : Int) by omega),if_pos (show (i : Int) < (c.length : Int) by omega),if_pos hl,wrap_of (x := (i : Int) + 1) (by omega) (by omega),show (i : Int) + 1 = ((i + 1 : Nat) : Int) by omega,show c.take i ++ [(⟨c[i].f0,c[i].f1⟩ : S83)] = c.take (i + 1) from by rw [List.take_succ_eq_append_getElem hi]]
  exact ih (i + 1) k (by omega) (by omega)
theorem copy_both (b : Bool) (c : List S83) (r : List S50) (ids : List Int) (hc : c.length ≤ 1048576) (hcm : ∀ x ∈ c, x.f1.length ≤ 1048576) (hr : r.length ≤ 1048576) (hrm : ∀ x ∈ r, x.f3.length ≤ 1048576) (hi : ids.length ≤ 1048576) (k : Nat) (hk : 20000000 < k) : spec_l6Copy.f k b c r ids = some (b, c, r, ids) ∧ impl_cloneMachine.f k b c r ids = some (b, c, r, ids) := by
 have h := specCps b c r ids ids hc hcm hr hrm c.length 0 k (by omega) (by omega)
 rw [show ((0 : Nat) : Int) = 0 from rfl,List.take_zero] at h
 constructor
 ·simp only [spec_l6Copy.f,Option.bind_some,List.length_nil,List.nil_append]
  rw [if_pos (by omega)]
  exact h.1
 ·simp only [impl_cloneMachine.f,slices_Clone_int64_int64.f,Option.bind_some,List.length_nil,List.nil_append]
  rw [if_pos (by omega)]
  exact h.2
theorem ids_at (l : List Int) : ∀ d i, i + d = l.length → okIds l i d = true → ∀ j, j < l.length → i ≤ j → j = 0 ∨ rd l ((j : Int) - 1) < rd l (j : Int) := by
 intro d
 induction d with
  | zero => intro i hd _ j hj hi; omega
  | succ d ih =>
  intro i hd h j hj hi
  simp only [okIds,Bool.and_eq_true,Bool.or_eq_true,decide_eq_true_eq] at h
  by_cases e : j = i
  ·subst e;exact h.1.2
  ·exact ih (i + 1) (by omega) h.2 j hj (by omega)
theorem ids_sorted (l : List Int) (h : okIds l 0 l.length = true) : ∀ t s (_ : s ≤ t) (ht : t < l.length), l[s] ≤ l[t] := by
 intro t
 induction t with
  | zero =>
  intro s hs ht
  obtain rfl : s = 0 := by omega
  exact Int.le_refl _
  | succ t ih =>
  intro s hs ht
  by_cases e : s = t + 1
  ·subst e;exact Int.le_refl _
  ·have h1 := ih s (by omega) (by omega)
   have h2 := (ids_at l l.length 0 (by omega) h (t + 1) ht (by omega)).resolve_left (by omega)
   rw [show ((t + 1 : Nat) : Int) - 1 = (t : Int) from by omega,rd_get (show t < l.length by omega),rd_get ht] at h2
   omega
theorem mid_ (i j : Nat) (h : i + j ≤ 4000000) : wrap64 ((IntKind.u64.wrap (wrap64 ((i : Int) + (j : Int)))) / 2) = (((i + j) / 2 : Nat) : Int) := by
 rw [wrap_of (x := (i : Int) + (j : Int)) (by omega) (by omega)]
 have e : IntKind.u64.wrap ((i : Int) + (j : Int)) = (i : Int) + (j : Int) := by
  simp only [IntKind.wrap,IntKind.bits,IntKind.signed,Bool.false_and,Bool.false_eq_true,if_false]
  omega
 rw [e,wrap_of (by omega) (by omega)]
 omega
theorem less_ (a b : Int) : cmp_Less_int64.f a b = some (decide (a < b)) := by simp [cmp_Less_int64.f, cmp_isNaN_int64.f]
theorem search_from (l : List Int) (a : Int) (hl : l.length ≤ 1048576) (hs : ∀ t s (_ : s ≤ t) (ht : t < l.length), l[s] ≤ l[t]) : ∀ d i j k, j ≤ i + d → i ≤ j → j ≤ l.length → d < k → (∀ t (ht : t < l.length), t < i → l[t] < a) → (∀ t (ht : t < l.length), j ≤ t → ¬ l[t] < a) →
  ∃ m,m ≤ l.length ∧ (∀ t (ht : t < l.length),t < m → l[t] < a) ∧ (∀ t (ht : t < l.length),m ≤ t → ¬ l[t] < a) ∧ slices_BinarySearch_int64_int64.l0 k l a (l.length : Int) (i : Int) (j : Int) = some ((m : Int),decide (a ∈ l)) := by
 intro d
 induction d with
  | zero =>
  intro i j k hd hij hj hk hA hB
  obtain ⟨k,rfl⟩ : ∃ z,k = z + 1 := ⟨k - 1,by omega⟩
  obtain rfl : i = j := by omega
  refine ⟨i,hj,hA,hB,?_⟩
  simp only [slices_BinarySearch_int64_int64.l0]
  rw [if_neg (by omega)]
  by_cases hi : i < l.length
  ·rw [if_pos (by omega),if_pos (by omega),if_pos (by omega),rd_get hi]
   by_cases e : l[i] = a
   ·rw [if_pos e,decide_eq_true (show a ∈ l from e ▸ List.getElem_mem hi)]
   ·have hn : ¬ a ∈ l := fun hm => by
     obtain ⟨t,ht,rfl⟩ := List.getElem_of_mem hm
     by_cases hti : t < i
     ·have := hA t ht hti;omega
     ·have h1 := hs t i (by omega) ht
      have h2 := hB i hi (Nat.le_refl _)
      omega
    rw [if_neg e,decide_eq_false hn]
    simp [slices_isNaN_int64.f]
  ·have hn : ¬ a ∈ l := fun hm => by
    obtain ⟨t,ht,rfl⟩ := List.getElem_of_mem hm
    have := hA t ht (by omega);omega
   rw [if_neg (by omega),decide_eq_false hn]
  | succ d ih =>
  intro i j k hd hij hj hk hA hB
  by_cases hlt : i < j
  ·obtain ⟨k,rfl⟩ : ∃ z,k = z + 1 := ⟨k - 1,by omega⟩
   simp only [slices_BinarySearch_int64_int64.l0]
   obtain ⟨h,hh⟩ : ∃ h,h = (i + j) / 2 := ⟨_,rfl⟩
   rw [mid_ i j (by omega),← hh,if_pos (by omega),if_pos (by omega),if_pos (by omega),rd_get (show h < l.length by omega),less_,Option.bind_some]
   by_cases e : l[h] < a
   ·rw [if_pos (by simpa using e),wrap_of (x := (h : Int) + 1) (by omega) (by omega)]
    have := ih (h + 1) j k (by omega) (by omega) hj (by omega) (fun t ht hti => by
     have := hs h t (by omega) (by omega);omega) hB
    rwa [show ((h + 1 : Nat) : Int) = (h : Int) + 1 from by omega] at this
   ·rw [if_neg (by simpa using e)]
    exact ih i h k (by omega) (by omega) (by omega) (by omega) hA (fun t ht hti => by
     have := hs t h hti ht;omega)
  ·exact ih i j k (by omega) hij hj (by omega) hA hB
theorem likeInts_ok (l : List Int) (hl : l.length ≤ 9000000000000) (k : Nat) (hk : l.length < k) : laws_likeInts.f k l l = some true := by
 unfold laws_likeInts.f
 rw [if_pos rfl]
 exact loop_to (fun k (s : Int) => laws_likeInts.l0 k l l s) (fun i s => s = (i : Int)) l.length 0 true
  (fun k i s hk hi hP => ⟨wrap64 (s + 1),by rw [hP,wrap_of (by omega) (by omega)];omega,by
   show laws_likeInts.l0 (k + 1) l l s = _
   simp only [laws_likeInts.l0]
   rw [if_pos (by omega),if_pos (by omega),if_pos (by omega),if_pos trivial]⟩)
  (fun k s _ hP => by
   show laws_likeInts.l0 (k + 1) l l s = _
   simp only [laws_likeInts.l0]
   rw [if_neg (by omega)]) 0 k 0 (by omega) (by omega) rfl
theorem likeCells_ok (l : List S87) (hl : l.length ≤ 9000000000000) (k : Nat) (hk : l.length < k) : laws_likeCells.f k l l = some true := by
 unfold laws_likeCells.f
 rw [if_pos rfl]
 exact loop_to (fun k (s : Int) => laws_likeCells.l0 k l l s) (fun i s => s = (i : Int)) l.length 0 true
  (fun k i s hk hi hP => ⟨wrap64 (s + 1),by rw [hP,wrap_of (by omega) (by omega)];omega,by
   show laws_likeCells.l0 (k + 1) l l s = _
   simp only [laws_likeCells.l0]
   rw [if_pos (by omega),if_pos (by omega),if_pos (by omega),if_neg (by simp)]⟩)
  (fun k s _ hP => by
   show laws_likeCells.l0 (k + 1) l l s = _
   simp only [laws_likeCells.l0]
   rw [if_neg (by omega)]) 0 k 0 (by omega) (by omega) rfl
theorem likeSets_ok (l : List S119) (hl : l.length ≤ 9000000000000) (k : Nat) (hk : l.length < k) : laws_likeSets.f k l l = some true := by
 unfold laws_likeSets.f
 rw [if_pos rfl]
 exact loop_to (fun k (s : Int) => laws_likeSets.l0 k l l s) (fun i s => s = (i : Int)) l.length 0 true
  (fun k i s hk hi hP => ⟨wrap64 (s + 1),by rw [hP,wrap_of (by omega) (by omega)];omega,by
   show laws_likeSets.l0 (k + 1) l l s = _
   simp only [laws_likeSets.l0]
   rw [if_pos (by omega),if_pos (by omega),if_pos (by omega),if_neg (by simp)]⟩)
  (fun k s _ hP => by
   show laws_likeSets.l0 (k + 1) l l s = _
   simp only [laws_likeSets.l0]
   rw [if_neg (by omega)]) 0 k 0 (by omega) (by omega) rfl
theorem likeRec_ok (x : S50) (hx : x.f3.length ≤ 1048576) (k : Nat) (hk : 1048580 < k) : laws_likeRecord.f k x.f0 x.f1 x.f2 x.f3 x.f0 x.f1 x.f2 x.f3 = some true := by
 unfold laws_likeRecord.f
 rw [if_pos rfl,if_pos rfl,if_pos rfl,likeSets_ok x.f3 (by omega) k (by omega),Option.bind_some]
theorem likeRecs (b : Bool) (c : List S83) (r : List S50) (ids : List Int) (hr : r.length ≤ 1048576) (hrm : ∀ x ∈ r, x.f3.length ≤ 1048576) : ∀ d i k, i + d = r.length → d + 1048590 < k → laws_likeMachine.l1 k (i : Int) b c r ids b c r ids = some true := by
 intro d
 induction d with
  | zero =>
  intro i k hd hk
  obtain ⟨k,rfl⟩ : ∃ z,k = z + 1 := ⟨k - 1,by omega⟩
  simp only [laws_likeMachine.l1]
  rw [if_neg (by omega)]
  | succ d ih =>
  intro i k hd hk
  obtain ⟨k,rfl⟩ : ∃ z,k = z + 1 := ⟨k - 1,by omega⟩
  have hi : i < r.length := by omega
  have := ih (i + 1) k (by omega) (by omega)
  rw [show ((i + 1 : Nat) : Int) = (i : Int) + 1 from by omega] at this
  simp only [laws_likeMachine.l1]
  rw [if_pos (by omega),if_pos (by omega),if_pos (by omega),rd50_get hi,likeRec_ok r[i] (hrm _ (List.getElem_mem hi)) k (by omega),Option.bind_some,if_pos rfl,wrap_of (by omega) (by omega)]
  exact this
theorem likeCps (b : Bool) (c : List S83) (r : List S50) (ids : List Int) (hc : c.length ≤ 1048576) (hcm : ∀ x ∈ c, x.f1.length ≤ 1048576) (hr : r.length ≤ 1048576) (hrm : ∀ x ∈ r, x.f3.length ≤ 1048576) : ∀ d i k, i + d = c.length → d + 3000000 < k → laws_likeMachine.l0 k (i : Int) b c r ids b c r ids = some true := by
 intro d
 induction d with
  | zero =>
  intro i k hd hk
  obtain ⟨k,rfl⟩ : ∃ z,k = z + 1 := ⟨k - 1,by omega⟩
  simp only [laws_likeMachine.l0]
  rw [if_neg (by omega)]
  exact likeRecs b c r ids hr hrm r.length 0 k (by omega) (by omega)
  | succ d ih =>
  intro i k hd hk
  obtain ⟨k,rfl⟩ : ∃ z,k = z + 1 := ⟨k - 1,by omega⟩
  have hi : i < c.length := by omega
  have := ih (i + 1) k (by omega) (by omega)
  rw [show ((i + 1 : Nat) : Int) = (i : Int) + 1 from by omega] at this
  simp only [laws_likeMachine.l0]
  rw [if_pos (by omega),if_pos (by omega),if_pos (by omega),if_pos trivial,rd83_get hi,likeCells_ok c[i].f1 (by have := hcm _ (List.getElem_mem hi);omega) k (by have := hcm _ (List.getElem_mem hi);omega),Option.bind_some,if_pos rfl,wrap_of (by omega) (by omega)]
  exact this
theorem likeM_ok (b : Bool) (c : List S83) (r : List S50) (ids : List Int) (hc : c.length ≤ 1048576) (hcm : ∀ x ∈ c, x.f1.length ≤ 1048576) (hr : r.length ≤ 1048576) (hrm : ∀ x ∈ r, x.f3.length ≤ 1048576) (hi : ids.length ≤ 1048576) (k : Nat) (hk : 20000000 < k) : laws_likeMachine.f k b c r ids b c r ids = some true := by
 unfold laws_likeMachine.f
 rw [if_neg (by simp),if_pos rfl,if_pos rfl,likeInts_ok ids (by omega) k (by omega),Option.bind_some]
 obtain ⟨k,rfl⟩ : ∃ z,k = z + 1 := ⟨k - 1,by omega⟩
 simp only [laws_likeMachine.j0]
 rw [if_neg (by simp)]
 exact likeCps b c r ids hc hcm hr hrm c.length 0 k (by omega) (by omega)
theorem idx_none {α : Type} (p : α → Bool) : ∀ (l : List α) (i : Nat), (∀ x ∈ l, p x = false) → idxFrom (fun x => some (p x)) l i = some (-1)
  | [], _, _ => rfl
  | x :: l, i, h => by
    simp only [idxFrom,Option.bind_some]
    rw [h x List.mem_cons_self]
    simpa using idx_none p l (i + 1) (fun y hy => h y (List.mem_cons_of_mem _ hy))
theorem logged_none (b : Bool) (c : List S83) (r : List S50) (ids : List Int) (q1 q2 q3 : Int) (hc : c.length ≤ 1048576) (hcm : ∀ x ∈ c, x.f1.length ≤ 1048576) (hr : r.length ≤ 1048576) (hrm : ∀ x ∈ r, x.f3.length ≤ 1048576) (hi : ids.length ≤ 1048576) (hn : ∀ x ∈ r, ¬ (x.f1 = q1 ∧ x.f2 = q2 ∧ x.f0 = q3)) (k : Nat) (hk : 20000000 < k) : impl_Logged.f k b c r ids q1 q2 q3 = some (0, 0, 0, [], false) := by
 obtain ⟨v,_,v2,_⟩ := machine_ok b c r ids hc hcm hr hrm hi k hk
 have f2 : idxFrom (fun x : S50 => some ((x.f1 == q1) && ((x.f2 == q2) && (x.f0 == q3)))) r 0 = some (-1) := idx_none (fun x : S50 => (x.f1 == q1) && ((x.f2 == q2) && (x.f0 == q3))) r 0 (fun x hx => by
  have := hn x hx
  cases h1 : x.f1 == q1
  ·rfl
  ·cases h2 : x.f2 == q2
   ·rfl
   ·cases h3 : x.f0 == q3
    ·rfl
    ·exact absurd ⟨by simpa using h1,by simpa using h2,by simpa using h3⟩ this)
 simp only [impl_Logged.f,impl_Machine_logged.f,v2,f2,Option.bind_some]
 cases v <;> simp
theorem okCs_len {l : List S87} (h : okCs l = true) : l.length = 6 := by
 unfold okCs at h
 rw [Bool.and_eq_true] at h
 exact of_decide_eq_true h.1
theorem cps_at (l : List S83) : ∀ d i, i + d = l.length → okCps l i d = true → ∀ j, j < l.length → i ≤ j → j = 0 ∨ (rd_T83 l ((j : Int) - 1)).f0 < (rd_T83 l (j : Int)).f0 := by
 intro d
 induction d with
  | zero => intro i hd _ j hj hi; omega
  | succ d ih =>
  intro i hd h j hj hi
  simp only [okCps,Bool.and_eq_true,Bool.or_eq_true,decide_eq_true_eq] at h
  by_cases e : j = i
  ·subst e;exact h.1.2.2
  ·exact ih (i + 1) (by omega) h.2 j hj (by omega)
theorem cps_rise (l : List S83) (h : okCps l 0 l.length = true) : ∀ t s (_ : s < t) (ht : t < l.length), l[s].f0 < l[t].f0 := by
 intro t
 induction t with
  | zero => intro s hs; omega
  | succ t ih =>
  intro s hs ht
  have h2 := (cps_at l l.length 0 (by omega) h (t + 1) ht (by omega)).resolve_left (by omega)
  rw [show ((t + 1 : Nat) : Int) - 1 = (t : Int) from by omega,rd83_get (show t < l.length by omega),rd83_get ht] at h2
  by_cases e : s = t
  ·subst e;exact h2
  ·have h1 := ih s (by omega) (by omega)
   omega
theorem p1_cons (a : Int) (x : S83) (l : List S83) : pos1 a (x :: l) = if x.f0 < a then pos1 a l + 1 else 0 := by
 unfold pos1
 rw [List.takeWhile_cons]
 by_cases h : x.f0 < a <;> simp [h]
theorem p1_is (a : Int) : ∀ (l : List S83) (j : Nat), j ≤ l.length → (∀ t (ht : t < l.length), t < j → l[t].f0 < a) → (∀ ht : j < l.length, ¬ l[j].f0 < a) → pos1 a l = j
  | [], j, hj, _, _ => by
    obtain rfl : j = 0 := by simpa using hj
    rfl
  | x :: l, 0, _, _, h2 => by rw [p1_cons, if_neg (show ¬ x.f0 < a from h2 (by simp))]
  | x :: l, j + 1, hj, h1, h2 => by
    rw [p1_cons,if_pos (show x.f0 < a from h1 0 (by simp) (by omega)),p1_is a l j (by simpa using hj) (fun t ht h => h1 (t + 1) (by simpa using ht) (by omega)) (fun ht => h2 (by simpa using ht))]
theorem p1_le (a : Int) : ∀ l : List S83, pos1 a l ≤ l.length
  | [] => Nat.le_refl _
  | x :: l => by
    rw [p1_cons,List.length_cons]
    have := p1_le a l
    split <;> omega
theorem p1_lt (a : Int) : ∀ (l : List S83) (j : Nat) (hj : j < l.length), j < pos1 a l → l[j].f0 < a
  | [], j, hj, _ => by simp at hj
  | x :: l, 0, hj, h => by
    rw [p1_cons] at h
    by_cases e : x.f0 < a
    ·exact e
    ·rw [if_neg e] at h;omega
  | x :: l, j + 1, hj, h => by
    rw [p1_cons] at h
    by_cases e : x.f0 < a
    ·rw [if_pos e] at h;exact p1_lt a l j (by simpa using hj) (by omega)
    ·rw [if_neg e] at h;omega
theorem p1_stop (a : Int) : ∀ (l : List S83) (j : Nat) (hj : j < l.length), j = pos1 a l → ¬ l[j].f0 < a
  | [], j, hj, _ => by simp at hj
  | x :: l, 0, hj, h => by
    rw [p1_cons] at h
    by_cases e : x.f0 < a
    ·rw [if_pos e] at h;omega
    ·exact e
  | x :: l, j + 1, hj, h => by
    rw [p1_cons] at h
    by_cases e : x.f0 < a
    ·rw [if_pos e] at h;exact p1_stop a l j (by simpa using hj) (by omega)
    ·rw [if_neg e] at h;omega
theorem at_from (l : List S83) (q : Int) (hl : l.length ≤ 1048576) (b : Bool) (r : List S50) (ids : List Int) : ∀ d i k, i + d = l.length → d < k → (∀ t (ht : t < l.length), t < i → l[t].f0 ≠ q) → (spec_l6At.l0 k q (i : Int) b l r ids = some (-1) ∧ ∀ t (ht : t < l.length), l[t].f0 ≠ q) ∨ ∃ j : Nat, ∃ hj : j < l.length, l[j].f0 = q ∧ spec_l6At.l0 k q (i : Int) b l r ids = some (j : Int) := by
 intro d
 induction d with
  | zero =>
  intro i k hd hk hA
  obtain ⟨k,rfl⟩ : ∃ z,k = z + 1 := ⟨k - 1,by omega⟩
  refine .inl ⟨?_,fun t ht => hA t ht (by omega)⟩
  simp only [spec_l6At.l0]
  rw [if_neg (by omega)]
  | succ d ih =>
  intro i k hd hk hA
  obtain ⟨k,rfl⟩ : ∃ z,k = z + 1 := ⟨k - 1,by omega⟩
  have hi : i < l.length := by omega
  simp only [spec_l6At.l0]
  rw [if_pos (show (i : Int) < (l.length : Int) by omega),if_pos (show 0 ≤ (i : Int) by omega),rd83_get hi]
  by_cases h : l[i].f0 = q
  ·rw [if_pos h]
   exact .inr ⟨i,hi,h,rfl⟩
  ·rw [if_neg h,wrap_of (x := (i : Int) + 1) (by omega) (by omega)]
   have := ih (i + 1) k (by omega) (by omega) (fun t ht hti => by
    by_cases e : t = i
    ·subst e;exact h
    ·exact hA t ht (by omega))
   rw [show ((i + 1 : Nat) : Int) = (i : Int) + 1 from by omega] at this
   exact this
theorem replace_both (b : Bool) (c : List S83) (r : List S50) (ids : List Int) (a : Int) (x : List S87) (hc : c.length ≤ 1048576) (ho : okCps c 0 c.length = true) (hx : x.length ≤ 1048576) (k : Nat) (hk : 20000000 < k) : spec_l6Replace.f k b c r ids a x = some (putC a x c) ∧ impl_Machine_replace.f c a x = some (putC a x c) := by
 have rise := cps_rise c ho
 have m1 := p1_le a c
 have m3 : ∀ t (ht : t < c.length),pos1 a c ≤ t → ¬ c[t].f0 < a := fun t ht h => by
  by_cases e : t = pos1 a c
  ·exact p1_stop a c t ht e
  ·have h0 := p1_stop a c (pos1 a c) (by omega) rfl
   have := rise t (pos1 a c) (by omega) ht
   omega
 have hall : ((c.drop (pos1 a c)).all fun x => !decide (x.f0 < a)) = true := by
  rw [List.all_eq_true]
  intro y hy
  obtain ⟨i,hi,rfl⟩ := List.getElem_of_mem hy
  rw [List.length_drop] at hi
  rw [List.getElem_drop]
  have := m3 (pos1 a c + i) (by omega) (by omega)
  rw [decide_eq_false this]
  rfl
 have hI : impl_Machine_replace.f c a x = some (putC a x c) := by
  simp only [impl_Machine_replace.f,(copy3 x hx).2,Option.bind_some]
  rw [if_pos ⟨hall,by omega⟩]
 refine ⟨?_,hI⟩
 ·have F := at_from c a hc b r ids c.length 0 k (by omega) (by omega) (fun t ht h => by omega)
  rw [show ((0 : Nat) : Int) = 0 from rfl] at F
  simp only [spec_l6Replace.f,spec_l6At.f]
  rcases F with ⟨f1,f2⟩ | ⟨j,hj,f1,f2⟩
  ·rw [f1,Option.bind_some,if_neg (by omega),if_pos (by omega)]
   unfold putC foundAt
   have hn : ¬ ∃ ht : pos1 a c < c.length,c[pos1 a c].f0 = a := fun ⟨ht,e⟩ => f2 _ ht e
   rw [decide_eq_false hn]
   simp
  ·rw [f2,Option.bind_some,if_pos (by omega),if_pos (by omega),Int.toNat_natCast]
   have e : pos1 a c = j := p1_is a c j (by omega) (fun t ht h => by have := rise j t h hj;omega) (fun ht => by omega)
   have e2 : (c.getD j z83).f0 = a := by
    rw [List.getD_eq_getElem?_getD,List.getElem?_eq_getElem hj]
    exact f1
   have hy : ∃ ht : pos1 a c < c.length,c[pos1 a c].f0 = a := by subst e;exact ⟨hj,f1⟩
   unfold putC foundAt
   rw [decide_eq_true hy,if_pos rfl,e2,e]
theorem cps_mk (l : List S83) (h1 : ∀ y ∈ l, (0 ≤ y.f0 ∧ y.f0 ≤ 5) ∧ okCs y.f1 = true) (h2 : l.Pairwise (fun a b => a.f0 < b.f0)) : ∀ d i, i + d = l.length → okCps l i d = true := by
 rw [List.pairwise_iff_getElem] at h2
 intro d
 induction d with
  | zero => intro i _; rfl
  | succ d ih =>
  intro i hd
  have hi : i < l.length := by omega
  have h3 := h1 _ (List.getElem_mem hi)
  simp only [okCps,Bool.and_eq_true,Bool.or_eq_true,decide_eq_true_eq,rd83_get hi]
  refine ⟨⟨h3.1,h3.2,?_⟩,ih (i + 1) (by omega)⟩
  by_cases e : i = 0
  ·exact .inl e
  ·refine .inr ?_
   rw [show (i : Int) - 1 = ((i - 1 : Nat) : Int) from by omega,rd83_get (show i - 1 < l.length by omega)]
   exact h2 (i - 1) i (by omega) hi (by omega)
theorem cps_all (l : List S83) : ∀ d i, i + d = l.length → okCps l i d = true → ∀ j (hj : j < l.length), i ≤ j → (0 ≤ l[j].f0 ∧ l[j].f0 ≤ 5) ∧ okCs l[j].f1 = true := by
 intro d
 induction d with
  | zero => intro i hd _ j hj hi; omega
  | succ d ih =>
  intro i hd h j hj hi
  simp only [okCps,Bool.and_eq_true,decide_eq_true_eq] at h
  by_cases e : j = i
  ·subst e
   have := h.1
   rw [rd83_get hj] at this
   exact ⟨this.1,this.2.1⟩
  ·exact ih (i + 1) (by omega) h.2 j hj (by omega)
theorem cps_len (l : List S83) (h1 : ∀ y ∈ l, 0 ≤ y.f0 ∧ y.f0 ≤ 5) (h2 : l.Pairwise (fun a b => a.f0 < b.f0)) : l.length ≤ 6 := by
 rw [List.pairwise_iff_getElem] at h2
 have H : ∀ i (hi : i < l.length),(i : Int) ≤ l[i].f0 := by
  intro i
  induction i with
    | zero => intro hi; exact (h1 _ (List.getElem_mem hi)).1
    | succ i ih =>
   intro hi
   have a := ih (by omega)
   have b := h2 i (i + 1) (by omega) hi (by omega)
   omega
 by_cases h : l.length ≤ 6
 ·exact h
 ·have a := H 6 (by omega)
  have b := (h1 _ (List.getElem_mem (show 6 < l.length by omega))).2
  omega
theorem put_cps (c : List S83) (a : Int) (x : List S87) (ho : okCps c 0 c.length = true) (ha : 0 ≤ a ∧ a ≤ 5) (hx : okCs x = true) : okCps (putC a x c) 0 (putC a x c).length = true ∧ (putC a x c).length ≤ 6 ∧ ∃ (j : Nat) (hj : j < (putC a x c).length), (putC a x c)[j].f0 = a ∧ (putC a x c)[j].f1 = x ∧ ∀ t (ht : t < (putC a x c).length), t < j → (putC a x c)[t].f0 ≠ a := by
 have rise := cps_rise c ho
 have al := cps_all c c.length 0 (by omega) ho
 have hp : c.Pairwise (fun a b => a.f0 < b.f0) := List.pairwise_iff_getElem.2 fun i j hi hj hij => rise j i hij hj
 have m1 := p1_le a c
 have m2 := p1_lt a c
 have m3 := p1_stop a c
 have fin : ∀ q : List S83,(∀ y ∈ q,y ∈ c ∨ y = ⟨a,x⟩) → q.Pairwise (fun a b => a.f0 < b.f0) → okCps q 0 q.length = true ∧ q.length ≤ 6 := fun q h1 h2 => by
  have h3 : ∀ y ∈ q,(0 ≤ y.f0 ∧ y.f0 ≤ 5) ∧ okCs y.f1 = true := fun y hy => by
   rcases h1 y hy with h | rfl
   ·obtain ⟨i,hi,rfl⟩ := List.getElem_of_mem h
    exact al i hi (by omega)
   ·exact ⟨ha,hx⟩
  exact ⟨cps_mk q h3 h2 q.length 0 (by omega),cps_len q (fun y hy => (h3 y hy).1) h2⟩
 unfold putC foundAt
 by_cases hf : ∃ ht : pos1 a c < c.length,c[pos1 a c].f0 = a
 ·rw [decide_eq_true hf,if_pos rfl]
  obtain ⟨ht,e⟩ := hf
  have hq : (c.set (pos1 a c) (⟨a,x⟩ : S83)).Pairwise (fun a b => a.f0 < b.f0) := by
   rw [List.pairwise_iff_getElem]
   intro i j hi hj hij
   rw [List.length_set] at hi hj
   have h0 := rise j i hij hj
   rw [List.getElem_set,List.getElem_set]
   split
   ·next h =>
    rw [if_neg (by omega)]
    subst h;show a < _;omega
   ·split
    ·next h => subst h;show _ < a;omega
    ·exact h0
  obtain ⟨r1,r2⟩ := fin _ (fun y hy => List.mem_or_eq_of_mem_set hy) hq
  refine ⟨r1,r2,pos1 a c,by rw [List.length_set];exact ht,by rw [List.getElem_set_self],by rw [List.getElem_set_self],fun t h1 h2 => ?_⟩
  rw [List.length_set] at h1
  rw [List.getElem_set_ne (by omega)]
  have := m2 t h1 h2
  omega
 ·rw [decide_eq_false hf,if_neg (by simp)]
  have m4 : ∀ t (ht : t < c.length),pos1 a c ≤ t → a < c[t].f0 := fun t ht h => by
   have h0 := m3 (pos1 a c) (by omega) rfl
   have h5 : c[pos1 a c].f0 ≠ a := fun e => hf ⟨by omega,e⟩
   by_cases e : t = pos1 a c
   ·subst e;omega
   ·have := rise t (pos1 a c) (by omega) ht
    omega
  have t1 : ∀ y ∈ c.take (pos1 a c),y.f0 < a := fun y hy => by
   obtain ⟨i,hi,rfl⟩ := List.getElem_of_mem hy
   rw [List.length_take] at hi
   rw [List.getElem_take]
   exact m2 i (by omega) (by omega)
  have t2 : ∀ y ∈ c.drop (pos1 a c),a < y.f0 := fun y hy => by
   obtain ⟨i,hi,rfl⟩ := List.getElem_of_mem hy
   rw [List.length_drop] at hi
   rw [List.getElem_drop]
   exact m4 (pos1 a c + i) (by omega) (by omega)
  have hq : (c.take (pos1 a c) ++ [(⟨a,x⟩ : S83)] ++ c.drop (pos1 a c)).Pairwise (fun a b => a.f0 < b.f0) := by
   rw [List.pairwise_append,List.pairwise_append]
   refine ⟨⟨hp.sublist (List.take_sublist _ _),List.pairwise_singleton _ _,fun y hy w hw => ?_⟩,hp.sublist (List.drop_sublist _ _),fun y hy w hw => ?_⟩
   ·rw [List.mem_singleton.1 hw];exact t1 y hy
   ·rcases List.mem_append.1 hy with h | h
    ·have h1 := t1 y h;have h2 := t2 w hw;omega
    ·rw [List.mem_singleton.1 h];exact t2 w hw
  obtain ⟨r1,r2⟩ := fin _ (fun y hy => by
   rcases List.mem_append.1 hy with h | h
   ·rcases List.mem_append.1 h with h | h
    ·exact .inl (List.mem_of_mem_take h)
    ·exact .inr (List.mem_singleton.1 h)
   ·exact .inl (List.mem_of_mem_drop h)) hq
  have hlt : (c.take (pos1 a c)).length = pos1 a c := by rw [List.length_take];omega
  have hg : (c.take (pos1 a c) ++ [(⟨a,x⟩ : S83)] ++ c.drop (pos1 a c))[pos1 a c]? = some ⟨a,x⟩ := by
   rw [List.append_assoc,List.getElem?_append_right (by omega),hlt,Nat.sub_self];rfl
  have hj : pos1 a c < (c.take (pos1 a c) ++ [(⟨a,x⟩ : S83)] ++ c.drop (pos1 a c)).length := by
   rw [List.append_assoc,List.length_append,hlt,List.length_append,List.length_singleton];omega
  have he : (c.take (pos1 a c) ++ [(⟨a,x⟩ : S83)] ++ c.drop (pos1 a c))[pos1 a c] = ⟨a,x⟩ := by
   rw [List.getElem?_eq_getElem hj] at hg
   exact Option.some.inj hg
  refine ⟨r1,r2,pos1 a c,hj,by rw [he],by rw [he],fun t h1 h2 => ?_⟩
  have := List.pairwise_iff_getElem.1 hq t (pos1 a c) h1 hj h2
  rw [he] at this
  have h6 : (c.take (pos1 a c) ++ [(⟨a,x⟩ : S83)] ++ c.drop (pos1 a c))[t].f0 < a := this
  omega
theorem cells_at (l : List S83) (a : Int) (x : List S87) (hl : l.length ≤ 1048576) (j : Nat) (hj : j < l.length) (h0 : l[j].f0 = a) (h1 : l[j].f1 = x) (hb : ∀ t (ht : t < l.length), t < j → l[t].f0 ≠ a) : ∀ d i k, i + d = j → d < k → impl_Machine_cells.l0 k l a (i : Int) = some x := by
 intro d
 induction d with
  | zero =>
  intro i k hd hk
  obtain ⟨k,rfl⟩ : ∃ z,k = z + 1 := ⟨k - 1,by omega⟩
  obtain rfl : i = j := by omega
  simp only [impl_Machine_cells.l0]
  rw [if_pos (by omega),if_pos (by omega),rd83_get hj,if_pos h0,h1]
  | succ d ih =>
  intro i k hd hk
  obtain ⟨k,rfl⟩ : ∃ z,k = z + 1 := ⟨k - 1,by omega⟩
  have := ih (i + 1) k (by omega) (by omega)
  rw [show ((i + 1 : Nat) : Int) = (i : Int) + 1 from by omega] at this
  simp only [impl_Machine_cells.l0]
  rw [if_pos (by omega),if_pos (by omega),rd83_get (show i < l.length by omega),if_neg (hb i (by omega) (by omega)),wrap_of (by omega) (by omega)]
  exact this
theorem idx_hit {α : Type} (p : α → Bool) : ∀ (l : List α) (i : Nat), (∃ x ∈ l, p x = true) → ∃ (j : Nat) (hj : j < l.length), idxFrom (fun x => some (p x)) l i = some ((i + j : Nat) : Int) ∧ p l[j] = true
  | [], _, h => by obtain ⟨x, hx, _⟩ := h; simp at hx
  | x :: l, i, h => by
    simp only [idxFrom,Option.bind_some]
    by_cases e : p x = true
    ·exact ⟨0,by simp,by rw [if_pos e];rfl,e⟩
    ·obtain ⟨y,hy,hp⟩ := h
     rcases List.mem_cons.1 hy with rfl | hy
     ·exact absurd hp e
     ·obtain ⟨j,hj,h1,h2⟩ := idx_hit p l (i + 1) ⟨y,hy,hp⟩
      exact ⟨j + 1,by simp;omega,by rw [if_neg e,h1];congr 2;omega,h2⟩
theorem okR_id {x : S50} (h : okR x = true) : 1 ≤ x.f1 ∧ x.f1 ≤ 1000000 := by
 simp only [okR,Bool.and_eq_true,decide_eq_true_eq] at h
 exact h.2.1
theorem law_rpl : RPL := by
 intro b c r ids a x h1 h2 h3 h4
 obtain ⟨k,hk⟩ : ∃ k,20000000 < k := ⟨_,Nat.lt_succ_self _⟩
 have hc : c.length ≤ 1048576 := by have := h1.1;omega
 have hcm : ∀ x ∈ c,x.f1.length ≤ 1048576 := fun x hx => by have := h1.2 x hx;omega
 have hr : r.length ≤ 1048576 := by have := h2.1;omega
 have hrm : ∀ x ∈ r,x.f3.length ≤ 1048576 := fun x hx => by have := h2.2 x hx;omega
 have hi : ids.length ≤ 1048576 := by omega
 have hx : x.length ≤ 1048576 := by omega
 obtain ⟨v,e1,e2,e3⟩ := machine_ok b c r ids hc hcm hr hrm hi k hk
 obtain ⟨c1,c2⟩ := copy_both b c r ids hc hcm hr hrm hi k hk
 have i1 : spec_l1Region.f a = some (decide (0 ≤ a ∧ a ≤ 5)) := by simp only [spec_l1Region.f,in_,Option.bind_some]
 have i2 : impl_isRegion.f a = some (decide (0 ≤ a ∧ a ≤ 5)) := by simp only [impl_isRegion.f,within_,Option.bind_some]
 have no : laws_likeMachine.f k false [] [] [] false [] [] [] = some true := likeM_ok false [] [] [] (by simp) (fun x h => by simp at h) (by simp) (fun x h => by simp at h) (by simp) k hk
 refine ⟨k,?_⟩
 simp only [spec_Replace.f,impl_Replace.f,e1,e2,i1,i2,spec_cells x hx k (by omega),impl_cells,Option.bind_some]
 cases v
 ·exact ⟨false,[],[],[],false,by simp,by simp,no,by simp⟩
 ·rw [if_pos rfl,if_pos rfl]
  cases hid : decide (0 ≤ a ∧ a ≤ 5)
  ·exact ⟨false,[],[],[],false,by simp,by simp,no,by simp⟩
  ·rw [if_pos rfl,if_pos rfl]
   cases hok : okCs x
   ·exact ⟨false,[],[],[],false,by simp,by simp,no,by simp⟩
   ·obtain ⟨g1,g2,g3,g4,g5,g6⟩ := e3 rfl
    obtain ⟨q1,q2⟩ := replace_both b c r ids a x hc g1 hx k hk
    obtain ⟨p1,p2,j,hj,p3,p4,p5⟩ := put_cps c a x g1 (by simpa using hid) hok
    rw [if_pos rfl,if_pos rfl,c1,c2,(copy3 x hx).1]
    simp only [Option.bind_some,q1,q2]
    have hqm : ∀ y ∈ putC a x c,y.f1.length ≤ 1048576 := fun y hy => by
     obtain ⟨i,hi,rfl⟩ := List.getElem_of_mem hy
     have := okCs_len (cps_all _ _ 0 (by omega) p1 i hi (by omega)).2
     omega
    have hm := machine_val b (putC a x c) r ids (by omega) hqm hr hrm hi (by omega) g3 g4 g5 p1 g6 k hk
    have F := cells_at (putC a x c) a x (by omega) j hj p3 p4 p5 j 0 k (by omega) (by omega)
    rw [show ((0 : Nat) : Int) = 0 from rfl] at F
    have h6 := okCs_len hok
    refine ⟨b,putC a x c,r,ids,true,rfl,rfl,likeM_ok b _ r ids (by omega) hqm hr hrm hi k hk,fun _ => ⟨x,?_,likeCells_ok x (by omega) k (by omega),?_⟩⟩
    ·simp only [impl_Copied.f,impl_Machine_cells.f,hm,F,Option.bind_some,(copy3 x hx).2,if_true]
     rw [decide_eq_true (by omega)]
    ·simp only [impl_MachineOk.f,hm,Option.bind_some]
theorem law_apd : APD := by
 intro b c r ids f0 f1 f2 ys h1 h2 h3 h4
 obtain ⟨k,hk⟩ : ∃ k,20000000 < k := ⟨_,Nat.lt_succ_self _⟩
 have hc : c.length ≤ 1048576 := by have := h1.1;omega
 have hcm : ∀ x ∈ c,x.f1.length ≤ 1048576 := fun x hx => by have := h1.2 x hx;omega
 have hr : r.length ≤ 1048576 := by have := h2.1;omega
 have hrm : ∀ x ∈ r,x.f3.length ≤ 1048576 := fun x hx => by have := h2.2 x hx;omega
 have hi : ids.length ≤ 1048576 := by omega
 obtain ⟨x,hxe⟩ : ∃ x : S50,x = ⟨f0,f1,f2,ys⟩ := ⟨_,rfl⟩
 have hx : x.f3.length ≤ 1048576 := by rw [hxe];show ys.length ≤ _;omega
 have y0 : f0 = x.f0 := by rw [hxe]
 have y1 : f1 = x.f1 := by rw [hxe]
 have y2 : f2 = x.f2 := by rw [hxe]
 have y3 : ys = x.f3 := by rw [hxe]
 rw [y0,y1,y2,y3]
 clear y0 y1 y2 y3 hxe
 obtain ⟨v,e1,e2,e3⟩ := machine_ok b c r ids hc hcm hr hrm hi k hk
 obtain ⟨c1,c2⟩ := copy_both b c r ids hc hcm hr hrm hi k hk
 obtain ⟨r1,r2⟩ := record_val x hx k (by omega)
 obtain ⟨d1,d2⟩ := copyRec x hx
 have no : laws_likeMachine.f k false [] [] [] false [] [] [] = some true := likeM_ok false [] [] [] (by simp) (fun x h => by simp at h) (by simp) (fun x h => by simp at h) (by simp) k hk
 refine ⟨k,?_⟩
 simp only [spec_Append.f,impl_Append.f,impl_Machine_append.f,e1,e2,r1,r2,c1,c2,d1,d2,Option.bind_some]
 cases v
 ·exact ⟨false,[],[],[],false,by simp,by simp,no,fun _ => no,by simp⟩
 ·cases hok : okR x
  ·exact ⟨false,[],[],[],false,by simp,by simp,no,fun _ => no,by simp⟩
  ·by_cases h : (r.length : Int) = 200
   ·exact ⟨false,[],[],[],false,by simp [h],by simp [h],no,fun _ => no,by simp⟩
   ·obtain ⟨g1,g2,g3,g4,g5,g6⟩ := e3 rfl
    rw [if_pos rfl,if_pos rfl,if_neg h,if_pos rfl,if_pos rfl,if_neg h,if_pos (by omega)]
    have hl2 : (r ++ [x]).length = r.length + 1 := by simp
    have hr2 : (r ++ [x]).length ≤ 1048576 := by omega
    have hrm2 : ∀ y ∈ r ++ [x],y.f3.length ≤ 1048576 := fun y hy => by
     rcases List.mem_append.1 hy with h2 | h2
     ·exact hrm y h2
     ·rw [List.mem_singleton.1 h2];exact hx
    have hm := machine_val b c (r ++ [x]) ids hc hcm hr2 hrm2 hi g2 (by omega) g4 g5 g1 (by rw [List.all_append,g6];simp [hok]) k hk
    obtain ⟨j,hj,F1,F2⟩ := idx_hit (fun y : S50 => (y.f1 == x.f1) && ((y.f2 == x.f2) && (y.f0 == x.f0))) (r ++ [x]) 0 ⟨x,by simp,by simp⟩
    have F3 : (r ++ [x])[j].f1 = x.f1 := by
     simp only [Bool.and_eq_true,beq_iff_eq] at F2
     exact F2.1
    obtain ⟨_,D2⟩ := copyRec (r ++ [x])[j] (hrm2 _ (List.getElem_mem hj))
    obtain ⟨m,_,_,_,m4⟩ := search_from ids x.f1 (by omega) (ids_sorted ids g5) ids.length 0 ids.length k (by omega) (by omega) (by omega) (by omega) (fun t _ h => by omega) (fun t h1 h2 => by omega)
    have hb : slices_BinarySearch_int64_int64.f k ids x.f1 = some ((m : Int),decide (x.f1 ∈ ids)) := by unfold slices_BinarySearch_int64_int64.f;exact m4
    have hid : impl_isId.f x.f1 = some true := by
     simp only [impl_isId.f,within_,Option.bind_some]
     rw [decide_eq_true (okR_id hok)]
    have hr3 : ((r ++ [x]).filter fun y => !hits x.f1 x.f2 y).length ≤ 1048576 := Nat.le_trans (List.length_filter_le _ _) hr2
    have hrm3 : ∀ y ∈ (r ++ [x]).filter fun y => !hits x.f1 x.f2 y,y.f3.length ≤ 1048576 := fun y hy => hrm2 y (List.mem_filter.1 hy).1
    refine ⟨b,c,r ++ [x],ids,true,rfl,by rw [if_pos (by omega)];rfl,likeM_ok b c _ ids hc hcm hr2 hrm2 hi k hk,by simp,fun _ => ⟨(r ++ [x])[j].f0,(r ++ [x])[j].f2,(r ++ [x])[j].f3,?_,b,c,(r ++ [x]).filter fun y => !hits x.f1 x.f2 y,ids,?_,logged_none b c _ ids x.f1 x.f2 x.f0 hc hcm hr3 hrm3 hi (fun y hy => ?_) k hk,by omega,?_,likeInts_ok ids (by omega) k (by omega)⟩⟩
    ·simp only [impl_Logged.f,impl_Machine_logged.f,hm,F1,Option.bind_some,if_true]
     rw [if_neg (by omega),if_pos (by omega),show ((0 + j : Nat) : Int) = (j : Int) from by omega,rd50_get hj,D2,Option.bind_some,F3]
    ·simp only [impl_Clear.f,impl_Machine_clear.f,hm,hid,hb,(copy_both b c (r ++ [x]) ids hc hcm hr2 hrm2 hi k hk).2,Option.bind_some,if_true]
     simp
    ·have := (List.mem_filter.1 hy).2
     intro e
     simp [hits,e.1,e.2.1] at this
    ·simp only [impl_MachineOk.f,hm,Option.bind_some]
theorem law_rec : RECOK := fun f0 f1 f2 ys h => ⟨100, _, (record_val ⟨f0, f1, f2, ys⟩ (show ys.length ≤ 1048576 by omega) 100 (show 2 * ys.length + 2 < 100 by omega)).1⟩
/-! ### laws_FnMachines: function 4 -/
theorem hold_4 {p : Prop} (h : Aside0 p) : p := h.out
def laws_FnMachines.f (l0 : List Int) : Option (Bool) := some true
set_option maxHeartbeats 8000000 in
set_option maxRecDepth 100000 in
theorem laws_FnMachines.calls (A0 : Option Addr) (c0 : Nat) (l0 : List Int) (r : Bool) (w : World) (hr0 : Kd.C (Kd.int .u8) w A0 l0.length l0) (hc0 : l0.length ≤ c0) (h : laws_FnMachines.f l0 = some r) :
    Calls Tryz.prog 4 #[.slice A0 l0.length c0] w fun e w' => e = .returned (.bool r) ∧ Below w.heap.size w w' := by
 have hu := Tryz.underlying31
 have hu2 := Tryz.underlying50
 obtain rfl := Option.some.inj h
 clear h
 have HCc := ak hc0
 have HC := ak hr0
 have PR := ak law_rpl
 have PA := ak law_apd
 have G := ak (Below.refl w.heap.size w)
 clear hr0 hc0
 go_enter Tryz.func4,Tryz.ntmps4
 obtain ⟨bg,hbg⟩ : ∃ z_ : Bool,z_ = decide ((l0.length : Int) > 4096) := ⟨_,rfl⟩
 have HG := ak hbg
 clear hbg
 go_wp2_with (go_at_call 12;refine (laws_big.calls A0 c0 l0 bg _ HC.out HCc.out (by rw [HG.out];rfl)).mono ?_;rintro e w1 ⟨rfl,B0⟩;(try dsimp only);refine hold_4 ?_)
 refine ⟨?_⟩
 have B := B0.below
 have HC := ak (Kd.C_below HC.out B)
 have G := ak (below_step G.out B)
 clear B
 clear B0
 cases bg
 rotate_left
 ·go_wp2
  go_ret
  exact ⟨rfl,G.out⟩
 have HLM : Aside0 (l0.length ≤ maxLen) := ⟨by unfold maxLen;have := of_decide_eq_false HG.out.symm;omega⟩
 clear HG
 go_wp2_with ((with_reducible refine gcal_ (f := 13) rfl ?_);refine gz_ (some 28) Tryz.func13 #[.slice A0 l0.length c0] ?_;refine (drawReplace_any law_rec HLM.out HC.out HCc.out).mono ?_;rintro e w2 ⟨b,Am1,cm1,l1,Am2,cm2,l2,Am3,cm3,l3,rr,A4,c4,cs,rfl,hm,hq,B⟩;refine ⟨_,rfl,?_⟩;refine hold_4 ?_)
 refine ⟨?_⟩
 have HC := ak (Kd.C_below HC.out B)
 have G := ak (below_step G.out B)
 clear B
 have Mm := ak hm.mc
 have CS := ak hq.1
 have CC := ak hq.2.1
 obtain ⟨k,vb,v1,v2,v3,v4,F1_,F2_,F3_,F4_⟩ := PR.out b l1 l2 l3 rr cs hm.2.2.2.1 hm.2.2.2.2.1 hm.2.2.2.2.2 hq.2.2
 have F1 := ak F1_
 have F2 := ak F2_
 have F3 := ak F3_
 have F4 := ak F4_
 clear hm hq PR F1_ F2_ F3_ F4_
 go_wp2_with ((with_reducible refine gate_dst (N := 3) rfl ?_);refine bx_ 3 #[.bool false,.slice none 0 0,.slice none 0 0,.slice none 0 0] 31 ?_;intro gm hg w3a hbox hb;have hge := ak (Nat.le_of_eq hg.symm);clear hg;refine hold_4 ?_)
 refine ⟨?_⟩
 have BZ := ak hbox
 have Q0 := ak hb
 have HGE := hge
 clear hbox hb hge
 obtain ⟨⟨hcgmy_0, hcgmy_1, hcgmy_2, hcgmy_3⟩, hfy_0, hfy_1, hfy_2, hfy_3⟩ := cl4_ BZ.out
 go_upto_region 4 with (fail)
 obtain ⟨n0_, n1_⟩ := fl4_ Q0.out HGE.out BZ.out (.bool b) (.slice Am1 l1.length cm1) (.slice Am2 l2.length cm2) (.slice Am3 l3.length cm3)
 clear BZ Q0
 clear hcgmy_0 hfy_0 hcgmy_1 hfy_1 hcgmy_2 hfy_2 hcgmy_3 hfy_3
 generalize ((((w3a.setCell ⟨gm,0,none⟩ (.bool b)).setCell ⟨gm,1,none⟩ (.slice Am1 l1.length cm1)).setCell ⟨gm,2,none⟩ (.slice Am2 l2.length cm2)).setCell ⟨gm,3,none⟩ (.slice Am3 l3.length cm3)) = w3 at n0_ n1_ ⊢
 have B := n0_.out
 have Bm := n1_
 clear n0_ n1_
 have Mm := ak (Mm.out.below B)
 have HC := ak (Kd.C_below HC.out B)
 have CS := ak (Kd.C_below CS.out B)
 have G := ak (below_step G.out B)
 clear B
 obtain ⟨⟨hc1_0,hc1_1,hc1_2,hc1_3⟩,hf1_0,hf1_1,hf1_2,hf1_3⟩ := cl4_ Bm.out
 go_wp2_with ((with_reducible refine gcal_ (f := 14) rfl ?_);refine gz_ (some 36) Tryz.func14 #[.agg #[.bool b,.slice Am1 l1.length cm1,.slice Am2 l2.length cm2,.slice Am3 l3.length cm3],.int .i64 rr,.slice A4 cs.length c4] ?_;refine (impl_Replace.calls k b Am1 cm1 l1 Am2 cm2 l2 Am3 cm3 l3 rr A4 c4 cs vb v1 v2 v3 v4 _ Mm.out.1.1 Mm.out.1.2 Mm.out.2.1.1 Mm.out.2.1.2 Mm.out.2.2.1 Mm.out.2.2.2 CS.out CC.out F2.out).mono ?_;rintro e w4 ⟨vx1,vx2,vx3,rfl,S1,S2,S3,B⟩;refine ⟨_,rfl,?_⟩;refine hold_4 ?_)
 refine ⟨?_⟩
 have Mm := ak (Mm.out.below B)
 have Bm := ak (blk_below Bm.out B)
 have HC := ak (Kd.C_below HC.out B)
 have CS := ak (Kd.C_below CS.out B)
 have G := ak (below_step G.out B)
 clear B
 obtain ⟨Ax1,cx1,ex1_⟩ := Kd.S_slice S1
 subst ex1_
 obtain ⟨Ax2,cx2,ex2_⟩ := Kd.S_slice S2
 subst ex2_
 obtain ⟨Ax3,cx3,ex3_⟩ := Kd.R_slice S3
 subst ex3_
 have Mx := ak (Mc.of S1 S2 S3)
 clear S1 S2 S3
 go_wp2_with ((with_reducible refine gate_dst (N := 6) rfl ?_);refine bx_ 6 #[.bool false,.slice none 0 0,.slice none 0 0,.slice none 0 0] 31 ?_;intro gx hg w5a hbox hb;have hge := ak (Nat.le_of_eq hg.symm);clear hg;refine hold_4 ?_)
 refine ⟨?_⟩
 have BZ := ak hbox
 have Q0 := ak hb
 have HGE := hge
 clear hbox hb hge
 obtain ⟨⟨hcgxy_0, hcgxy_1, hcgxy_2, hcgxy_3⟩, hfy_0, hfy_1, hfy_2, hfy_3⟩ := cl4_ BZ.out
 go_upto_region 5 with (fail)
 obtain ⟨n0_, n1_⟩ := fl4_ Q0.out HGE.out BZ.out (.bool vb) (.slice Ax1 v1.length cx1) (.slice Ax2 v2.length cx2) (.slice Ax3 v3.length cx3)
 clear BZ Q0
 clear hcgxy_0 hfy_0 hcgxy_1 hfy_1 hcgxy_2 hfy_2 hcgxy_3 hfy_3
 generalize ((((w5a.setCell ⟨gx,0,none⟩ (.bool vb)).setCell ⟨gx,1,none⟩ (.slice Ax1 v1.length cx1)).setCell ⟨gx,2,none⟩ (.slice Ax2 v2.length cx2)).setCell ⟨gx,3,none⟩ (.slice Ax3 v3.length cx3)) = w5 at n0_ n1_ ⊢
 have B := n0_.out
 have Bx := n1_
 clear n0_ n1_
 have Mm := ak (Mm.out.below B)
 have Mx := ak (Mx.out.below B)
 have Bm := ak (blk_below Bm.out B)
 have HC := ak (Kd.C_below HC.out B)
 have CS := ak (Kd.C_below CS.out B)
 have G := ak (below_step G.out B)
 clear B
 obtain ⟨⟨hc2_0,hc2_1,hc2_2,hc2_3⟩,hf2_0,hf2_1,hf2_2,hf2_3⟩ := cl4_ Bm.out
 go_wp2_with ((with_reducible refine gcal_ (f := 15) rfl ?_);refine gz_ (some 43) Tryz.func15 #[.agg #[.bool b,.slice Am1 l1.length cm1,.slice Am2 l2.length cm2,.slice Am3 l3.length cm3],.int .i64 rr,.slice A4 cs.length c4] ?_;refine (spec_Replace.calls k b Am1 cm1 l1 Am2 cm2 l2 Am3 cm3 l3 rr A4 c4 cs vb v1 v2 v3 v4 _ Mm.out.1.1 Mm.out.1.2 Mm.out.2.1.1 Mm.out.2.1.2 Mm.out.2.2.1 Mm.out.2.2.2 CS.out CC.out F1.out).mono ?_;rintro e w6 ⟨vy1,vy2,vy3,rfl,S1,S2,S3,B⟩;refine ⟨_,rfl,?_⟩;refine hold_4 ?_)
 refine ⟨?_⟩
 have Mm := ak (Mm.out.below B)
 have Mx := ak (Mx.out.below B)
 have Bm := ak (blk_below Bm.out B)
 have Bx := ak (blk_below Bx.out B)
 have HC := ak (Kd.C_below HC.out B)
 have CS := ak (Kd.C_below CS.out B)
 have G := ak (below_step G.out B)
 clear B
 obtain ⟨Ay1,cy1,ey1_⟩ := Kd.S_slice S1
 subst ey1_
 obtain ⟨Ay2,cy2,ey2_⟩ := Kd.S_slice S2
 subst ey2_
 obtain ⟨Ay3,cy3,ey3_⟩ := Kd.R_slice S3
 subst ey3_
 have My := ak (Mc.of S1 S2 S3)
 clear S1 S2 S3
 clear Mm Bm
 go_wp2_with ((with_reducible refine gate_dst (N := 8) rfl ?_);refine bx_ 8 #[.bool false,.slice none 0 0,.slice none 0 0,.slice none 0 0] 31 ?_;intro gy hg w7a hbox hb;have hge := ak (Nat.le_of_eq hg.symm);clear hg;refine hold_4 ?_)
 refine ⟨?_⟩
 have BZ := ak hbox
 have Q0 := ak hb
 have HGE := hge
 clear hbox hb hge
 obtain ⟨⟨hcgyy_0, hcgyy_1, hcgyy_2, hcgyy_3⟩, hfy_0, hfy_1, hfy_2, hfy_3⟩ := cl4_ BZ.out
 go_upto_region 6 with (fail)
 obtain ⟨n0_, n1_⟩ := fl4_ Q0.out HGE.out BZ.out (.bool vb) (.slice Ay1 v1.length cy1) (.slice Ay2 v2.length cy2) (.slice Ay3 v3.length cy3)
 clear BZ Q0
 clear hcgyy_0 hfy_0 hcgyy_1 hfy_1 hcgyy_2 hfy_2 hcgyy_3 hfy_3
 generalize ((((w7a.setCell ⟨gy,0,none⟩ (.bool vb)).setCell ⟨gy,1,none⟩ (.slice Ay1 v1.length cy1)).setCell ⟨gy,2,none⟩ (.slice Ay2 v2.length cy2)).setCell ⟨gy,3,none⟩ (.slice Ay3 v3.length cy3)) = w7 at n0_ n1_ ⊢
 have B := n0_.out
 have By := n1_
 clear n0_ n1_
 have Mx := ak (Mx.out.below B)
 have My := ak (My.out.below B)
 have Bx := ak (blk_below Bx.out B)
 have HC := ak (Kd.C_below HC.out B)
 have CS := ak (Kd.C_below CS.out B)
 have G := ak (below_step G.out B)
 clear B
 obtain ⟨⟨hc3_0,hc3_1,hc3_2,hc3_3⟩,hf3_0,hf3_1,hf3_2,hf3_3⟩ := cl4_ Bx.out
 obtain ⟨⟨hc4_0,hc4_1,hc4_2,hc4_3⟩,hf4_0,hf4_1,hf4_2,hf4_3⟩ := cl4_ By.out
 have hvv : (v4 != v4) = false := by cases v4 <;> rfl
 go_wp2_with (go_at_call 16;refine (laws_likeMachine.calls k vb Ax1 cx1 v1 Ax2 cx2 v2 Ax3 cx3 v3 vb Ay1 cy1 v1 Ay2 cy2 v2 Ay3 cy3 v3 true _ Mx.out.1.1 Mx.out.1.2 Mx.out.2.1.1 Mx.out.2.1.2 Mx.out.2.2.1 Mx.out.2.2.2 My.out.1.1 My.out.1.2 My.out.2.1.1 My.out.2.1.2 My.out.2.2.1 My.out.2.2.2 F3.out).mono ?_;rintro e w8 ⟨rfl,B⟩;(try dsimp only);refine hold_4 ?_)
 refine ⟨?_⟩
 have Mx := ak (Mx.out.below B)
 have My := ak (My.out.below B)
 have Bx := ak (blk_below Bx.out B)
 have By := ak (blk_below By.out B)
 have HC := ak (Kd.C_below HC.out B)
 have CS := ak (Kd.C_below CS.out B)
 have G := ak (below_step G.out B)
 clear B
 clear My By
 clear F1 F2 F3
 go_upto_if 55 with (fail)
 clear hvv
 go_cut [11] (fun v11 wc => Aside0 (Kd.C (Kd.int .u8) wc A0 l0.length l0) ∧ Aside0 (Below w.heap.size w wc))
 case first =>
  cases v4 with
    | false =>
   go_wp2
   go_meet
   case rel => exact ⟨HC,G⟩
    | true =>
   obtain ⟨g_,P1_,P2_,P3_⟩ := F4.out rfl
   have P1 := ak P1_
   have P2 := ak P2_
   have P3 := ak P3_
   clear P1_ P2_ P3_ F4
   obtain ⟨⟨hc5_0,hc5_1,hc5_2,hc5_3⟩,hf5_0,hf5_1,hf5_2,hf5_3⟩ := cl4_ Bx.out
   go_wp2_with ((with_reducible refine gcal_ (f := 17) rfl ?_);refine gz_ (some 59) Tryz.func17 #[.agg #[.bool vb,.slice Ax1 v1.length cx1,.slice Ax2 v2.length cx2,.slice Ax3 v3.length cx3],.int .i64 rr] ?_;refine (impl_Copied.calls k vb Ax1 cx1 v1 Ax2 cx2 v2 Ax3 cx3 v3 rr g_ true _ Mx.out.1.1 Mx.out.1.2 Mx.out.2.1.1 Mx.out.2.1.2 Mx.out.2.2.1 Mx.out.2.2.2 P1.out).mono ?_;rintro e w9 ⟨vg,rfl,S,B⟩;refine ⟨_,rfl,?_⟩;refine hold_4 ?_)
   refine ⟨?_⟩
   have Mx := ak (Mx.out.below B)
   have Bx := ak (blk_below Bx.out B)
   have HC := ak (Kd.C_below HC.out B)
   have CS := ak (Kd.C_below CS.out B)
   have G := ak (below_step G.out B)
   clear B
   obtain ⟨Ag,cg,eg_⟩ := Kd.R_slice S
   subst eg_
   have CG := ak (Kd.R_reads' S).2.2
   have CL := ak (Kd.R_reads' S).2.1
   clear S
   obtain ⟨⟨hc6_0,hc6_1,hc6_2,hc6_3⟩,hf6_0,hf6_1,hf6_2,hf6_3⟩ := cl4_ Bx.out
   go_wp2_with (go_at_call 18;refine (laws_likeCells.calls k Ag cg g_ A4 c4 cs true _ CG.out CL.out CS.out CC.out P2.out).mono ?_;rintro e w10 ⟨rfl,B0⟩;(try dsimp only);refine hold_4 ?_)
   refine ⟨?_⟩
   have B := B0.below
   have Mx := ak (Mx.out.below B)
   have Bx := ak (blk_below Bx.out B)
   have HC := ak (Kd.C_below HC.out B)
   have CS := ak (Kd.C_below CS.out B)
   have CG := ak (Kd.C_below CG.out B)
   have G := ak (below_step G.out B)
   clear B
   clear B0
   obtain ⟨⟨hc7_0,hc7_1,hc7_2,hc7_3⟩,hf7_0,hf7_1,hf7_2,hf7_3⟩ := cl4_ Bx.out
   go_wp2_with (go_at_call 19;refine (impl_MachineOk.calls k vb Ax1 cx1 v1 Ax2 cx2 v2 Ax3 cx3 v3 true _ Mx.out.1.1 Mx.out.1.2 Mx.out.2.1.1 Mx.out.2.1.2 Mx.out.2.2.1 Mx.out.2.2.2 P3.out).mono ?_;rintro e w11 ⟨rfl,B⟩;(try dsimp only);refine hold_4 ?_)
   refine ⟨?_⟩
   have Mx := ak (Mx.out.below B)
   have Bx := ak (blk_below Bx.out B)
   have HC := ak (Kd.C_below HC.out B)
   have CS := ak (Kd.C_below CS.out B)
   have CG := ak (Kd.C_below CG.out B)
   have G := ak (below_step G.out B)
   clear B
   go_wp2
   go_meet
   case rel => exact ⟨HC,G⟩
 case rest =>
  obtain ⟨HC,G⟩ := hcut
  clear Mx Bx CS CC F4
  go_wp2_with ((with_reducible refine gcal_ (f := 20) rfl ?_);refine gz_ (some 77) Tryz.func20 #[.slice A0 l0.length c0] ?_;refine (drawAppend_any law_rec HLM.out HC.out HCc.out).mono ?_;rintro e w9 ⟨nb,An1,cn1,o1,An2,cn2,o2,An3,cn3,o3,f0,f1,f2,A4,c4,ys,rfl,hm,hq,B⟩;refine ⟨_,rfl,?_⟩;refine hold_4 ?_)
  refine ⟨?_⟩
  have G := ak (below_step G.out B)
  clear B HC
  have Mn := ak hm.mc
  have CS := ak hq.1
  have CC := ak hq.2.1
  have H250 := ak hm.2.2.2.2.1.1
  obtain ⟨k,ub,u1,u2,u3,u4,E1_,E2_,E3_,E4_,E5_⟩ := PA.out nb o1 o2 o3 f0 f1 f2 ys hm.2.2.2.1 hm.2.2.2.2.1 hm.2.2.2.2.2 hq.2.2
  have E1 := ak E1_
  have E2 := ak E2_
  have E3 := ak E3_
  have E4 := ak E4_
  have E5 := ak E5_
  clear hm hq PA E1_ E2_ E3_ E4_ E5_
  go_wp2_with ((with_reducible refine gate_dst (N := 12) rfl ?_);refine bx_ 12 #[.bool false,.slice none 0 0,.slice none 0 0,.slice none 0 0] 31 ?_;intro gn hg w10a hbox hb;have hge := ak (Nat.le_of_eq hg.symm);clear hg;refine hold_4 ?_)
  refine ⟨?_⟩
  have BZ := ak hbox
  have Q0 := ak hb
  have HGE := hge
  clear hbox hb hge
  go_wp2_with ((with_reducible refine gate_dst (N := 13) rfl ?_);refine bx_ 13 #[.int .i64 0,.int .i64 0,.int .i64 0,.slice none 0 0] 50 ?_;intro ge hg w10b hbox hb;have hge := ak (Nat.le_of_eq hg.symm);clear hg;refine hold_4 ?_)
  refine ⟨?_⟩
  have BY := ak hbox
  have NZ : Aside0 (gn ≠ ge) := ⟨Nat.ne_of_lt (Nat.lt_of_lt_of_le (blk_lt BZ.out) hge.out)⟩
  have BZ := ak (blk_below BZ.out hb)
  have HGY : Aside0 (w9.heap.size ≤ ge) := ⟨Nat.le_trans Q0.out.size hge.out⟩
  have Q0 := ak (below_step Q0.out hb)
  clear hbox hb hge
  obtain ⟨⟨hc8_0,hc8_1,hc8_2,hc8_3⟩,hf8_0,hf8_1,hf8_2,hf8_3⟩ := cl4_ BZ.out
  obtain ⟨⟨hc9_0,hc9_1,hc9_2,hc9_3⟩,hf9_0,hf9_1,hf9_2,hf9_3⟩ := cl4_ BY.out
  have hnz := NZ.out
  have hnz' := NZ.out.symm
  go_upto_region 13 with (fail)
  obtain ⟨n0_,n1_⟩ := fl4_ Q0.out HGE.out BZ.out (.bool nb) (.slice An1 o1.length cn1) (.slice An2 o2.length cn2) (.slice An3 o3.length cn3)
  have n2_ := ak (blk_kept BY.out (kept4_ (W := w10b) (b := gn) (.bool nb) (.slice An1 o1.length cn1) (.slice An2 o2.length cn2) (.slice An3 o3.length cn3)) hnz')
  obtain ⟨n3_,n4_⟩ := fl4_ n0_.out HGY.out n2_.out (.int .i64 f0) (.int .i64 f1) (.int .i64 f2) (.slice A4 ys.length c4)
  have n5_ := ak (blk_kept n1_.out (kept4_ (b := ge) (.int .i64 f0) (.int .i64 f1) (.int .i64 f2) (.slice A4 ys.length c4)) hnz)
  clear n0_ n1_ n2_ BZ BY Q0 hnz hnz' hc8_0 hf8_0 hc8_1 hf8_1 hc8_2 hf8_2 hc8_3 hf8_3 hc9_0 hf9_0 hc9_1 hf9_1 hc9_2 hf9_2 hc9_3 hf9_3
  generalize ((((((((w10b.setCell ⟨gn,0,none⟩ (.bool nb)).setCell ⟨gn,1,none⟩ (.slice An1 o1.length cn1)).setCell ⟨gn,2,none⟩ (.slice An2 o2.length cn2)).setCell ⟨gn,3,none⟩ (.slice An3 o3.length cn3)).setCell ⟨ge,0,none⟩ (.int .i64 f0)).setCell ⟨ge,1,none⟩ (.int .i64 f1)).setCell ⟨ge,2,none⟩ (.int .i64 f2)).setCell ⟨ge,3,none⟩ (.slice A4 ys.length c4)) = w10 at n3_ n4_ n5_ ⊢
  have B := n3_.out
  have Be := n4_
  have Bn := n5_
  clear n3_ n4_ n5_
  have Mn := ak (Mn.out.below B)
  have CS := ak (Kd.C_below CS.out B)
  have G := ak (below_step G.out B)
  clear B
  obtain ⟨⟨hc10_0,hc10_1,hc10_2,hc10_3⟩,hf10_0,hf10_1,hf10_2,hf10_3⟩ := cl4_ Bn.out
  obtain ⟨⟨hc11_0,hc11_1,hc11_2,hc11_3⟩,hf11_0,hf11_1,hf11_2,hf11_3⟩ := cl4_ Be.out
  go_wp2_with ((with_reducible refine gcal_ (f := 21) rfl ?_);refine gz_ (some 83) Tryz.func21 #[.agg #[.bool nb,.slice An1 o1.length cn1,.slice An2 o2.length cn2,.slice An3 o3.length cn3],.agg #[.int .i64 f0,.int .i64 f1,.int .i64 f2,.slice A4 ys.length c4]] ?_;refine (impl_Append.calls k nb An1 cn1 o1 An2 cn2 o2 An3 cn3 o3 f0 f1 f2 A4 c4 ys ub u1 u2 u3 u4 _ Mn.out.1.1 Mn.out.1.2 Mn.out.2.1.1 Mn.out.2.1.2 Mn.out.2.2.1 Mn.out.2.2.2 CS.out CC.out E2.out).mono ?_;rintro e w11 ⟨vz1,vz2,vz3,rfl,S1,S2,S3,B⟩;refine ⟨_,rfl,?_⟩;refine hold_4 ?_)
  refine ⟨?_⟩
  have Mn := ak (Mn.out.below B)
  have Be := ak (blk_below Be.out B)
  have Bn := ak (blk_below Bn.out B)
  have CS := ak (Kd.C_below CS.out B)
  have G := ak (below_step G.out B)
  clear B
  obtain ⟨Az1,cz1,ez1_⟩ := Kd.S_slice S1
  subst ez1_
  obtain ⟨Az2,cz2,ez2_⟩ := Kd.S_slice S2
  subst ez2_
  obtain ⟨Az3,cz3,ez3_⟩ := Kd.R_slice S3
  subst ez3_
  have Mz := ak (Mc.of S1 S2 S3)
  clear S1 S2 S3
  go_wp2_with ((with_reducible refine gate_dst (N := 14) rfl ?_);refine bx_ 14 #[.bool false,.slice none 0 0,.slice none 0 0,.slice none 0 0] 31 ?_;intro gz hg w12a hbox hb;have hge := ak (Nat.le_of_eq hg.symm);clear hg;refine hold_4 ?_)
  refine ⟨?_⟩
  have BZ := ak hbox
  have Q0 := ak hb
  have HGE := hge
  clear hbox hb hge
  obtain ⟨⟨hcgzy_0, hcgzy_1, hcgzy_2, hcgzy_3⟩, hfy_0, hfy_1, hfy_2, hfy_3⟩ := cl4_ BZ.out
  go_upto_region 14 with (fail)
  obtain ⟨n0_, n1_⟩ := fl4_ Q0.out HGE.out BZ.out (.bool ub) (.slice Az1 u1.length cz1) (.slice Az2 u2.length cz2) (.slice Az3 u3.length cz3)
  clear BZ Q0
  clear hcgzy_0 hfy_0 hcgzy_1 hfy_1 hcgzy_2 hfy_2 hcgzy_3 hfy_3
  generalize ((((w12a.setCell ⟨gz,0,none⟩ (.bool ub)).setCell ⟨gz,1,none⟩ (.slice Az1 u1.length cz1)).setCell ⟨gz,2,none⟩ (.slice Az2 u2.length cz2)).setCell ⟨gz,3,none⟩ (.slice Az3 u3.length cz3)) = w12 at n0_ n1_ ⊢
  have B := n0_.out
  have Bz := n1_
  clear n0_ n1_
  have Mn := ak (Mn.out.below B)
  have Mz := ak (Mz.out.below B)
  have Be := ak (blk_below Be.out B)
  have Bn := ak (blk_below Bn.out B)
  have CS := ak (Kd.C_below CS.out B)
  have G := ak (below_step G.out B)
  clear B
  obtain ⟨⟨hc12_0,hc12_1,hc12_2,hc12_3⟩,hf12_0,hf12_1,hf12_2,hf12_3⟩ := cl4_ Bn.out
  obtain ⟨⟨hc13_0,hc13_1,hc13_2,hc13_3⟩,hf13_0,hf13_1,hf13_2,hf13_3⟩ := cl4_ Be.out
  go_wp2_with ((with_reducible refine gcal_ (f := 22) rfl ?_);refine gz_ (some 89) Tryz.func22 #[.agg #[.bool nb,.slice An1 o1.length cn1,.slice An2 o2.length cn2,.slice An3 o3.length cn3],.agg #[.int .i64 f0,.int .i64 f1,.int .i64 f2,.slice A4 ys.length c4]] ?_;refine (spec_Append.calls k nb An1 cn1 o1 An2 cn2 o2 An3 cn3 o3 f0 f1 f2 A4 c4 ys ub u1 u2 u3 u4 _ Mn.out.1.1 Mn.out.1.2 Mn.out.2.1.1 Mn.out.2.1.2 Mn.out.2.2.1 Mn.out.2.2.2 CS.out CC.out E1.out).mono ?_;rintro e w13 ⟨vq1,vq2,vq3,rfl,S1,S2,S3,B⟩;refine ⟨_,rfl,?_⟩;refine hold_4 ?_)
  refine ⟨?_⟩
  have Mn := ak (Mn.out.below B)
  have Mz := ak (Mz.out.below B)
  have Be := ak (blk_below Be.out B)
  have Bn := ak (blk_below Bn.out B)
  have Bz := ak (blk_below Bz.out B)
  have CS := ak (Kd.C_below CS.out B)
  have G := ak (below_step G.out B)
  clear B
  obtain ⟨Aq1,cq1,eq1_⟩ := Kd.S_slice S1
  subst eq1_
  obtain ⟨Aq2,cq2,eq2_⟩ := Kd.S_slice S2
  subst eq2_
  obtain ⟨Aq3,cq3,eq3_⟩ := Kd.R_slice S3
  subst eq3_
  have Mq := ak (Mc.of S1 S2 S3)
  clear S1 S2 S3
  clear CS CC
  go_wp2_with ((with_reducible refine gate_dst (N := 16) rfl ?_);refine bx_ 16 #[.bool false,.slice none 0 0,.slice none 0 0,.slice none 0 0] 31 ?_;intro gq hg w14a hbox hb;have hge := ak (Nat.le_of_eq hg.symm);clear hg;refine hold_4 ?_)
  refine ⟨?_⟩
  have BZ := ak hbox
  have Q0 := ak hb
  have HGE := hge
  clear hbox hb hge
  obtain ⟨⟨hcgqy_0, hcgqy_1, hcgqy_2, hcgqy_3⟩, hfy_0, hfy_1, hfy_2, hfy_3⟩ := cl4_ BZ.out
  go_upto_region 15 with (fail)
  obtain ⟨n0_, n1_⟩ := fl4_ Q0.out HGE.out BZ.out (.bool ub) (.slice Aq1 u1.length cq1) (.slice Aq2 u2.length cq2) (.slice Aq3 u3.length cq3)
  clear BZ Q0
  clear hcgqy_0 hfy_0 hcgqy_1 hfy_1 hcgqy_2 hfy_2 hcgqy_3 hfy_3
  generalize ((((w14a.setCell ⟨gq,0,none⟩ (.bool ub)).setCell ⟨gq,1,none⟩ (.slice Aq1 u1.length cq1)).setCell ⟨gq,2,none⟩ (.slice Aq2 u2.length cq2)).setCell ⟨gq,3,none⟩ (.slice Aq3 u3.length cq3)) = w14 at n0_ n1_ ⊢
  have B := n0_.out
  have Bq := n1_
  clear n0_ n1_
  have Mn := ak (Mn.out.below B)
  have Mz := ak (Mz.out.below B)
  have Mq := ak (Mq.out.below B)
  have Be := ak (blk_below Be.out B)
  have Bn := ak (blk_below Bn.out B)
  have Bz := ak (blk_below Bz.out B)
  have G := ak (below_step G.out B)
  clear B
  obtain ⟨⟨hc14_0,hc14_1,hc14_2,hc14_3⟩,hf14_0,hf14_1,hf14_2,hf14_3⟩ := cl4_ Bz.out
  obtain ⟨⟨hc15_0,hc15_1,hc15_2,hc15_3⟩,hf15_0,hf15_1,hf15_2,hf15_3⟩ := cl4_ Bq.out
  have hvv : (u4 != u4) = false := by cases u4 <;> rfl
  go_wp2_with (go_at_call 16;refine (laws_likeMachine.calls k ub Az1 cz1 u1 Az2 cz2 u2 Az3 cz3 u3 ub Aq1 cq1 u1 Aq2 cq2 u2 Aq3 cq3 u3 true _ Mz.out.1.1 Mz.out.1.2 Mz.out.2.1.1 Mz.out.2.1.2 Mz.out.2.2.1 Mz.out.2.2.2 Mq.out.1.1 Mq.out.1.2 Mq.out.2.1.1 Mq.out.2.1.2 Mq.out.2.2.1 Mq.out.2.2.2 E3.out).mono ?_;rintro e w15 ⟨rfl,B⟩;(try dsimp only);refine hold_4 ?_)
  refine ⟨?_⟩
  have Mn := ak (Mn.out.below B)
  have Mz := ak (Mz.out.below B)
  have Mq := ak (Mq.out.below B)
  have Be := ak (blk_below Be.out B)
  have Bn := ak (blk_below Bn.out B)
  have Bz := ak (blk_below Bz.out B)
  have Bq := ak (blk_below Bq.out B)
  have G := ak (below_step G.out B)
  clear B
  clear Mq Bq
  clear E1 E2 E3
  cases u4 with
    | false =>
   obtain ⟨⟨hc16_0,hc16_1,hc16_2,hc16_3⟩,hf16_0,hf16_1,hf16_2,hf16_3⟩ := cl4_ Bz.out
   go_wp2_with ((with_reducible refine gcal_ (f := 16) rfl ?_);refine gz_ (some 105) Tryz.func16 #[.agg #[.bool ub,.slice Az1 u1.length cz1,.slice Az2 u2.length cz2,.slice Az3 u3.length cz3],.agg #[.bool false,.slice none 0 0,.slice none 0 0,.slice none 0 0]] ?_;refine (laws_likeMachine.calls k ub Az1 cz1 u1 Az2 cz2 u2 Az3 cz3 u3 false none 0 [] none 0 [] none 0 [] true _ Mz.out.1.1 Mz.out.1.2 Mz.out.2.1.1 Mz.out.2.1.2 Mz.out.2.2.1 Mz.out.2.2.2 (Mc.nil _).1.1 (Nat.le_refl _) (Mc.nil _).2.1.1 (Nat.le_refl _) (Mc.nil _).2.2.1 (Nat.le_refl _) (E4.out rfl)).mono ?_;rintro e w16 ⟨rfl,B⟩;refine ⟨_,rfl,?_⟩;refine hold_4 ?_)
   refine ⟨?_⟩
   have Mn := ak (Mn.out.below B)
   have Mz := ak (Mz.out.below B)
   have Be := ak (blk_below Be.out B)
   have Bn := ak (blk_below Bn.out B)
   have Bz := ak (blk_below Bz.out B)
   have G := ak (below_step G.out B)
   clear B
   go_wp2
   go_ret
   exact ⟨rfl,G.out⟩
    | true =>
   obtain ⟨h0,h2,h3,J1_,tb,s1,s2,s3,J2_,J3_,J4_,J5_,J6_⟩ := E5.out rfl
   have J1 := ak J1_
   have J2 := ak J2_
   have J3 := ak J3_
   have J4 := ak J4_
   have J5 := ak J5_
   have J6 := ak J6_
   clear E4 E5 J1_ J2_ J3_ J4_ J5_ J6_
   obtain ⟨⟨hc17_0,hc17_1,hc17_2,hc17_3⟩,hf17_0,hf17_1,hf17_2,hf17_3⟩ := cl4_ Bz.out
   obtain ⟨⟨hc18_0,hc18_1,hc18_2,hc18_3⟩,hf18_0,hf18_1,hf18_2,hf18_3⟩ := cl4_ Be.out
   go_wp2_with ((with_reducible refine gcal_ (f := 23) rfl ?_);refine gz_ (some 114) Tryz.func23 #[.agg #[.bool ub,.slice Az1 u1.length cz1,.slice Az2 u2.length cz2,.slice Az3 u3.length cz3],.int .i64 f1,.int .i64 f2,.int .i64 f0] ?_;refine (impl_Logged.calls k ub Az1 cz1 u1 Az2 cz2 u2 Az3 cz3 u3 f1 f2 f0 h0 f1 h2 h3 true _ Mz.out.1.1 Mz.out.1.2 Mz.out.2.1.1 Mz.out.2.1.2 Mz.out.2.2.1 Mz.out.2.2.2 J1.out).mono ?_;rintro e w16 ⟨vf,rfl,S,B⟩;refine ⟨_,rfl,?_⟩;refine hold_4 ?_)
   refine ⟨?_⟩
   have Mn := ak (Mn.out.below B)
   have Mz := ak (Mz.out.below B)
   have Be := ak (blk_below Be.out B)
   have Bn := ak (blk_below Bn.out B)
   have Bz := ak (blk_below Bz.out B)
   have G := ak (below_step G.out B)
   clear B
   obtain ⟨Af,cf,ef⟩ := Kd.R_slice S
   subst ef
   clear S
   go_wp2_with ((with_reducible refine gate_dst (N := 18) rfl ?_);refine bx_ 18 #[.int .i64 0,.int .i64 0,.int .i64 0,.slice none 0 0] 50 ?_;intro gf hg w17a hbox hb;have hge := ak (Nat.le_of_eq hg.symm);clear hg;refine hold_4 ?_)
   refine ⟨?_⟩
   have BZ := ak hbox
   have Q0 := ak hb
   have HGE := hge
   clear hbox hb hge
   obtain ⟨⟨hcgfy_0, hcgfy_1, hcgfy_2, hcgfy_3⟩, hfy_0, hfy_1, hfy_2, hfy_3⟩ := cl4_ BZ.out
   go_upto_region 20 with (fail)
   obtain ⟨n0_, n1_⟩ := fl4_ Q0.out HGE.out BZ.out (.int .i64 h0) (.int .i64 f1) (.int .i64 h2) (.slice Af h3.length cf)
   clear BZ Q0
   clear hcgfy_0 hfy_0 hcgfy_1 hfy_1 hcgfy_2 hfy_2 hcgfy_3 hfy_3
   generalize ((((w17a.setCell ⟨gf,0,none⟩ (.int .i64 h0)).setCell ⟨gf,1,none⟩ (.int .i64 f1)).setCell ⟨gf,2,none⟩ (.int .i64 h2)).setCell ⟨gf,3,none⟩ (.slice Af h3.length cf)) = w17 at n0_ n1_ ⊢
   have B := n0_.out
   have Bf := n1_
   clear n0_ n1_
   have Mn := ak (Mn.out.below B)
   have Mz := ak (Mz.out.below B)
   have Be := ak (blk_below Be.out B)
   have Bn := ak (blk_below Bn.out B)
   have Bz := ak (blk_below Bz.out B)
   have G := ak (below_step G.out B)
   clear B
   obtain ⟨⟨hc19_0,hc19_1,hc19_2,hc19_3⟩,hf19_0,hf19_1,hf19_2,hf19_3⟩ := cl4_ Bz.out
   obtain ⟨⟨hc20_0,hc20_1,hc20_2,hc20_3⟩,hf20_0,hf20_1,hf20_2,hf20_3⟩ := cl4_ Be.out
   go_wp2_with ((with_reducible refine gcal_ (f := 8) rfl ?_);refine gz_ (some 123) Tryz.func8 #[.agg #[.bool ub,.slice Az1 u1.length cz1,.slice Az2 u2.length cz2,.slice Az3 u3.length cz3],.int .i64 f1,.int .i64 f2,.bool false] ?_;refine (impl_Clear.calls k ub Az1 cz1 u1 Az2 cz2 u2 Az3 cz3 u3 f1 f2 false tb s1 s2 s3 true _ Mz.out.1.1 Mz.out.1.2 Mz.out.2.1.1 Mz.out.2.1.2 Mz.out.2.2.1 Mz.out.2.2.2 J2.out).mono ?_;rintro e w18 ⟨vp1,vp2,vp3,rfl,S1,S2,S3,B⟩;refine ⟨_,rfl,?_⟩;refine hold_4 ?_)
   refine ⟨?_⟩
   have Mn := ak (Mn.out.below B)
   have Mz := ak (Mz.out.below B)
   have Be := ak (blk_below Be.out B)
   have Bn := ak (blk_below Bn.out B)
   have Bz := ak (blk_below Bz.out B)
   have Bf := ak (blk_below Bf.out B)
   have G := ak (below_step G.out B)
   clear B
   obtain ⟨Ap1,cp1,ep1_⟩ := Kd.S_slice S1
   subst ep1_
   obtain ⟨Ap2,cp2,ep2_⟩ := Kd.S_slice S2
   subst ep2_
   obtain ⟨Ap3,cp3,ep3_⟩ := Kd.R_slice S3
   subst ep3_
   have Mp := ak (Mc.of S1 S2 S3)
   clear S1 S2 S3
   go_wp2_with ((with_reducible refine gate_dst (N := 20) rfl ?_);refine bx_ 20 #[.bool false,.slice none 0 0,.slice none 0 0,.slice none 0 0] 31 ?_;intro gp hg w19a hbox hb;have hge := ak (Nat.le_of_eq hg.symm);clear hg;refine hold_4 ?_)
   refine ⟨?_⟩
   have BZ := ak hbox
   have Q0 := ak hb
   have HGE := hge
   clear hbox hb hge
   obtain ⟨⟨hcgpy_0, hcgpy_1, hcgpy_2, hcgpy_3⟩, hfy_0, hfy_1, hfy_2, hfy_3⟩ := cl4_ BZ.out
   go_upto_region 21 with (fail)
   obtain ⟨n0_, n1_⟩ := fl4_ Q0.out HGE.out BZ.out (.bool tb) (.slice Ap1 s1.length cp1) (.slice Ap2 s2.length cp2) (.slice Ap3 s3.length cp3)
   clear BZ Q0
   clear hcgpy_0 hfy_0 hcgpy_1 hfy_1 hcgpy_2 hfy_2 hcgpy_3 hfy_3
   generalize ((((w19a.setCell ⟨gp,0,none⟩ (.bool tb)).setCell ⟨gp,1,none⟩ (.slice Ap1 s1.length cp1)).setCell ⟨gp,2,none⟩ (.slice Ap2 s2.length cp2)).setCell ⟨gp,3,none⟩ (.slice Ap3 s3.length cp3)) = w19 at n0_ n1_ ⊢
   have B := n0_.out
   have Bp := n1_
   clear n0_ n1_
   have Mn := ak (Mn.out.below B)
   have Mz := ak (Mz.out.below B)
   have Mp := ak (Mp.out.below B)
   have Be := ak (blk_below Be.out B)
   have Bn := ak (blk_below Bn.out B)
   have Bz := ak (blk_below Bz.out B)
   have Bf := ak (blk_below Bf.out B)
   have G := ak (below_step G.out B)
   clear B
   obtain ⟨⟨hc21_0,hc21_1,hc21_2,hc21_3⟩,hf21_0,hf21_1,hf21_2,hf21_3⟩ := cl4_ Bp.out
   obtain ⟨⟨hc22_0,hc22_1,hc22_2,hc22_3⟩,hf22_0,hf22_1,hf22_2,hf22_3⟩ := cl4_ Be.out
   go_wp2_with ((with_reducible refine gcal_ (f := 23) rfl ?_);refine gz_ (some 134) Tryz.func23 #[.agg #[.bool tb,.slice Ap1 s1.length cp1,.slice Ap2 s2.length cp2,.slice Ap3 s3.length cp3],.int .i64 f1,.int .i64 f2,.int .i64 f0] ?_;refine (impl_Logged.calls k tb Ap1 cp1 s1 Ap2 cp2 s2 Ap3 cp3 s3 f1 f2 f0 0 0 0 [] false _ Mp.out.1.1 Mp.out.1.2 Mp.out.2.1.1 Mp.out.2.1.2 Mp.out.2.2.1 Mp.out.2.2.2 J3.out).mono ?_;rintro e w20 ⟨vh,rfl,S,B⟩;refine ⟨_,rfl,?_⟩;refine hold_4 ?_)
   refine ⟨?_⟩
   have Mn := ak (Mn.out.below B)
   have Mz := ak (Mz.out.below B)
   have Mp := ak (Mp.out.below B)
   have Be := ak (blk_below Be.out B)
   have Bn := ak (blk_below Bn.out B)
   have Bz := ak (blk_below Bz.out B)
   have Bf := ak (blk_below Bf.out B)
   have Bp := ak (blk_below Bp.out B)
   have G := ak (below_step G.out B)
   clear B
   obtain ⟨Ah,ch,eh⟩ := Kd.R_slice S
   subst eh
   clear S
   go_wp2_with ((with_reducible refine gate_dst (N := 22) rfl ?_);refine bx_ 22 #[.int .i64 0,.int .i64 0,.int .i64 0,.slice none 0 0] 50 ?_;intro gh hg w21a hbox hb;have hge := ak (Nat.le_of_eq hg.symm);clear hg;refine hold_4 ?_)
   refine ⟨?_⟩
   have BZ := ak hbox
   have Q0 := ak hb
   have HGE := hge
   clear hbox hb hge
   obtain ⟨⟨hcghy_0, hcghy_1, hcghy_2, hcghy_3⟩, hfy_0, hfy_1, hfy_2, hfy_3⟩ := cl4_ BZ.out
   go_upto_region 22 with (fail)
   obtain ⟨n0_, n1_⟩ := fl4_ Q0.out HGE.out BZ.out (.int .i64 0) (.int .i64 0) (.int .i64 0) (.slice Ah ([] : List S119).length ch)
   clear BZ Q0
   clear hcghy_0 hfy_0 hcghy_1 hfy_1 hcghy_2 hfy_2 hcghy_3 hfy_3
   generalize ((((w21a.setCell ⟨gh,0,none⟩ (.int .i64 0)).setCell ⟨gh,1,none⟩ (.int .i64 0)).setCell ⟨gh,2,none⟩ (.int .i64 0)).setCell ⟨gh,3,none⟩ (.slice Ah ([] : List S119).length ch)) = w21 at n0_ n1_ ⊢
   have B := n0_.out
   have Bh := n1_
   clear n0_ n1_
   have Mn := ak (Mn.out.below B)
   have Mz := ak (Mz.out.below B)
   have Mp := ak (Mp.out.below B)
   have Be := ak (blk_below Be.out B)
   have Bn := ak (blk_below Bn.out B)
   have Bz := ak (blk_below Bz.out B)
   have Bf := ak (blk_below Bf.out B)
   have Bp := ak (blk_below Bp.out B)
   have G := ak (below_step G.out B)
   clear B
   clear Bh
   obtain ⟨⟨hc23_0,hc23_1,hc23_2,hc23_3⟩,hf23_0,hf23_1,hf23_2,hf23_3⟩ := cl4_ Bz.out
   obtain ⟨⟨hc24_0,hc24_1,hc24_2,hc24_3⟩,hf24_0,hf24_1,hf24_2,hf24_3⟩ := cl4_ Be.out
   obtain ⟨⟨hc25_0,hc25_1,hc25_2,hc25_3⟩,hf25_0,hf25_1,hf25_2,hf25_3⟩ := cl4_ Bf.out
   obtain ⟨⟨hc26_0,hc26_1,hc26_2,hc26_3⟩,hf26_0,hf26_1,hf26_2,hf26_3⟩ := cl4_ Bn.out
   obtain ⟨⟨hc27_0,hc27_1,hc27_2,hc27_3⟩,hf27_0,hf27_1,hf27_2,hf27_3⟩ := cl4_ Bp.out
   have hlen : ((u2.length : Int) == wrap64 ((o2.length : Int) + 1)) = true := by
    rw [wrap_of (by omega) (by have := H250.out;omega),J4.out]
    exact beq_self_eq_true _
   go_wp2_with (go_at_call 19;refine (impl_MachineOk.calls k ub Az1 cz1 u1 Az2 cz2 u2 Az3 cz3 u3 true _ Mz.out.1.1 Mz.out.1.2 Mz.out.2.1.1 Mz.out.2.1.2 Mz.out.2.2.1 Mz.out.2.2.2 J5.out).mono ?_;rintro e w22 ⟨rfl,B⟩;(try dsimp only);refine hold_4 ?_)
   refine ⟨?_⟩
   have Mn := ak (Mn.out.below B)
   have Mz := ak (Mz.out.below B)
   have Mp := ak (Mp.out.below B)
   have Be := ak (blk_below Be.out B)
   have Bn := ak (blk_below Bn.out B)
   have Bz := ak (blk_below Bz.out B)
   have Bf := ak (blk_below Bf.out B)
   have Bp := ak (blk_below Bp.out B)
   have G := ak (below_step G.out B)
   clear B
   obtain ⟨⟨hc28_0,hc28_1,hc28_2,hc28_3⟩,hf28_0,hf28_1,hf28_2,hf28_3⟩ := cl4_ Bn.out
   obtain ⟨⟨hc29_0,hc29_1,hc29_2,hc29_3⟩,hf29_0,hf29_1,hf29_2,hf29_3⟩ := cl4_ Bp.out
   go_wp2_with (go_at_call 24;refine (laws_likeInts.calls k Ap3 cp3 s3 An3 cn3 o3 true _ Mp.out.2.2.1 Mp.out.2.2.2 Mn.out.2.2.1 Mn.out.2.2.2 J6.out).mono ?_;rintro e w23 ⟨rfl,B0⟩;(try dsimp only);refine hold_4 ?_)
   refine ⟨?_⟩
   have G := ak (below_step G.out B0.below)
   go_wp2
   go_ret
   exact ⟨rfl,G.out⟩


end Go.Proofs.YthplaakckfhaaaaGreat.XMs
