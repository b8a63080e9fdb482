/- Proved: of each Go function here that a call comes to what the Lean function of its name tells. Written by a program of this session over the translation. No conditions beyond each theorem's own. -/
import Derived.Test.YthplaakckfhaaaaXCd0
import Derived.Test.YthplaakckfhaaaaXCd5
namespace Go.Proofs.Ythplaakckfhaaaa.XCd
open Go.RowKit Go.Proofs.Ythplaakckfhaaaa.Aid Go.Proofs.YthplaakckfhaaaaW.PrintWords Go.Proofs.YthplaakckfhaaaaW.PrintLast Go.Proofs.YthplaakckfhaaaaW.PrintMore
attribute [local go_sem] max2_int min2_int max_two min_two max_three min_three max_four min_four   -- for this text's walks alone
set_option linter.unusedVariables false
set_option linter.unusedSimpArgs false

/-! ### slices_Index_int64_int64: function 150 -/
def slices_Index_int64_int64.l0 : Nat → List Int → Int → Int → Int → Option (Int)
  | 0, _, _, _, _ => none
  | k + 1, x0, x1, x7, x8 => if x8 < x7 then (if 0 ≤ x8 then (if x8 < (x0.length : Int) then (if x1 = (rd x0 x8) then (some x8) else (slices_Index_int64_int64.l0 k x0 x1 x7 (wrap64 (x8 + 1)))) else (none)) else (none)) else (some (-1))
def slices_Index_int64_int64.f (k : Nat) (l0 : List Int) (a1 : Int) : Option (Int) := slices_Index_int64_int64.l0 k l0 a1 (l0.length : Int) 0

set_option maxHeartbeats 8000000 in
set_option maxRecDepth 100000 in
theorem slices_Index_int64_int64.calls (k : Nat) (A0 : Option Addr) (c0 : Nat) (l0 : List Int) (a1 : Int) (r : Int) (w : World) (hr0 : Kd.C (Kd.int .i64) w A0 l0.length l0) (hc0 : l0.length ≤ c0) (h : slices_Index_int64_int64.f k l0 a1 = some r) :
    Calls Try.prog 150 #[.slice A0 l0.length c0, .int .i64 a1] w fun e w' => e = .returned (.int .i64 r) ∧ Drawn0 w w' := by
 have HR0 := ak hr0
 have HC0 := ak hc0
 clear hr0 hc0
 have H : (slices_Index_int64_int64.l0 k l0 a1 (l0.length : Int) 0) = some r := h
 clear h
 have H' := ak H
 clear H
 go_enter Try.func150,Try.ntmps150
 go_wp2
 go_loopg [8] k (fun kq v8 w' => ∃ (x8_1 : Int),v8 = .int .i64 x8_1 ∧ Aside0 (slices_Index_int64_int64.l0 kq l0 a1 (l0.length : Int) x8_1 = some r) ∧ Aside0 (kq ≤ k) ∧ Drawn0 w w')
 case atStart => exact ⟨(0),rs_,H',⟨Nat.le_refl _⟩,by repeat (first|exact Drawn0.refl _|apply Drawn0.step)⟩
 case round =>
  clear H'
  try clear c1
  try clear p2
  obtain ⟨x8_1,rfl,HA,HK1,⟨m1,rfl⟩⟩ := hrel
  cases gk with
    | zero => exact absurd HA.out (by simp [slices_Index_int64_int64.l0])
    | succ k1 =>
   have H := HA.out
   clear HA
   simp only [slices_Index_int64_int64.l0] at H
   by_cases c3 : x8_1 < (l0.length : Int)
   ·rw [if_pos c3] at H
    have c3b0 : decide (x8_1 < (l0.length : Int)) = true := decide_eq_true c3
    clear c3
    by_cases c4 : 0 ≤ x8_1
    ·rw [if_pos c4] at H
     have c4b0 : decide (0 ≤ x8_1) = true := decide_eq_true c4
     clear c4
     by_cases c5 : x8_1 < (l0.length : Int)
     ·rw [if_pos c5] at H
      have c5b0 : decide (x8_1 < (l0.length : Int)) = true := decide_eq_true c5
      clear c5
      by_cases c6 : a1 = (rd l0 x8_1)
      ·rw [if_pos c6] at H
       have c6b0 : (a1 == (rd l0 x8_1)) = true := beq_iff_eq.mpr c6
       have c6b1 : (a1 != (rd l0 x8_1)) = false := bne_eq_false_iff_eq.mpr c6
       clear c6
       obtain rfl := Option.some.inj H
       have p300 : 0 ≤ (x8_1 : Int) := od_
       have q300 : x8_1 < (l0.length : Int) := od_
       obtain ⟨ad300,e300,hx300_0⟩ := Kd.at_int HR0.out x8_1 p300 q300
       cases e300
       replace p300 := eq_true p300
       replace q300 := eq_true q300
       go_wp2
       go_ret
       exact ⟨rs_,by repeat (first|exact Drawn0.refl _|apply Drawn0.step)⟩
      ·rw [if_neg c6] at H
       have c6b0 : (a1 == (rd l0 x8_1)) = false := beq_eq_false_iff_ne.mpr c6
       have c6b1 : (a1 != (rd l0 x8_1)) = true := bne_iff_ne.mpr c6
       have H' := ak H
       clear H
       have p300 : 0 ≤ (x8_1 : Int) := od_
       have q300 : x8_1 < (l0.length : Int) := od_
       obtain ⟨ad300,e300,hx300_0⟩ := Kd.at_int HR0.out x8_1 p300 q300
       cases e300
       replace p300 := eq_true p300
       replace q300 := eq_true q300
       go_wp2
       go_roundg k1
       case measure => have := HK1.out;omega
       case rel => exact ⟨(wrap64 (x8_1 + 1)),rs_,H',⟨by have := HK1.out;omega⟩,by repeat (first|exact Drawn0.refl _|apply Drawn0.step)⟩
     ·rw [if_neg c5] at H
      exact absurd H (by simp)
    ·rw [if_neg c4] at H
     exact absurd H (by simp)
   ·rw [if_neg c3] at H
    have c3b0 : decide (x8_1 < (l0.length : Int)) = false := decide_eq_false c3
    clear c3
    obtain rfl := Option.some.inj H
    go_wp2
    go_ret
    exact ⟨rs_,by repeat (first|exact Drawn0.refl _|apply Drawn0.step)⟩

/-! ### slices_Contains_int64_int64: function 133 -/
def slices_Contains_int64_int64.f (k : Nat) (l0 : List Int) (a1 : Int) : Option (Bool) := (slices_Index_int64_int64.f k l0 a1).bind fun t301 => (some (decide (t301 ≥ 0)))

set_option maxHeartbeats 8000000 in
set_option maxRecDepth 100000 in
theorem slices_Contains_int64_int64.calls (k : Nat) (A0 : Option Addr) (c0 : Nat) (l0 : List Int) (a1 : Int) (r : Bool) (w : World) (hr0 : Kd.C (Kd.int .i64) w A0 l0.length l0) (hc0 : l0.length ≤ c0) (h : slices_Contains_int64_int64.f k l0 a1 = some r) :
    Calls Try.prog 133 #[.slice A0 l0.length c0, .int .i64 a1] w fun e w' => e = .returned (.bool r) ∧ Drawn0 w w' := by
 have HR0 := ak hr0
 have HC0 := ak hc0
 clear hr0 hc0
 have H : ((slices_Index_int64_int64.f k l0 a1).bind fun t301 => (some (decide (t301 ≥ 0)))) = some r := h
 clear h
 replace H := bs_ H
 obtain ⟨t301,A3,H⟩ := H
 obtain rfl := Option.some.inj H
 go_enter Try.func133,Try.ntmps133
 go_wp2_with (first|((with_reducible refine gcal_ (f := 150) rfl ?_);refine gl_ (some 7) Try.func150 #[.slice A0 l0.length c0,.int .i64 a1] ?_;(with_reducible refine (slices_Index_int64_int64.calls k _ _ l0 a1 t301 _ ?side1 ?side2 A3.out).mono ?_);(case side1 => repeat (first|exact HR0.out|(with_reducible refine Kd.C_alloc ?_ _)|(with_reducible refine Kd.C_drewN ?_ _)|(with_reducible refine Kd.C_drew ?_)));(case side2 => exact HC0.out);rintro e w' ⟨rfl,⟨nd,rfl⟩⟩;refine ⟨_,rfl,?_⟩))
 go_ret
 exact ⟨rs_,by repeat (first|exact Drawn0.refl _|apply Drawn0.step)⟩

/-! ### impl_Machine_canClear: function 93 -/
theorem hold_93 {p : Prop} (h : Aside0 p) : p := h.out
def impl_Machine_canClear.f (k : Nat) (l3 : List Int) (a1 : Int) : Option Bool := if (l3.length : Int) < 60 then some true else slices_Contains_int64_int64.f k l3 a1
set_option maxHeartbeats 8000000 in
set_option maxRecDepth 100000 in
theorem impl_Machine_canClear.calls (k : Nat) (gb : Nat) (s0 s1 s2 : Value) (A3 : Option Addr) (c3 : Nat) (l3 : List Int) (a1 : Int) (r : Bool) (w : World) (hx : w.heap[gb]? = some (.cells #[s0, s1, s2, .slice A3 l3.length c3] 32 (0, 0))) (hr : Kd.C (Kd.int .i64) w A3 l3.length l3) (hc : l3.length ≤ c3) (h : impl_Machine_canClear.f k l3 a1 = some r) :
    Calls Try.prog 93 #[.pointer (some ⟨gb, 0, none⟩), .int .i64 a1] w fun e w' => e = .returned (.bool r) ∧ Below w.heap.size w w' := by
 have hu := Try.underlying32
 have hcy_3 : w.cell? ⟨gb,3,none⟩ = some (.slice A3 l3.length c3) := (blk_cell hx 3).trans rfl
 have HR := ak hr
 have HC := ak hc
 clear hr hc hx
 by_cases c0 : (l3.length : Int) < 60
 ·have h1 : some true = some r := by rw [← h];unfold impl_Machine_canClear.f;rw [if_pos c0]
  obtain rfl := Option.some.inj h1
  have c0b : decide ((l3.length : Int) < 60) = true := decide_eq_true c0
  clear h c0 h1
  go_enter Try.func93,Try.ntmps93
  go_wp2
  go_ret
  exact ⟨rfl,Below.refl _ _⟩
 ·have h1 : slices_Contains_int64_int64.f k l3 a1 = some r := by rw [← h];unfold impl_Machine_canClear.f;rw [if_neg c0]
  have c0b : decide ((l3.length : Int) < 60) = false := decide_eq_false c0
  have F0 := ak h1
  clear h c0 h1
  go_enter Try.func93,Try.ntmps93
  go_wp2_with (go_at_call 133;refine (slices_Contains_int64_int64.calls k A3 c3 l3 a1 r _ HR.out HC.out F0.out).mono ?_;rintro e w2 ⟨rfl,B⟩;(try dsimp only);refine hold_93 ?_)
  refine ⟨?_⟩
  go_wp2
  go_ret
  exact ⟨rfl,B.below⟩

/-! ### words for slices.DeleteFunc at a struct: a row's cells and its elements' blocks, told apart; a row told anew out of some of its elements -/
theorem S_rows_ {α : Type} {d : Kd α} {e : Nat} {w : World} {base : Nat} {ok : Nat → Prop} {g n cap : Nat} {xs : List α} (h : Kd.S d e w base ok (.slice (some ⟨g, 0, none⟩) n cap) xs) :
  ∃ (f : Nat → Nat) (rows : List (List Value)),rows.length = xs.length ∧ ok g ∧ (Kd.raw d.sz).R e w base (fun _ => True) (.slice (some ⟨g,0,none⟩) n cap) rows ∧ ∀ (j : Nat) (x : α) (c : List Value),xs[j]? = some x → rows[j]? = some c → d.M w base (fun k => (ok k ∧ k ≠ g) ∧ f k = j) x c := by
 obtain ⟨f,h0,inner,ho,hr⟩ := h
 have hl : (Kd.chunks d.sz xs.zipIdx.length inner).length = xs.zipIdx.length := Kd.chunks_length _ _ _
 refine ⟨f,Kd.chunks d.sz xs.zipIdx.length inner,by rw [hl,List.length_zipIdx],h0 g (by simp [Value.ownBlock]),⟨fun _ _ => trivial,inner,by rw [hl];exact ho,Kd.reps_raw hr (fun x c hp => ⟨(Kd.tag f d).K_len ((Kd.tag f d).K_of_M hp),(Kd.tag f d).K_one ((Kd.tag f d).K_of_M hp)⟩)⟩,fun j x c hx hc => ?_⟩
 rw [Kd.chunks_get hc]
 have hm : d.M w base (fun k => (ok k ∧ some k ≠ (Value.slice (some ⟨g,0,none⟩) n cap).ownBlock) ∧ f k = j) x ((inner.drop (j * d.sz)).take d.sz) := hr.2 j (x,j) (Kd.zip_at hx)
 exact d.M_mono (fun k hk => ⟨⟨hk.1.1,fun he => hk.1.2 (by rw [he];simp [Value.ownBlock])⟩,hk.2⟩) hm
theorem S_of_rows_ {α : Type} {d : Kd α} {e : Nat} {w : World} {base : Nat} {ok : Nat → Prop} {g n cap : Nat} {ys : List α} {rows : List (List Value)} (f : Nat → Nat) (hl : rows.length = ys.length) (hg : ok g) (hR : (Kd.raw d.sz).R e w base (fun _ => True) (.slice (some ⟨g, 0, none⟩) n cap) rows)
  (hM : ∀ (j : Nat) (x : α) (c : List Value),ys[j]? = some x → rows[j]? = some c → d.M w base (fun k => (ok k ∧ k ≠ g) ∧ f k = j) x c) : Kd.S d e w base ok (.slice (some ⟨g,0,none⟩) n cap) ys := by
 obtain ⟨_,inner,ho,hr⟩ := hR
 refine ⟨f,fun k hk => ?_,inner,by rw [List.length_zipIdx,← hl];exact ho,by rw [List.length_zipIdx,← hl];exact hr.1,fun j p hj => ?_⟩
 ·have : g = k := by simpa [Value.ownBlock] using hk
  subst this;exact hg
 ·rw [List.getElem?_zipIdx,Nat.zero_add] at hj
  obtain ⟨x,hx,rfl⟩ := Option.map_eq_some_iff.1 hj
  have hjl : j < rows.length := by rw [hl];exact (List.getElem?_eq_some_iff.1 hx).1
  have h1 := hr.2 j _ (List.getElem?_eq_getElem hjl)
  have hm := hM j x _ hx (List.getElem?_eq_getElem hjl)
  show d.M w base (fun k => (ok k ∧ some k ≠ (Value.slice (some ⟨g,0,none⟩) n cap).ownBlock) ∧ f k = j) x ((inner.drop (j * d.sz)).take d.sz)
  rw [show (inner.drop (j * d.sz)).take d.sz = rows[j] from h1.1]
  exact d.M_mono (fun k hk => ⟨⟨hk.1.1,fun he => hk.1.2 (by simpa [Value.ownBlock] using he)⟩,hk.2⟩) hm
/-- Where index i stands in a list of indices. -/
noncomputable def posIn (ix : List Nat) (i : Nat) : Nat := open Classical in if h : ∃ j,ix[j]? = some i then Classical.choose h else 0
theorem posIn_at {ix : List Nat} (hn : ix.Nodup) {j i : Nat} (h : ix[j]? = some i) : posIn ix i = j := by
 have hex : ∃ j,ix[j]? = some i := ⟨j,h⟩
 unfold posIn
 rw [dif_pos hex]
 have hc := Classical.choose_spec hex
 have hlt := (List.getElem?_eq_some_iff.1 hc).1
 exact (List.getElem?_inj hlt hn).1 (hc.trans h.symm)
/-- The indices below j that stay. -/
def stays {α : Type} (p : α → Bool) (z : α) (xs : List α) (j : Nat) : List Nat := (List.range j).filter fun t => !p (xs.getD t z)
theorem stays_succ {α : Type} (p : α → Bool) (z : α) (xs : List α) (j : Nat) : stays p z xs (j + 1) = stays p z xs j ++ (if p (xs.getD j z) = true then [] else [j]) := by
 unfold stays
 rw [List.range_succ,List.filter_append]
 congr 1
 cases h : p (xs.getD j z)
 ·simp only [List.filter_cons,List.filter_nil,h];rfl
 ·simp only [List.filter_cons,List.filter_nil,h];rfl
theorem stays_nodup {α : Type} (p : α → Bool) (z : α) (xs : List α) (j : Nat) : (stays p z xs j).Nodup := List.nodup_range.filter _
theorem stays_lt {α : Type} (p : α → Bool) (z : α) (xs : List α) (j : Nat) {t : Nat} (h : t ∈ stays p z xs j) : t < j := List.mem_range.1 (List.mem_filter.1 h).1
theorem stays_len {α : Type} (p : α → Bool) (z : α) (xs : List α) : ∀ j, (stays p z xs j).length ≤ j
  | 0 => by simp [stays]
  | j + 1 => by
    have := stays_len p z xs j
    rw [stays_succ,List.length_append]
    split <;> simp <;> omega
theorem stays_map {α : Type} (p : α → Bool) (z : α) (xs : List α) : ∀ j, j ≤ xs.length → (stays p z xs j).map (xs.getD · z) = (xs.take j).filter fun x => !p x
  | 0, _ => by simp [stays]
  | j + 1, h => by
    have ih := stays_map p z xs j (by omega)
    have hj : xs.getD j z = xs[j] := by rw [List.getD_eq_getElem?_getD,List.getElem?_eq_getElem (by omega)];rfl
    rw [stays_succ,List.map_append,ih,List.take_succ_eq_append_getElem (by omega),List.filter_append,hj]
    congr 1
    cases hp : p xs[j] with
    | true =>
     rw [if_pos rfl]
     simp only [List.map_nil,List.filter_cons,hp,List.filter_nil]
     rfl
    | false =>
     rw [if_neg (by simp)]
     simp only [List.map_cons,List.map_nil,List.filter_cons,hp,hj,List.filter_nil]
     rfl
theorem stays_all {α : Type} (p : α → Bool) (z : α) (xs : List α) : ∀ j, (∀ t, t < j → p (xs.getD t z) = false) → stays p z xs j = List.range j
  | 0, _ => by simp [stays]
  | j + 1, h => by
    rw [stays_succ,stays_all p z xs j (fun t ht => h t (by omega)),List.range_succ,if_neg (by rw [h j (by omega)];simp)]
theorem idx_first {α : Type} (p : α → Bool) : ∀ (l : List α) (i : Nat), (idxFrom (fun x => some (p x)) l i = some (-1) ∧ ∀ x ∈ l, p x = false) ∨ ∃ j, ∃ h : j < l.length, idxFrom (fun x => some (p x)) l i = some ((i + j : Nat) : Int) ∧ p l[j] = true ∧ ∀ t (ht : t < j), p l[t] = false
  | [], i => .inl ⟨rfl, fun _ h => by cases h⟩
  | x :: l, i => by
    simp only [idxFrom,Option.bind_some]
    cases hx : p x with
    | true => exact .inr ⟨0, by simp, by simp, hx, fun t ht => by omega⟩
    | false =>
     rw [if_neg (by simp)]
     rcases idx_first p l (i + 1) with ⟨h1,h2⟩ | ⟨j,hj,h1,h2,h3⟩
     ·exact .inl ⟨h1,fun y hy => by
       rcases List.mem_cons.1 hy with e | e
       ·rw [e];exact hx
       ·exact h2 y e⟩
     ·refine .inr ⟨j + 1,by simpa using hj,by rw [h1];congr 2;omega,h2,fun t ht => ?_⟩
      cases t with
      | zero => exact hx
      | succ t => exact h3 t (by omega)
/-- Where the deleting of elements stands: element m is written next, element j read. -/
def Del {α : Type} (p : α → Bool) (z : α) (xs : List α) (rows0 rows : List (List Value)) (m j : Nat) : Prop :=
 m = (stays p z xs j).length ∧ rows.length = rows0.length ∧ rows.take m = (stays p z xs j).map (rows0.getD · []) ∧ rows.drop j = rows0.drop j
theorem del_skip {α : Type} {p : α → Bool} {z : α} {xs : List α} {rows0 rows : List (List Value)} {m j : Nat} (h : Del p z xs rows0 rows m j) (hp : p (xs.getD j z) = true) : Del p z xs rows0 rows m (j + 1) := by
 obtain ⟨h1,h2,h3,h4⟩ := h
 have e := stays_succ p z xs j
 rw [if_pos hp,List.append_nil] at e
 refine ⟨by rw [e];exact h1,h2,by rw [e];exact h3,?_⟩
 rw [← List.drop_drop,← List.drop_drop,h4]
theorem del_at {α : Type} {p : α → Bool} {z : α} {xs : List α} {rows0 rows : List (List Value)} {m j : Nat} (h : Del p z xs rows0 rows m j) (hj : j < rows0.length) : rows.getD j [] = rows0.getD j [] := by
 obtain ⟨h1,h2,h3,h4⟩ := h
 have := congrArg (fun l => l[0]?) h4
 simp only [List.getElem?_drop,Nat.add_zero] at this
 rw [List.getD_eq_getElem?_getD,List.getD_eq_getElem?_getD,this]
theorem del_move {α : Type} {p : α → Bool} {z : α} {xs : List α} {rows0 rows : List (List Value)} {m j : Nat} (h : Del p z xs rows0 rows m j) (hp : p (xs.getD j z) = false) (hm : m ≤ j) (hj : j < rows0.length) : Del p z xs rows0 (rows.set m (rows0.getD j [])) (m + 1) (j + 1) := by
 obtain ⟨h1,h2,h3,h4⟩ := h
 have e := stays_succ p z xs j
 rw [if_neg (by rw [hp];simp)] at e
 refine ⟨by rw [e,List.length_append,← h1];rfl,by rw [List.length_set,h2],?_,?_⟩
 ·rw [e,List.map_append,← h3]
  rw [List.take_succ_eq_append_getElem (by rw [List.length_set];omega),List.getElem_set_self,List.take_set_of_le (Nat.le_refl _)]
  rfl
 ·rw [List.drop_set_of_lt (by omega),← List.drop_drop,← List.drop_drop,h4]
/-- The row of what stays. -/
theorem S_kept_ {α : Type} {d : Kd α} {e : Nat} {w w1 : World} {base : Nat} {ok : Nat → Prop} {g m cap : Nat} {p : α → Bool} {z : α} {xs : List α} {rows0 : List (List Value)} {f : Nat → Nat} (hg : ok g) (hl : rows0.length = xs.length)
  (hM : ∀ (j : Nat) (x : α) (c : List Value),xs[j]? = some x → rows0[j]? = some c → d.M w base (fun k => (ok k ∧ k ≠ g) ∧ f k = j) x c) (hk : ∀ k,k ≠ g → k < w.heap.size → w1.heap[k]? = w.heap[k]?)
  (hR : (Kd.raw d.sz).R e w1 base (fun _ => True) (.slice (some ⟨g,0,none⟩) m cap) ((stays p z xs xs.length).map (rows0.getD · []))) : Kd.S d e w1 base ok (.slice (some ⟨g,0,none⟩) m cap) (xs.filter fun x => !p x) := by
 have hys : (xs.filter fun x => !p x) = (stays p z xs xs.length).map (xs.getD · z) := by rw [stays_map p z xs xs.length (Nat.le_refl _),List.take_length]
 rw [hys]
 refine S_of_rows_ (fun k => posIn (stays p z xs xs.length) (f k)) (by rw [List.length_map,List.length_map]) hg hR (fun j x c hx hc => ?_)
 rw [List.getElem?_map] at hx hc
 obtain ⟨t,ht,rfl⟩ := Option.map_eq_some_iff.1 hx
 obtain ⟨t2,ht2,rfl⟩ := Option.map_eq_some_iff.1 hc
 have : t2 = t := Option.some.inj (ht2.symm.trans ht)
 subst this
 have hlt := stays_lt p z xs xs.length (List.mem_of_getElem? ht)
 have hx0 : xs[t2]? = some (xs.getD t2 z) := by rw [List.getD_eq_getElem?_getD,List.getElem?_eq_getElem hlt];rfl
 have hr0 : rows0[t2]? = some (rows0.getD t2 []) := by rw [List.getD_eq_getElem?_getD,List.getElem?_eq_getElem (by omega)];rfl
 have hm := hM t2 _ _ hx0 hr0
 exact d.M_mono (fun k hk => ⟨hk.1,by show posIn _ (f k) = j;rw [hk.2];exact posIn_at (stays_nodup p z xs _) ht⟩) (Kd.M_step hm (fun k hk2 hlt => hk k hk2.1.2 hlt))
theorem run_clear_row {P : Program} (w : World) (t e ty : TypeId) (z : Value) (ht : P.underlying t = some (.slice e)) (hv : ∀ w, (zeroValue e).run P w = .ok z w) (h1 : ∀ v ∈ z.cells.toList, v.oneCell' = true) (hz : 0 < z.cells.size) (b o n c : Nat) (hn : 0 < n)
  (hc : ∀ j,j < n * z.cells.size → (w.cell? ⟨b,o + j,none⟩).isSome = true) (hf : ∀ j,j < n * z.cells.size → w.frozen? ⟨b,o + j,none⟩ = false) :
  (Builtin.clear_ #[t] ty #[.slice (some ⟨b,o,none⟩) n c]).run P w = .ok (.tuple #[]) (w.setCells b o (Builtin.zeroCells z.cells n).toList) := by
 have hl : (Builtin.zeroCells z.cells n).toList.length = n * z.cells.size := by simp [Builtin.zeroCells]
 have hst := run_storeCells_cells (P := P) b o (Builtin.zeroCells z.cells n).toList 0 w (by rw [hl];simpa using hc) (by rw [hl];simpa using hf) (by
  intro v hv'
  simp only [Builtin.zeroCells,Array.toList_map,List.mem_map,Array.mem_toList_iff,Array.mem_range] at hv'
  obtain ⟨i,_,rfl⟩ := hv'
  have : i % z.cells.size < z.cells.size := Nat.mod_lt _ hz
  rw [getElem!_pos z.cells _ this]
  exact h1 _ (by simp))
 simp only [Nat.add_zero] at hst
 obtain ⟨m,rfl⟩ : ∃ m,n = m + 1 := ⟨n - 1,by omega⟩
 simp [Builtin.clear_,run_underlying ht,hv,hst]
theorem keep_set_ {w w1 : World} {g : Nat} (h : KeepBut w w1 g none) (j : Nat) (u : Value) : KeepBut w (w1.setCell ⟨g, j, none⟩ u) g none :=
 ⟨by simpa [World.setCell] using h.1,fun i hi hg hr => (Below.heap_setCell w1 ⟨g,j,none⟩ u i hg).trans (h.2 i hi hg hr)⟩
theorem zero_cells4_ (a b c d : Value) : ∀ n, (Builtin.zeroCells #[a, b, c, d] n).toList = (List.replicate n [a, b, c, d]).flatten
  | 0 => by simp [Builtin.zeroCells]
  | n + 1 => by
    have ih := zero_cells4_ a b c d n
    have e : (Builtin.zeroCells #[a,b,c,d] (n + 1)).toList = (Builtin.zeroCells #[a,b,c,d] n).toList ++ [a,b,c,d] := by
     simp only [Builtin.zeroCells,Array.toList_map,Array.toList_range]
     show (List.range ((n + 1) * 4)).map _ = (List.range (n * 4)).map _ ++ _
     rw [show (n + 1) * 4 = n * 4 + 4 from by omega,List.range_add,List.map_append]
     congr 1
     have h0 : (n * 4 + 0) % 4 = 0 := by omega
     have h1 : (n * 4 + 1) % 4 = 1 := by omega
     have h2 : (n * 4 + 2) % 4 = 2 := by omega
     have h3 : (n * 4 + 3) % 4 = 3 := by omega
     show [(#[a,b,c,d] : Array Value)[(n * 4 + 0) % 4]!,(#[a,b,c,d] : Array Value)[(n * 4 + 1) % 4]!,(#[a,b,c,d] : Array Value)[(n * 4 + 2) % 4]!,(#[a,b,c,d] : Array Value)[(n * 4 + 3) % 4]!] = _
     rw [h0,h1,h2,h3]
     rfl
    rw [e,ih,List.replicate_succ',List.flatten_append]
    simp
theorem blk_put_ {w : World} {g : Nat} {e : TypeId} {cur c2 : Array Value} (h : w.heap[g]? = some (.cells cur e (0, 0))) (j : Nat) (v : Value) (hj : j < cur.size) (h2 : c2 = cur.set j v hj) : (w.setCell ⟨g, j, none⟩ v).heap[g]? = some (.cells c2 e (0, 0)) := by
 subst h2
 exact blk_put (cs := cur) h j v (by simp [Array.set!,Array.setIfInBounds,hj])
theorem addr_at_ (g j : Nat) : (⟨g, 0, none⟩ : Addr).add j = ⟨g, j, none⟩ := by unfold Addr.add; split <;> simp_all
theorem addr_off_ (g o j : Nat) : (⟨g, o, none⟩ : Addr).add j = ⟨g, o + j, none⟩ := by unfold Addr.add; split <;> simp_all
/-! ### impl_Machine_clear_1: function 135 -/
set_option maxHeartbeats 8000000 in
set_option maxRecDepth 100000 in
theorem impl_Machine_clear_1.calls (a0_0 a0_1 a0_2 : Int) (A0_3 : Option Addr) (c0_3 : Nat) (l0_3 : List (S127)) (g1 g2 : Nat) (q1 q2 : Int) (w : World) (h1 : w.cell? ⟨g1, 0, none⟩ = some (.int .i64 q1)) (h2 : w.cell? ⟨g2, 0, none⟩ = some (.int .i64 q2)) :
    Calls Try.prog 135 (#[.agg #[.int .i64 a0_0, .int .i64 a0_1, .int .i64 a0_2, .slice A0_3 l0_3.length c0_3]] ++ #[.pointer (some ⟨g1, 0, none⟩), .pointer (some ⟨g2, 0, none⟩)]) w fun e w' => e = .returned (.bool ((a0_1 == q1) && (a0_2 == q2))) ∧ Below w.heap.size w w' := by
 have hu := Try.underlying45
 have l1 : g1 < w.heap.size := World.block_lt_of_cell? w _ h1
 have l2 : g2 < w.heap.size := World.block_lt_of_cell? w _ h2
 have n1 : g1 ≠ w.heap.size := Nat.ne_of_lt l1
 have n2 : g2 ≠ w.heap.size := Nat.ne_of_lt l2
 show Calls Try.prog 135 #[.agg #[.int .i64 a0_0,.int .i64 a0_1,.int .i64 a0_2,.slice A0_3 l0_3.length c0_3],.pointer (some ⟨g1,0,none⟩),.pointer (some ⟨g2,0,none⟩)] w _
 by_cases e1 : a0_1 = q1
 ·subst e1
  by_cases e2 : a0_2 = q2
  ·subst e2
   go_enter Try.func135,Try.ntmps135
   go_wp2
   go_ret
   exact ⟨by simp,(Below.refl _ _).alloc (Nat.le_refl _) _⟩
  ·have f2 : (a0_2 == q2) = false := by simpa using e2
   go_enter Try.func135,Try.ntmps135
   go_wp2
   go_ret
   exact ⟨by simp [e2],(Below.refl _ _).alloc (Nat.le_refl _) _⟩
 ·have f1 : (a0_1 == q1) = false := by simpa using e1
  go_enter Try.func135,Try.ntmps135
  go_wp2
  go_ret
  exact ⟨by simp [e1],(Below.refl _ _).alloc (Nat.le_refl _) _⟩

/-! ### slices_DeleteFunc_Record: function 134 -/
def hits (q1 q2 : Int) (x : S45) : Bool := (x.f1 == q1) && (x.f2 == q2)
theorem hold_134 {p : Prop} (h : Aside0 p) : p := h.out
theorem row_cells_ {d : Kd S45} {w : World} {base : Nat} {ok : Nat → Prop} {x : S45} {c : List Value} (h : k45.M w base ok x c) : ∃ A c3, c = [.int .i64 x.f0, .int .i64 x.f1, .int .i64 x.f2, .slice A x.f3.length c3] := by
 obtain ⟨v3,rfl,h3⟩ := k45_openM h
 obtain ⟨A,c3,rfl⟩ := Kd.R_slice h3
 exact ⟨A,c3,rfl⟩
/-- The cells of element i of a row of cells. -/
theorem raw_at_ {w : World} {base g n cap : Nat} {rows : List (List Value)} (h : (Kd.raw 4).R 45 w base (fun _ => True) (.slice (some ⟨g, 0, none⟩) n cap) rows) (i : Nat) (hi : i < rows.length) :
  (∀ j u,(rows.getD i [])[j]? = some u → w.cell? ⟨g,i * 4 + j,none⟩ = some u) ∧ (rows.getD i []).length = 4 ∧ ∀ j,w.frozen? ⟨g,i * 4 + j,none⟩ = false := by
 have hn := (Kd.R_reads' h).1
 obtain ⟨c,hcl,hM,hcc,hfr⟩ := Kd.R_elem h [] (i : Int) (by omega) (by omega)
 rw [Int.toNat_natCast] at hM hcc hfr
 have hc : c = rows.getD i [] := hM.1
 subst hc
 exact ⟨hcc,hcl,hfr⟩
/-- Element i is written whole. -/
theorem raw_put_ {w : World} {base g n cap : Nat} {rows : List (List Value)} (h : (Kd.raw 4).R 45 w base (fun _ => True) (.slice (some ⟨g, 0, none⟩) n cap) rows) (i : Nat) (hi : i < rows.length) (c' : List Value) (hl : c'.length = 4) (h1 : ∀ u ∈ c', u.oneCell' = true) :
  (Kd.raw 4).R 45 (w.setCells g (i * 4) c') base (fun _ => True) (.slice (some ⟨g,0,none⟩) n cap) (rows.set i c') ∧ w.grownBy (w.setCells g (i * 4) c') (some g) := by
 have hn := (Kd.R_reads' h).1
 obtain ⟨c,hcl,hM,hcc,hfr⟩ := Kd.R_elem h [] (i : Int) (by omega) (by omega)
 have hcl' : c.length = 4 := hcl
 have e : c.take 0 ++ c' ++ c.drop (0 + c'.length) = c' := by rw [List.take_zero,List.nil_append,List.drop_of_length_le (by omega),List.append_nil]
 have hp := Kd.R_seg h (i : Int) (by omega) (by omega) (c := c) (seg := c') (j := 0) (x' := c') (okp := fun _ => False) hcl hcc (by show 0 + c'.length ≤ 4;omega) ⟨e,by rw [e];exact hl,by rw [e];exact h1⟩ (fun _ hk => hk.elim)
 rw [Int.toNat_natCast] at hp
 exact hp
theorem setCells_append_ (b : Nat) : ∀ (a c : List Value) (o : Nat) (w : World), w.setCells b o (a ++ c) = (w.setCells b o a).setCells b (o + a.length) c
  | [], c, o, w => by simp [World.setCells]
  | v :: a, c, o, w => by
    rw [List.cons_append,World.setCells,World.setCells,setCells_append_ b a c (o + 1),List.length_cons]
    congr 1
    omega
/-- d elements from i on are written whole, one behind the other. -/
theorem raw_fill_ (zs : List Value) (hz : zs.length = 4) (h1 : ∀ u ∈ zs, u.oneCell' = true) {base g n cap : Nat} : ∀ (d i : Nat) (w : World) (rows : List (List Value)), (Kd.raw 4).R 45 w base (fun _ => True) (.slice (some ⟨g, 0, none⟩) n cap) rows → i + d = rows.length →
  ∃ rows',(Kd.raw 4).R 45 (w.setCells g (i * 4) ((List.replicate d zs).flatten)) base (fun _ => True) (.slice (some ⟨g,0,none⟩) n cap) rows' ∧ rows'.take i = rows.take i ∧ rows'.length = rows.length ∧ KeepBut w (w.setCells g (i * 4) ((List.replicate d zs).flatten)) g none ∧ (∀ w0 : World,∀ B,Below B w0 w → B ≤ g → Below B w0 (w.setCells g (i * 4) ((List.replicate d zs).flatten)))
  | 0, i, w, rows, h, hd => ⟨rows, by simpa [World.setCells] using h, rfl, rfl, by simpa [World.setCells] using KeepBut.refl w g none, fun w0 B hb _ => by simpa [World.setCells] using hb⟩
  | d + 1, i, w, rows, h, hd => by
    obtain ⟨hr,hg⟩ := raw_put_ h i (by omega) zs hz h1
    obtain ⟨rows',h2,h3,h4,h5,h6⟩ := raw_fill_ zs hz h1 d (i + 1) _ _ hr (by rw [List.length_set];omega)
    have e : (List.replicate (d + 1) zs).flatten = zs ++ (List.replicate d zs).flatten := by rw [List.replicate_succ,List.flatten_cons]
    rw [e,setCells_append_,hz,show i * 4 + 4 = (i + 1) * 4 from by omega]
    refine ⟨rows',h2,?_,by rw [h4,List.length_set],?_,fun w0 B hb hBg => h6 w0 B (hb.grown hg (Nat.le_trans hBg (Nat.le_of_lt (Kd.R_lt h g (by simp [Value.ownBlock])))) (fun k hk => by injection hk with hk;omega)) hBg⟩
    ·have := congrArg (List.take i) h3
     rw [List.take_take,List.take_take,Nat.min_eq_left (by omega),List.take_set_of_le (Nat.le_refl _)] at this
     exact this
    ·exact ⟨Nat.le_trans hg.size h5.1,fun k hk hkg hn => (h5.2 k (Nat.lt_of_lt_of_le hk hg.size) hkg hn).trans (hg.block k hk (fun he => hkg (by injection he)))⟩
theorem raw_take_ {w : World} {base g n cap : Nat} {rows : List (List Value)} (h : (Kd.raw 4).R 45 w base (fun _ => True) (.slice (some ⟨g, 0, none⟩) n cap) rows) (m : Nat) (hm : m ≤ rows.length) : (Kd.raw 4).R 45 w base (fun _ => True) (.slice (some ⟨g, 0, none⟩) m cap) (rows.take m) := by
 obtain ⟨h0,inner,ho,hr⟩ := h
 have hn : n = rows.length := by
  rcases ho.2 with ⟨hv,_⟩ | ⟨_,_,_,hv,_⟩
  ·cases hv
  ·injection hv
 refine ⟨fun _ _ => trivial,inner.take (m * 4),⟨?_,?_⟩,?_,fun j p hj => ?_⟩
 ·have := ho.1
  have h4 : (Kd.raw 4).sz = 4 := rfl
  rw [List.length_take,List.length_take,this,h4]
  have : m * 4 ≤ rows.length * 4 := Nat.mul_le_mul_right _ hm
  rw [Nat.min_eq_left hm];omega
 ·rcases ho.2 with ⟨hv,_⟩ | ⟨g',cap',cur,hv,hb,hh,hc1,hc2,hc3,hc4⟩
  ·cases hv
  ·injection hv with hv1 hv2 hv3
   injection hv1 with hv1
   injection hv1 with hv1
   subst hv1
   subst hv3
   refine .inr ⟨g,cap,cur,by rw [List.length_take,Nat.min_eq_left hm],hb,hh,by rw [List.length_take];omega,hc2,hc3,?_⟩
   rw [← hc4,List.take_take,List.length_take,Nat.min_eq_left hm]
   congr 1
   show m * 4 = min (m * 4) (rows.length * 4)
   have : m * 4 ≤ rows.length * 4 := Nat.mul_le_mul_right _ hm
   omega
 ·have := hr.1
  have h4 : (Kd.raw 4).sz = 4 := rfl
  rw [h4] at this
  rw [List.length_take,List.length_take,this,h4]
  have : m * 4 ≤ rows.length * 4 := Nat.mul_le_mul_right _ hm
  rw [Nat.min_eq_left hm];omega
 ·have hjl := (List.getElem?_eq_some_iff.1 hj).1
  rw [List.length_take] at hjl
  rw [List.getElem?_take_of_lt (by omega)] at hj
  have h2 := hr.2 j p hj
  have e : ((inner.take (m * 4)).drop (j * 4)).take 4 = (inner.drop (j * 4)).take 4 := by
   rw [List.drop_take,List.take_take,Nat.min_eq_left (by omega)]
  show _ = p ∧ _
  have h3 : (inner.drop (j * 4)).take 4 = p ∧ ((inner.drop (j * 4)).take 4).length = 4 ∧ ∀ u ∈ (inner.drop (j * 4)).take 4,u.oneCell' = true := h2
  rw [← e] at h3
  exact h3
theorem four_ {l : List Value} (h : l.length = 4) : ∃ a b c d, l = [a, b, c, d] := by
 match l,h with
  | [a, b, c, d], _ => exact ⟨a, b, c, d, rfl⟩
theorem del_start_ {p : S45 → Bool} {l0 : List S45} {rows0 : List (List Value)} (hl : rows0.length = l0.length) {j0 : Nat} (hj : j0 < l0.length) (h1 : p l0[j0] = true) (h2 : ∀ s (hs : s < j0), p l0[s] = false) : Del p z45 l0 rows0 rows0 j0 (j0 + 1) := by
 have hz : ∀ s (hs : s < l0.length),l0.getD s z45 = l0[s] := fun s hs => by rw [List.getD_eq_getElem?_getD,List.getElem?_eq_getElem hs];rfl
 have e1 : stays p z45 l0 (j0 + 1) = List.range j0 := by
  rw [stays_succ,if_pos (by rw [hz j0 hj];exact h1),List.append_nil,stays_all p z45 l0 j0 (fun t ht => by rw [hz t (by omega)];exact h2 t ht)]
 refine ⟨by rw [e1,List.length_range],rfl,?_,rfl⟩
 rw [e1]
 apply List.ext_getElem
 ·simp;omega
 ·intro i h3 h4
  have : i < rows0.length := by simp at h3;omega
  simp only [List.getElem_take,List.getElem_map,List.getElem_range]
  rw [List.getD_eq_getElem?_getD,List.getElem?_eq_getElem this];rfl
set_option maxHeartbeats 8000000 in
set_option maxRecDepth 100000 in
theorem slices_DeleteFunc_Record.calls (P0_ : Nat → Prop) (A0 : Option Addr) (c0 : Nat) (l0 : List (S45)) (g1 g2 : Nat) (q1 q2 : Int) (w0 w : World) (hB : Below w0.heap.size w0 w) (hP1 : ¬ P0_ g1) (hP2 : ¬ P0_ g2) (h1 : w.cell? ⟨g1, 0, none⟩ = some (.int .i64 q1)) (h2 : w.cell? ⟨g2, 0, none⟩ = some (.int .i64 q2)) (ho : Kd.S k45 45 w w0.heap.size P0_ (.slice A0 l0.length c0) l0) :
    Calls Try.prog 134 #[.slice A0 l0.length c0, .func (.func 135) #[] #[.pointer (some ⟨g1, 0, none⟩), .pointer (some ⟨g2, 0, none⟩)]] w fun e w' => ∃ A' c', e = .returned (.slice A' (l0.filter fun x => !hits q1 q2 x).length c') ∧ Kd.S k45 45 w' w0.heap.size P0_ (.slice A' (l0.filter fun x => !hits q1 q2 x).length c') (l0.filter fun x => !hits q1 q2 x) ∧ Below w0.heap.size w0 w' ∧ Kept w w' P0_ := by
 have hu := Try.underlying45
 have hlen := (Kd.S_reads' ho).2.2.2.1
 have HO := ak ho
 have HB := ak hB
 have X1 := ak h1
 have X2 := ak h2
 have HC := ak (Kd.S_reads' ho).2.1
 have HR := ak (Kd.S_reads' ho).2.2
 clear ho hB h1 h2
 obtain ⟨t,T1,T2⟩ : ∃ t,Aside0 (idxFrom (fun x : S45 => some (hits q1 q2 x)) l0 0 = some t) ∧ Aside0 ((t = -1 ∧ ∀ x ∈ l0,hits q1 q2 x = false) ∨ ∃ j,∃ h : j < l0.length,t = (j : Int) ∧ hits q1 q2 l0[j] = true ∧ ∀ s (hs : s < j),hits q1 q2 l0[s] = false) := by
  rcases idx_first (hits q1 q2) l0 0 with ⟨e1,e2⟩ | ⟨j,hj,e1,e2,e3⟩
  ·exact ⟨_,⟨e1⟩,⟨.inl ⟨rfl,e2⟩⟩⟩
  ·exact ⟨_,⟨e1⟩,⟨.inr ⟨j,hj,by omega,e2,e3⟩⟩⟩
 have hi := impl_Record_111.idx (fun x : S45 => some (hits q1 q2 x)) 135 #[.pointer (some ⟨g1,0,none⟩),.pointer (some ⟨g2,0,none⟩)] (enters_of Try.func135 (by kernel_rfl) rfl) A0 c0 l0 w (fun x A3 c3 b W hb_ hB_ hL_ hC_ => by
  obtain rfl := Option.some.inj hb_
  exact (impl_Machine_clear_1.calls x.f0 x.f1 x.f2 A3 c3 x.f3 g1 g2 q1 q2 W ((hB_.cell (World.block_lt_of_cell? w _ X1.out)).trans X1.out) ((hB_.cell (World.block_lt_of_cell? w _ X2.out)).trans X2.out)).mono fun e w' hh => ⟨hh.1,below_step hB_ hh.2⟩) HR.out HC.out t T1.out
 go_enter Try.func134,Try.ntmps134
 rcases T2.out with ⟨e1,e2⟩ | ⟨j0,hj0,e1,e2,e3⟩
 ·subst e1
  have hf : (l0.filter fun x => !hits q1 q2 x) = l0 := List.filter_eq_self.2 (fun x hx => by rw [e2 x hx];rfl)
  rw [hf]
  clear T1 T2 e2
  go_wp2_with (go_at_call 111;refine hi.mono ?_;rintro e w1 ⟨rfl,hb⟩)
  go_ret
  exact ⟨A0,c0,rfl,Kd.S_below HO.out hb,below_step HB.out hb,⟨hb.size,fun k hk _ => hb.block k hk⟩⟩
 ·subst e1
  have hjb : ((j0 : Int) == -1) = false := beq_eq_false_iff_ne.mpr (by omega)
  obtain ⟨go,co,eo,gbo,glo,_⟩ := Kd.S_form HO.out (by omega)
  obtain rfl : A0 = some ⟨go,0,none⟩ := (by injection eo)
  obtain rfl : c0 = co := (by injection eo)
  clear eo
  have GB : Aside0 (w0.heap.size ≤ go) := ⟨gbo⟩
  go_wp2_with (go_at_call 111;refine hi.mono ?_;rintro e w1 ⟨rfl,hb⟩;replace HO := ak (Kd.S_below HO.out hb);replace HB := ak (below_step HB.out hb);have K1 := ak hb)
  obtain ⟨f,rows0,hl0,hg,hraw,hM⟩ := S_rows_ HO.out
  have LR := ak hl0
  have HG := ak hg
  have HM := ak hM
  have HC0 := ak (Kd.R_reads' hraw).2.1
  have HA := ak hraw
  have HD : Aside0 (Del (hits q1 q2) z45 l0 rows0 rows0 j0 (j0 + 1)) := ⟨del_start_ hl0 hj0 e2 e3⟩
  have XA : Aside0 (w1.cell? ⟨g1,0,none⟩ = some (.int .i64 q1)) := ⟨(K1.out.cell (World.block_lt_of_cell? w _ X1.out)).trans X1.out⟩
  have XB : Aside0 (w1.cell? ⟨g2,0,none⟩ = some (.int .i64 q2)) := ⟨(K1.out.cell (World.block_lt_of_cell? w _ X2.out)).trans X2.out⟩
  have N1 : Aside0 (g1 ≠ go) := ⟨fun e_ => hP1 (e_ ▸ hg)⟩
  have N2 : Aside0 (g2 ≠ go) := ⟨fun e_ => hP2 (e_ ▸ hg)⟩
  have HN : Aside0 (j0 < l0.length) := ⟨hj0⟩
  clear hl0 hg hraw hM T1 T2 e2 e3 hi gbo glo hjb hP1 hP2 HR
  go_loopg [5,6] l0.length (fun gg v5 v6 wr => ∃ (m j : Nat) (rows : List (List Value)),v5 = .int .i64 m ∧ v6 = .int .i64 j ∧ m < j ∧ j ≤ l0.length ∧ l0.length - j ≤ gg ∧ Aside0 (Del (hits q1 q2) z45 l0 rows0 rows m j) ∧ Aside0 ((Kd.raw 4).R 45 wr w0.heap.size (fun _ => True) (.slice (some ⟨go,0,none⟩) l0.length c0) rows) ∧ Aside0 (KeepBut w1 wr go none) ∧ Aside0 (Below w0.heap.size w0 wr))
  case atStart => exact ⟨j0,j0 + 1,rows0,rfl,by go_num,by omega,by omega,by omega,HD,HA,⟨KeepBut.refl _ _ _⟩,HB⟩
  case round =>
   clear HD HA HB
   obtain ⟨m,j,rows,rfl,rfl,hmj,hjl,hgg,HD,HA,HK,HB⟩ := hrel
   have hrl : rows.length = l0.length := HD.out.2.1.trans LR.out
   by_cases hlt : j < l0.length
   ·have hltz : (j : Int) < (l0.length : Int) := by omega
    have hx : l0[j]? = some l0[j] := List.getElem?_eq_getElem hlt
    have hr0 : rows0[j]? = some (rows0.getD j []) := by rw [List.getD_eq_getElem?_getD,List.getElem?_eq_getElem (by rw [LR.out];exact hlt)];rfl
    obtain ⟨Ae,ce,er⟩ := row_cells_ (d := k45) (HM.out j _ _ hx hr0)
    have ER := ak er
    have ej := del_at HD.out (by rw [LR.out];exact hlt)
    have hz : l0.getD j z45 = l0[j] := by rw [List.getD_eq_getElem?_getD,hx];rfl
    obtain ⟨hca,_,_⟩ := raw_at_ HA.out j (by omega)
    rw [ej,er] at hca
    have hx0 := hca 0 _ rfl
    have hx1 := hca 1 _ rfl
    have hx2 := hca 2 _ rfl
    have hx3 := hca 3 _ rfl
    rw [Nat.add_zero] at hx0
    generalize l0[j] = x at *
    have HZ := ak hz
    clear hx hr0 er ej hca hz
    go_wp2_with ((with_reducible refine gate_dst (N := 7) rfl ?_);refine bx_ 7 #[.int .i64 0,.int .i64 0,.int .i64 0,.slice none 0 0] 45 ?_;intro gv hg w2 hbox hb;have hge := ak (Nat.le_of_eq hg.symm);clear hg;refine hold_134 ?_)
    refine ⟨?_⟩
    have BZ := ak hbox
    have Q0 := ak hb
    have HGE := hge
    clear hbox hb hge
    have hcy_0 : w2.cell? ⟨gv,0,none⟩ = some (.int .i64 0) := (blk_cell BZ.out 0).trans rfl
    have hcy_1 : w2.cell? ⟨gv,1,none⟩ = some (.int .i64 0) := (blk_cell BZ.out 1).trans rfl
    have hcy_2 : w2.cell? ⟨gv,2,none⟩ = some (.int .i64 0) := (blk_cell BZ.out 2).trans rfl
    have hcy_3 : w2.cell? ⟨gv,3,none⟩ = some (.slice none 0 0) := (blk_cell BZ.out 3).trans rfl
    have hfy_0 := blk_frozen BZ.out 0
    have hfy_1 := blk_frozen BZ.out 1
    have hfy_2 := blk_frozen BZ.out 2
    have hfy_3 := blk_frozen BZ.out 3
    go_upto_region 8 with (fail)
    have n0_ : Aside0 (Below wr.heap.size wr ((((w2.setCell ⟨gv,0,none⟩ (.int .i64 x.f0)).setCell ⟨gv,1,none⟩ (.int .i64 x.f1)).setCell ⟨gv,2,none⟩ (.int .i64 x.f2)).setCell ⟨gv,3,none⟩ (.slice Ae x.f3.length ce))) := ⟨below_set (below_set (below_set (below_set Q0.out HGE.out) HGE.out) HGE.out) HGE.out⟩
    have n1_ : Aside0 (((((w2.setCell ⟨gv,0,none⟩ (.int .i64 x.f0)).setCell ⟨gv,1,none⟩ (.int .i64 x.f1)).setCell ⟨gv,2,none⟩ (.int .i64 x.f2)).setCell ⟨gv,3,none⟩ (.slice Ae x.f3.length ce)).heap[gv]? = some (.cells #[.int .i64 x.f0,.int .i64 x.f1,.int .i64 x.f2,.slice Ae x.f3.length ce] 45 (0,0))) := ⟨pt4_ BZ.out _ _ _ _⟩
    clear BZ Q0 hcy_0 hcy_1 hcy_2 hcy_3 hfy_0 hfy_1 hfy_2 hfy_3 hx0 hx1 hx2 hx3
    generalize ((((w2.setCell ⟨gv,0,none⟩ (.int .i64 x.f0)).setCell ⟨gv,1,none⟩ (.int .i64 x.f1)).setCell ⟨gv,2,none⟩ (.int .i64 x.f2)).setCell ⟨gv,3,none⟩ (.slice Ae x.f3.length ce)) = w3 at n0_ n1_ ⊢
    have hb3 := n0_.out
    have BV := n1_
    replace HA := ak (Kd.R_below HA.out hb3)
    replace HK := ak (KeepBut.trans HK.out (KeepBut.of_below hb3 go none) (.inl rfl))
    replace HB := ak (below_step HB.out hb3)
    clear n0_ n1_ hb3 HGE
    have hc0_ : w3.cell? ⟨gv,0,none⟩ = some (.int .i64 x.f0) := (blk_cell BV.out 0).trans rfl
    have hc1_ : w3.cell? ⟨gv,1,none⟩ = some (.int .i64 x.f1) := (blk_cell BV.out 1).trans rfl
    have hc2_ : w3.cell? ⟨gv,2,none⟩ = some (.int .i64 x.f2) := (blk_cell BV.out 2).trans rfl
    have hc3_ : w3.cell? ⟨gv,3,none⟩ = some (.slice Ae x.f3.length ce) := (blk_cell BV.out 3).trans rfl
    have ya : w3.cell? ⟨g1,0,none⟩ = some (.int .i64 q1) := (World.cell?_of_block (a := ⟨g1,0,none⟩) (HK.out.2 g1 (World.block_lt_of_cell? _ _ XA.out) N1.out (by simp))).trans XA.out
    have yb : w3.cell? ⟨g2,0,none⟩ = some (.int .i64 q2) := (World.cell?_of_block (a := ⟨g2,0,none⟩) (HK.out.2 g2 (World.block_lt_of_cell? _ _ XB.out) N2.out (by simp))).trans XB.out
    have hcall : Calls Try.prog 135 #[.agg #[.int .i64 x.f0,.int .i64 x.f1,.int .i64 x.f2,.slice Ae x.f3.length ce],.pointer (some ⟨g1,0,none⟩),.pointer (some ⟨g2,0,none⟩)] w3 fun e w' => e = .returned (.bool ((x.f1 == q1) && (x.f2 == q2))) ∧ Below w3.heap.size w3 w' := impl_Machine_clear_1.calls x.f0 x.f1 x.f2 Ae ce x.f3 g1 g2 q1 q2 w3 ya yb
    rw [show ((x.f1 == q1) && (x.f2 == q2)) = hits q1 q2 x from rfl] at hcall
    clear ya yb
    cases hv : hits q1 q2 x with
    | true =>
     rw [hv] at hcall
     have HV : Aside0 (hits q1 q2 (l0.getD j z45) = true) := ⟨by rw [HZ.out];exact hv⟩
     clear hv
     go_wp2_with (go_at_call 135;refine hcall.mono ?_;rintro e w4 ⟨rfl,hb4⟩;have B4 := ak hb4;clear hb4)
     go_roundg (l0.length - (j + 1))
     case measure => omega
     case rel => exact ⟨m,j + 1,rows,rfl,by go_num,by omega,by omega,by omega,⟨del_skip HD.out HV.out⟩,⟨Kd.R_below HA.out B4.out⟩,⟨KeepBut.trans HK.out (KeepBut.of_below B4.out go none) (.inl rfl)⟩,⟨below_step HB.out B4.out⟩⟩
    | false =>
     rw [hv] at hcall
     have HV : Aside0 (hits q1 q2 (l0.getD j z45) = false) := ⟨by rw [HZ.out];exact hv⟩
     clear hv
     have hmz : (m : Int) < (l0.length : Int) := by omega
     go_wp2_with (go_at_call 135;refine hcall.mono ?_;rintro e w4 ⟨rfl,hb4⟩;replace HA := ak (Kd.R_below HA.out hb4);replace HK := ak (KeepBut.trans HK.out (KeepBut.of_below hb4 go none) (.inl rfl));replace HB := ak (below_step HB.out hb4);replace BV := ak (blk_below BV.out hb4);clear hb4 hc0_ hc1_ hc2_ hc3_;have hc0_ : w4.cell? ⟨gv,0,none⟩ = some (.int .i64 x.f0) := (blk_cell BV.out 0).trans rfl;have hc1_ : w4.cell? ⟨gv,1,none⟩ = some (.int .i64 x.f1) := (blk_cell BV.out 1).trans rfl;have hc2_ : w4.cell? ⟨gv,2,none⟩ = some (.int .i64 x.f2) := (blk_cell BV.out 2).trans rfl;have hc3_ : w4.cell? ⟨gv,3,none⟩ = some (.slice Ae x.f3.length ce) := (blk_cell BV.out 3).trans rfl;obtain ⟨hs,hsl,hsf⟩ := raw_at_ HA.out m (by omega);obtain ⟨s0,s1,s2,s3,es⟩ := four_ hsl;rw [es] at hs;have hs0 := hs 0 _ rfl;have hs1 := hs 1 _ rfl;have hs2 := hs 2 _ rfl;have hs3 := hs 3 _ rfl;rw [Nat.add_zero] at hs0;have hf0 := hsf 0;have hf1 := hsf 1;have hf2 := hsf 2;have hf3 := hsf 3;rw [Nat.add_zero] at hf0;clear hs hsl hsf es)
     go_roundg (l0.length - (j + 1))
     case measure => omega
     case rel =>
      have hp := raw_put_ HA.out m (by omega) (rows0.getD j []) (by rw [ER.out];rfl) (by rw [ER.out];intro u hu;simp at hu;rcases hu with rfl|rfl|rfl|rfl <;> rfl)
      have hd := del_move HD.out HV.out (by omega) (by rw [LR.out];exact hlt)
      have hG : go < w4.heap.size := Kd.R_lt HA.out go (by simp [Value.ownBlock])
      rw [show w4.setCells go (m * 4) (rows0.getD j []) = (((w4.setCell ⟨go,m * 4,none⟩ (.int .i64 x.f0)).setCell ⟨go,m * 4 + 1,none⟩ (.int .i64 x.f1)).setCell ⟨go,m * 4 + 2,none⟩ (.int .i64 x.f2)).setCell ⟨go,m * 4 + 3,none⟩ (.slice Ae x.f3.length ce) from by rw [ER.out];rfl] at hp
      exact ⟨m + 1,j + 1,_,by go_num,by go_num,by omega,by omega,by omega,⟨hd⟩,⟨hp.1⟩,⟨keep_set_ (keep_set_ (keep_set_ (keep_set_ HK.out _ _) _ _) _ _) _ _⟩,⟨below_set (below_set (below_set (below_set HB.out GB.out) GB.out) GB.out) GB.out⟩⟩
   ·have hj : j = l0.length := by omega
    subst hj
    have hltz : ¬ (l0.length : Int) < (l0.length : Int) := by omega
    have hmz : (m : Int) ≤ (l0.length : Int) := by omega
    have hcl : ∀ ty,(Builtin.clear_ #[30] ty #[.slice (some ⟨go,m * 4,none⟩) (l0.length - m) (c0 - m)]).run Try.prog wr = .ok (.tuple #[]) (wr.setCells go (m * 4) ((List.replicate (l0.length - m) [.int .i64 0,.int .i64 0,.int .i64 0,.slice none 0 0]).flatten)) := fun ty => by
     have hz := zero_cells4_ (.int .i64 0) (.int .i64 0) (.int .i64 0) (.slice none 0 0) (l0.length - m)
     rw [← hz]
     refine run_clear_row wr 30 45 ty (.agg #[.int .i64 0,.int .i64 0,.int .i64 0,.slice none 0 0]) Try.underlying30 (fun w => by rfl) (by intro v hv;simp [Value.cells] at hv;rcases hv with rfl|rfl|rfl|rfl <;> rfl) (by decide) go (m * 4) (l0.length - m) (c0 - m) (by omega) (fun t ht => ?_) (fun t ht => ?_)
     ·have ht' : t < (l0.length - m) * 4 := ht
      obtain ⟨hs,hsl,_⟩ := raw_at_ HA.out (m + t / 4) (by omega)
      have h4 : t % 4 < (rows.getD (m + t / 4) []).length := by rw [hsl];omega
      have := hs (t % 4) _ (List.getElem?_eq_getElem h4)
      rw [show (m + t / 4) * 4 + t % 4 = m * 4 + t from by omega] at this
      rw [this];rfl
     ·have ht' : t < (l0.length - m) * 4 := ht
      obtain ⟨_,_,hf⟩ := raw_at_ HA.out (m + t / 4) (by omega)
      have := hf (t % 4)
      rwa [show (m + t / 4) * 4 + t % 4 = m * 4 + t from by omega] at this
    obtain ⟨rows',z1,z2,z3,z4,z5⟩ := raw_fill_ [.int .i64 0,.int .i64 0,.int .i64 0,.slice none 0 0] rfl (by intro u hu;simp at hu;rcases hu with rfl|rfl|rfl|rfl <;> rfl) (l0.length - m) m wr rows HA.out (by omega)
    have Z1 := ak z1
    have Z2 := ak z2
    have Z3 := ak z3
    have Z4 := ak z4
    have Z5 := ak (z5 w0 w0.heap.size HB.out GB.out)
    have hcn : m < l0.length := hmj
    have hcc := HC0.out
    have hq1 : ¬ c0 = m := by omega
    have hq2 : (m : Int) ≤ (c0 : Int) := by omega
    clear z1 z2 z3 z4 z5
    go_wp2
    go_ret
    have hm : m = (l0.filter fun x => !hits q1 q2 x).length := by
     have e1 := stays_map (hits q1 q2) z45 l0 l0.length (Nat.le_refl _)
     rw [List.take_length] at e1
     rw [← e1,List.length_map]
     exact HD.out.1
    have ht : rows'.take m = (stays (hits q1 q2) z45 l0 l0.length).map (rows0.getD · []) := Z2.out.trans HD.out.2.2.1
    have hS : Kd.S k45 45 (wr.setCells go (m * 4) ((List.replicate (l0.length - m) [.int .i64 0,.int .i64 0,.int .i64 0,.slice none 0 0]).flatten)) w0.heap.size P0_ (.slice (some ⟨go,0,none⟩) m c0) (l0.filter fun x => !hits q1 q2 x) :=
     S_kept_ HG.out LR.out HM.out (fun k hk1 hk2 => (Z4.out.2 k (Nat.lt_of_lt_of_le hk2 HK.out.1) hk1 (by simp)).trans (HK.out.2 k hk2 hk1 (by simp))) (by rw [← ht];exact raw_take_ Z1.out m (by rw [Z3.out];omega))
    rw [← hm]
    exact ⟨some ⟨go,0,none⟩,c0,rfl,hS,Z5.out,⟨Nat.le_trans K1.out.size (Nat.le_trans HK.out.1 Z4.out.1),fun k hk1 hk2 => by
     have hne : k ≠ go := fun e_ => hk2 (e_ ▸ HG.out)
     exact (Z4.out.2 k (Nat.lt_of_lt_of_le hk1 (Nat.le_trans K1.out.size HK.out.1)) hne (by simp)).trans ((HK.out.2 k (Nat.lt_of_lt_of_le hk1 K1.out.size) hne (by simp)).trans (K1.out.block k hk1))⟩⟩

/-! ### cmp_isNaN_int64: function 144 -/
def cmp_isNaN_int64.f (a0 : Int) : Option (Bool) := some (a0 != a0)
set_option maxHeartbeats 8000000 in
set_option maxRecDepth 100000 in
theorem cmp_isNaN_int64.calls (a0 : Int) (r : Bool) (w : World) (h : cmp_isNaN_int64.f a0 = some r) :
    Calls Try.prog 144 #[.int .i64 a0] w fun e w' => e = .returned (.bool r) ∧ Drawn0 w w' := by
 have H : (some (a0 != a0)) = some r := h
 clear h
 obtain rfl := Option.some.inj H
 go_enter Try.func144,Try.ntmps144
 go_wp2
 go_ret
 exact ⟨rs_,by repeat (first|exact Drawn0.refl _|apply Drawn0.step)⟩

/-! ### cmp_Less_int64: function 151 -/
def cmp_Less_int64.f (a0 : Int) (a1 : Int) : Option (Bool) := (cmp_isNaN_int64.f a0).bind fun t302 => (if t302 = true then ((cmp_isNaN_int64.f a1).bind fun t303 => (if t303 = true then (some (decide (a0 < a1))) else (some true))) else (some (decide (a0 < a1))))
set_option maxHeartbeats 8000000 in
set_option maxRecDepth 100000 in
theorem cmp_Less_int64.calls (a0 : Int) (a1 : Int) (r : Bool) (w : World) (h : cmp_Less_int64.f a0 a1 = some r) :
    Calls Try.prog 151 #[.int .i64 a0, .int .i64 a1] w fun e w' => e = .returned (.bool r) ∧ Drawn0 w w' := by
 have H : ((cmp_isNaN_int64.f a0).bind fun t302 => (if t302 = true then ((cmp_isNaN_int64.f a1).bind fun t303 => (if t303 = true then (some (decide (a0 < a1))) else (some true))) else (some (decide (a0 < a1))))) = some r := h
 clear h
 replace H := bs_ H
 obtain ⟨t302,A3,H⟩ := H
 by_cases c4 : t302 = true
 ·subst c4
  replace H := it_ H
  replace H := bs_ H
  obtain ⟨t303,A5,H⟩ := H
  by_cases c6 : t303 = true
  ·subst c6
   replace H := it_ H
   obtain rfl := Option.some.inj H
   go_enter Try.func151,Try.ntmps151
   go_wp2_with (first|((with_reducible refine gcal_ (f := 144) rfl ?_);refine gl_ (some 6) Try.func144 #[.int .i64 a0] ?_;(with_reducible refine (cmp_isNaN_int64.calls a0 true _ A3.out).mono ?_);rintro e w' ⟨rfl,⟨nd,rfl⟩⟩;refine ⟨_,rfl,?_⟩)|(go_at_call 144;(with_reducible refine (cmp_isNaN_int64.calls a1 true _ A5.out).mono ?_);rintro e w' ⟨rfl,⟨nd,rfl⟩⟩))
   go_ret
   exact ⟨rs_,by repeat (first|exact Drawn0.refl _|apply Drawn0.step)⟩
  ·replace c6 := Bool.eq_false_iff.mpr c6
   subst c6
   replace H := ie_ H
   obtain rfl := Option.some.inj H
   go_enter Try.func151,Try.ntmps151
   go_wp2_with (first|((with_reducible refine gcal_ (f := 144) rfl ?_);refine gl_ (some 6) Try.func144 #[.int .i64 a0] ?_;(with_reducible refine (cmp_isNaN_int64.calls a0 true _ A3.out).mono ?_);rintro e w' ⟨rfl,⟨nd,rfl⟩⟩;refine ⟨_,rfl,?_⟩)|(go_at_call 144;(with_reducible refine (cmp_isNaN_int64.calls a1 false _ A5.out).mono ?_);rintro e w' ⟨rfl,⟨nd,rfl⟩⟩))
   go_ret
   exact ⟨rs_,by repeat (first|exact Drawn0.refl _|apply Drawn0.step)⟩
 ·replace c4 := Bool.eq_false_iff.mpr c4
  subst c4
  replace H := ie_ H
  obtain rfl := Option.some.inj H
  go_enter Try.func151,Try.ntmps151
  go_wp2_with (first|((with_reducible refine gcal_ (f := 144) rfl ?_);refine gl_ (some 6) Try.func144 #[.int .i64 a0] ?_;(with_reducible refine (cmp_isNaN_int64.calls a0 false _ A3.out).mono ?_);rintro e w' ⟨rfl,⟨nd,rfl⟩⟩;refine ⟨_,rfl,?_⟩))
  go_ret
  exact ⟨rs_,by repeat (first|exact Drawn0.refl _|apply Drawn0.step)⟩

/-! ### slices_isNaN_int64: function 152 -/
def slices_isNaN_int64.f (a0 : Int) : Option (Bool) := some (a0 != a0)
set_option maxHeartbeats 8000000 in
set_option maxRecDepth 100000 in
theorem slices_isNaN_int64.calls (a0 : Int) (r : Bool) (w : World) (h : slices_isNaN_int64.f a0 = some r) :
    Calls Try.prog 152 #[.int .i64 a0] w fun e w' => e = .returned (.bool r) ∧ Drawn0 w w' := by
 have H : (some (a0 != a0)) = some r := h
 clear h
 obtain rfl := Option.some.inj H
 go_enter Try.func152,Try.ntmps152
 go_wp2
 go_ret
 exact ⟨rs_,by repeat (first|exact Drawn0.refl _|apply Drawn0.step)⟩

/-! ### slices_BinarySearch_int64_int64: function 136 -/
def slices_BinarySearch_int64_int64.l0 : Nat → List Int → Int → Int → Int → Int → Option (Int × Bool)
  | 0, _, _, _, _, _ => none
  | k + 1, x0, x1, x6, x7, x8 => if x7 < x8 then (if 0 ≤ (wrap64 ((IntKind.u64.wrap (wrap64 (x7 + x8))) / 2)) then (if (wrap64 ((IntKind.u64.wrap (wrap64 (x7 + x8))) / 2)) < (x0.length : Int) then ((cmp_Less_int64.f (rd x0 (wrap64 ((IntKind.u64.wrap (wrap64 (x7 + x8))) / 2))) x1).bind fun t305 => (if t305 = true then (slices_BinarySearch_int64_int64.l0 k x0 x1 x6 (wrap64 ((wrap64 ((IntKind.u64.wrap (wrap64 (x7 + x8))) / 2)) + 1)) x8) else (slices_BinarySearch_int64_int64.l0 k x0 x1 x6 x7 (wrap64 ((IntKind.u64.wrap (wrap64 (x7 + x8))) / 2))))) else (none)) else (none)) else (if x7 < x6 then (if 0 ≤ x7 then (if x7 < (x0.length : Int) then (if (rd x0 x7) = x1 then (some (x7, true)) else ((slices_isNaN_int64.f (rd x0 x7)).bind fun t308 => (if t308 = true then ((slices_isNaN_int64.f x1).bind fun t309 => (some (x7, t309))) else (some (x7, false))))) else (none)) else (none)) else (some (x7, false)))
def slices_BinarySearch_int64_int64.f (k : Nat) (l0 : List Int) (a1 : Int) : Option (Int × Bool) := slices_BinarySearch_int64_int64.l0 k l0 a1 (l0.length : Int) 0 (l0.length : Int)

set_option maxHeartbeats 8000000 in
set_option maxRecDepth 100000 in
theorem slices_BinarySearch_int64_int64.calls (k : Nat) (A0 : Option Addr) (c0 : Nat) (l0 : List Int) (a1 : Int) (r1 : Int) (r2 : Bool) (w : World) (hr0 : Kd.C (Kd.int .i64) w A0 l0.length l0) (hc0 : l0.length ≤ c0) (h : slices_BinarySearch_int64_int64.f k l0 a1 = some (r1, r2)) :
    Calls Try.prog 136 #[.slice A0 l0.length c0, .int .i64 a1] w fun e w' => e = .returned (.tuple #[.int .i64 r1, .bool r2]) ∧ Drawn0 w w' := by
 have HR0 := ak hr0
 have HC0 := ak hc0
 clear hr0 hc0
 have H : (slices_BinarySearch_int64_int64.l0 k l0 a1 (l0.length : Int) 0 (l0.length : Int)) = some (r1,r2) := h
 clear h
 have H' := ak H
 clear H
 go_enter Try.func136,Try.ntmps136
 go_wp2
 go_loopg [7,8] k (fun kq v7 v8 w' => ∃ (x7_1 : Int) (x8_1 : Int),v7 = .int .i64 x7_1 ∧ v8 = .int .i64 x8_1 ∧ Aside0 (slices_BinarySearch_int64_int64.l0 kq l0 a1 (l0.length : Int) x7_1 x8_1 = some (r1,r2)) ∧ Aside0 (kq ≤ k) ∧ Drawn0 w w')
 case atStart => exact ⟨(0),((l0.length : Int)),rs_,rs_,H',⟨Nat.le_refl _⟩,by repeat (first|exact Drawn0.refl _|apply Drawn0.step)⟩
 case round =>
  clear H'
  try clear c1
  try clear p2
  obtain ⟨x7_1,x8_1,rfl,rfl,HA,HK1,⟨m1,rfl⟩⟩ := hrel
  cases gk with
    | zero => exact absurd HA.out (by simp [slices_BinarySearch_int64_int64.l0])
    | succ k1 =>
   have H := HA.out
   clear HA
   simp only [slices_BinarySearch_int64_int64.l0] at H
   by_cases c3 : x7_1 < x8_1
   ·rw [if_pos c3] at H
    have c3b0 : decide (x7_1 < x8_1) = true := decide_eq_true c3
    clear c3
    obtain ⟨ji4,hji4⟩ : ∃ j_ : Int,(wrap64 ((IntKind.u64.wrap (wrap64 (x7_1 + x8_1))) / 2)) = j_ := ⟨_,rfl⟩
    replace H : (if 0 ≤ (ji4) then (if (ji4) < (l0.length : Int) then ((cmp_Less_int64.f (rd l0 (ji4)) a1).bind fun t305 => (if t305 = true then (slices_BinarySearch_int64_int64.l0 k1 l0 a1 (l0.length : Int) (wrap64 ((ji4) + 1)) x8_1) else (slices_BinarySearch_int64_int64.l0 k1 l0 a1 (l0.length : Int) x7_1 ji4))) else (none)) else (none)) = some (r1,r2) := by first|(rw [hji4] at H;exact H)|(simp only [hji4] at H ⊢;exact H)
    have hji4w : (IntKind.i64.wrap ((IntKind.u64.wrap (wrap64 (x7_1 + x8_1))) / 2)) = ji4 := (i64_w _).trans hji4
    by_cases c5 : 0 ≤ (ji4)
    ·rw [if_pos c5] at H
     have c5b0 : decide (0 ≤ (ji4)) = true := decide_eq_true c5
     clear c5
     by_cases c6 : (ji4) < (l0.length : Int)
     ·rw [if_pos c6] at H
      have c6b0 : decide ((ji4) < (l0.length : Int)) = true := decide_eq_true c6
      clear c6
      replace H := bs_ H
      obtain ⟨t305,A7,H⟩ := H
      by_cases c8 : t305 = true
      ·subst c8
       replace H := it_ H
       have H' := ak H
       clear H
       have p304 : 0 ≤ ((ji4) : Int) := od_
       have q304 : (ji4) < (l0.length : Int) := od_
       obtain ⟨ad304,e304,hx304_0⟩ := Kd.at_int HR0.out (ji4) p304 q304
       cases e304
       replace p304 := eq_true p304
       replace q304 := eq_true q304
       go_wp2_with (first|((with_reducible refine gcal_ (f := 151) rfl ?_);refine goesL_ (some 27) rfl rfl Try.func151 (by kernel_rfl) rfl #[.int .i64 (rd l0 (ji4)),.int .i64 a1] rfl (by (try simp only [List.map_toArray,List.map_cons,List.map_nil]);first|done|(simp only [hji4];rfl)|rfl|(simp only [List.length_drop,List.length_take];rfl)) ?_;(with_reducible refine (cmp_Less_int64.calls (rd l0 (ji4)) a1 true _ A7.out).mono ?_);rintro e w' ⟨rfl,⟨nd,rfl⟩⟩;refine ⟨_,rfl,?_⟩))
       go_roundg k1
       case measure => have := HK1.out;omega
       case rel => exact ⟨(wrap64 ((ji4) + 1)),(x8_1),(by first|rfl|(simp;done)|(simp only [← hji4] <;> (first|rfl|simp))|(simp [*];done)),rs_,H',⟨by have := HK1.out;omega⟩,by repeat (first|exact Drawn0.refl _|apply Drawn0.step)⟩
      ·replace c8 := Bool.eq_false_iff.mpr c8
       subst c8
       replace H := ie_ H
       have H' := ak H
       clear H
       have p304 : 0 ≤ ((ji4) : Int) := od_
       have q304 : (ji4) < (l0.length : Int) := od_
       obtain ⟨ad304,e304,hx304_0⟩ := Kd.at_int HR0.out (ji4) p304 q304
       cases e304
       replace p304 := eq_true p304
       replace q304 := eq_true q304
       go_wp2_with (first|((with_reducible refine gcal_ (f := 151) rfl ?_);refine goesL_ (some 27) rfl rfl Try.func151 (by kernel_rfl) rfl #[.int .i64 (rd l0 (ji4)),.int .i64 a1] rfl (by (try simp only [List.map_toArray,List.map_cons,List.map_nil]);first|done|(simp only [hji4];rfl)|rfl|(simp only [List.length_drop,List.length_take];rfl)) ?_;(with_reducible refine (cmp_Less_int64.calls (rd l0 (ji4)) a1 false _ A7.out).mono ?_);rintro e w' ⟨rfl,⟨nd,rfl⟩⟩;refine ⟨_,rfl,?_⟩))
       go_roundg k1
       case measure => have := HK1.out;omega
       case rel => exact ⟨(x7_1),(ji4),rs_,(by first|rfl|(simp;done)|(simp only [← hji4] <;> (first|rfl|simp))|(simp [*];done)),H',⟨by have := HK1.out;omega⟩,by repeat (first|exact Drawn0.refl _|apply Drawn0.step)⟩
     ·rw [if_neg c6] at H
      exact absurd H (by simp)
    ·rw [if_neg c5] at H
     exact absurd H (by simp)
   ·rw [if_neg c3] at H
    have c3b0 : decide (x7_1 < x8_1) = false := decide_eq_false c3
    clear c3
    by_cases c9 : x7_1 < (l0.length : Int)
    ·rw [if_pos c9] at H
     have c9b0 : decide (x7_1 < (l0.length : Int)) = true := decide_eq_true c9
     clear c9
     by_cases c10 : 0 ≤ x7_1
     ·rw [if_pos c10] at H
      have c10b0 : decide (0 ≤ x7_1) = true := decide_eq_true c10
      clear c10
      by_cases c11 : x7_1 < (l0.length : Int)
      ·rw [if_pos c11] at H
       have c11b0 : decide (x7_1 < (l0.length : Int)) = true := decide_eq_true c11
       clear c11
       by_cases c12 : (rd l0 x7_1) = a1
       ·rw [if_pos c12] at H
        have c12b0 : ((rd l0 x7_1) == a1) = true := beq_iff_eq.mpr c12
        have c12b1 : ((rd l0 x7_1) != a1) = false := bne_eq_false_iff_eq.mpr c12
        clear c12
        simp only [Option.some.injEq,Prod.mk.injEq] at H
        obtain ⟨rfl,rfl⟩ := H
        have p306 : 0 ≤ (x7_1 : Int) := od_
        have q306 : x7_1 < (l0.length : Int) := od_
        obtain ⟨ad306,e306,hx306_0⟩ := Kd.at_int HR0.out x7_1 p306 q306
        cases e306
        replace p306 := eq_true p306
        replace q306 := eq_true q306
        go_wp2
        go_ret2
        exact ⟨rs_,by repeat (first|exact Drawn0.refl _|apply Drawn0.step)⟩
       ·rw [if_neg c12] at H
        have c12b0 : ((rd l0 x7_1) == a1) = false := beq_eq_false_iff_ne.mpr c12
        have c12b1 : ((rd l0 x7_1) != a1) = true := bne_iff_ne.mpr c12
        replace H := bs_ H
        obtain ⟨t308,A13,H⟩ := H
        by_cases c14 : t308 = true
        ·subst c14
         replace H := it_ H
         replace H := bs_ H
         obtain ⟨t309,A15,H⟩ := H
         simp only [Option.some.injEq,Prod.mk.injEq] at H
         obtain ⟨rfl,rfl⟩ := H
         have p306 : 0 ≤ (x7_1 : Int) := od_
         have q306 : x7_1 < (l0.length : Int) := od_
         obtain ⟨ad306,e306,hx306_0⟩ := Kd.at_int HR0.out x7_1 p306 q306
         cases e306
         replace p306 := eq_true p306
         replace q306 := eq_true q306
         have p307 : 0 ≤ (x7_1 : Int) := od_
         have q307 : x7_1 < (l0.length : Int) := od_
         obtain ⟨ad307,e307,hx307_0⟩ := Kd.at_int HR0.out x7_1 p307 q307
         obtain rfl : ad306 = ad307 := (by injection e307)
         replace p307 := eq_true p307
         replace q307 := eq_true q307
         go_wp2_with (first|(go_at_call 152;(with_reducible refine (slices_isNaN_int64.calls (rd l0 x7_1) true _ A13.out).mono ?_);rintro e w' ⟨rfl,⟨nd,rfl⟩⟩)|(go_at_call 152;(with_reducible refine (slices_isNaN_int64.calls a1 t309 _ A15.out).mono ?_);rintro e w' ⟨rfl,⟨nd,rfl⟩⟩))
         go_ret2
         exact ⟨rs_,by repeat (first|exact Drawn0.refl _|apply Drawn0.step)⟩
        ·replace c14 := Bool.eq_false_iff.mpr c14
         subst c14
         replace H := ie_ H
         simp only [Option.some.injEq,Prod.mk.injEq] at H
         obtain ⟨rfl,rfl⟩ := H
         have p306 : 0 ≤ (x7_1 : Int) := od_
         have q306 : x7_1 < (l0.length : Int) := od_
         obtain ⟨ad306,e306,hx306_0⟩ := Kd.at_int HR0.out x7_1 p306 q306
         cases e306
         replace p306 := eq_true p306
         replace q306 := eq_true q306
         have p307 : 0 ≤ (x7_1 : Int) := od_
         have q307 : x7_1 < (l0.length : Int) := od_
         obtain ⟨ad307,e307,hx307_0⟩ := Kd.at_int HR0.out x7_1 p307 q307
         obtain rfl : ad306 = ad307 := (by injection e307)
         replace p307 := eq_true p307
         replace q307 := eq_true q307
         go_wp2_with (first|(go_at_call 152;(with_reducible refine (slices_isNaN_int64.calls (rd l0 x7_1) false _ A13.out).mono ?_);rintro e w' ⟨rfl,⟨nd,rfl⟩⟩))
         go_ret2
         exact ⟨rs_,by repeat (first|exact Drawn0.refl _|apply Drawn0.step)⟩
      ·rw [if_neg c11] at H
       exact absurd H (by simp)
     ·rw [if_neg c10] at H
      exact absurd H (by simp)
    ·rw [if_neg c9] at H
     have c9b0 : decide (x7_1 < (l0.length : Int)) = false := decide_eq_false c9
     clear c9
     simp only [Option.some.injEq,Prod.mk.injEq] at H
     obtain ⟨rfl,rfl⟩ := H
     go_wp2
     go_ret2
     exact ⟨rs_,by repeat (first|exact Drawn0.refl _|apply Drawn0.step)⟩

-- NOT PRINTED: function 153 (slices_overlaps_int64)

end Go.Proofs.Ythplaakckfhaaaa.XCd
