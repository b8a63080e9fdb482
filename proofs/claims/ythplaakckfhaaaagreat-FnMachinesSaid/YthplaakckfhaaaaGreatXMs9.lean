/- Proved: a call of each Go function here comes to what its Lean function tells. -/
import Derived.Test.YthplaakckfhaaaaGreatXMs0
import Derived.Test.YthplaakckfhaaaaGreatXMs5
namespace Go.Proofs.YthplaakckfhaaaaGreat.XMs
open Go.RowKit Go.Proofs.YthplaakckfhaaaaGreat.Aid Go.Proofs.YthplaakckfhaaaaGreatW.PrintWords Go.Proofs.YthplaakckfhaaaaGreatW.PrintLast Go.Proofs.YthplaakckfhaaaaGreatW.PrintMore
attribute [local go_sem] max2_int min2_int max_two min_two max_three min_three max_four min_four   -- for this text's walks alone
set_option linter.unusedVariables false
set_option maxHeartbeats 8000000
set_option maxRecDepth 100000
set_option linter.unusedSimpArgs false

/-! ### words for slices.DeleteFunc at a struct: a row's cells and its elements' blocks, told apart; a row told anew out of some of its elements -/
theorem S_rows_ {α : Type} {d : Kd α} {e : Nat} {w : World} {base : Nat} {ok : Nat → Prop} {g n cap : Nat} {xs : List α} (h : Kd.S d e w base ok (.slice (some ⟨g, 0, none⟩) n cap) xs) :
  ∃ (f : Nat → Nat) (rows : List (List Value)),rows.length = xs.length ∧ ok g ∧ (Kd.raw d.sz).R e w base (fun _ => True) (.slice (some ⟨g,0,none⟩) n cap) rows ∧ ∀ (j : Nat) (x : α) (c : List Value),xs[j]? = some x → rows[j]? = some c → d.M w base (fun k => (ok k ∧ k ≠ g) ∧ f k = j) x c := by
 obtain ⟨f,h0,inner,ho,hr⟩ := h
 have hl : (Kd.chunks d.sz xs.zipIdx.length inner).length = xs.zipIdx.length := Kd.chunks_length _ _ _
 refine ⟨f,Kd.chunks d.sz xs.zipIdx.length inner,by rw [hl,List.length_zipIdx],h0 g (by simp [Value.ownBlock]),⟨fun _ _ => trivial,inner,by rw [hl];exact ho,Kd.reps_raw hr (fun x c hp => ⟨(Kd.tag f d).K_len ((Kd.tag f d).K_of_M hp),(Kd.tag f d).K_one ((Kd.tag f d).K_of_M hp)⟩)⟩,fun j x c hx hc => ?_⟩
 rw [Kd.chunks_get hc]
 have hm : d.M w base (fun k => (ok k ∧ some k ≠ (Value.slice (some ⟨g,0,none⟩) n cap).ownBlock) ∧ f k = j) x ((inner.drop (j * d.sz)).take d.sz) := hr.2 j (x,j) (Kd.zip_at hx)
 exact d.M_mono (fun k hk => ⟨⟨hk.1.1,fun he => hk.1.2 (by rw [he];simp [Value.ownBlock])⟩,hk.2⟩) hm
theorem S_of_rows_ {α : Type} {d : Kd α} {e : Nat} {w : World} {base : Nat} {ok : Nat → Prop} {g n cap : Nat} {ys : List α} {rows : List (List Value)} (f : Nat → Nat) (hl : rows.length = ys.length) (hg : ok g) (hR : (Kd.raw d.sz).R e w base (fun _ => True) (.slice (some ⟨g, 0, none⟩) n cap) rows)
  (hM : ∀ (j : Nat) (x : α) (c : List Value),ys[j]? = some x → rows[j]? = some c → d.M w base (fun k => (ok k ∧ k ≠ g) ∧ f k = j) x c) : Kd.S d e w base ok (.slice (some ⟨g,0,none⟩) n cap) ys := by
 obtain ⟨_,inner,ho,hr⟩ := hR
 refine ⟨f,fun k hk => ?_,inner,by rw [List.length_zipIdx,← hl];exact ho,by rw [List.length_zipIdx,← hl];exact hr.1,fun j p hj => ?_⟩
 ·have : g = k := by simpa [Value.ownBlock] using hk
  subst this;exact hg
 ·rw [List.getElem?_zipIdx,Nat.zero_add] at hj
  obtain ⟨x,hx,rfl⟩ := Option.map_eq_some_iff.1 hj
  have hjl : j < rows.length := by rw [hl];exact (List.getElem?_eq_some_iff.1 hx).1
  have h1 := hr.2 j _ (List.getElem?_eq_getElem hjl)
  have hm := hM j x _ hx (List.getElem?_eq_getElem hjl)
  show d.M w base (fun k => (ok k ∧ some k ≠ (Value.slice (some ⟨g,0,none⟩) n cap).ownBlock) ∧ f k = j) x ((inner.drop (j * d.sz)).take d.sz)
  rw [show (inner.drop (j * d.sz)).take d.sz = rows[j] from h1.1]
  exact d.M_mono (fun k hk => ⟨⟨hk.1.1,fun he => hk.1.2 (by simpa [Value.ownBlock] using he)⟩,hk.2⟩) hm
/-- Where index i stands in a list of indices. -/
noncomputable def posIn (ix : List Nat) (i : Nat) : Nat := open Classical in if h : ∃ j,ix[j]? = some i then Classical.choose h else 0
theorem posIn_at {ix : List Nat} (hn : ix.Nodup) {j i : Nat} (h : ix[j]? = some i) : posIn ix i = j := by
 have hex : ∃ j,ix[j]? = some i := ⟨j,h⟩
 unfold posIn
 rw [dif_pos hex]
 have hc := Classical.choose_spec hex
 have hlt := (List.getElem?_eq_some_iff.1 hc).1
 exact (List.getElem?_inj hlt hn).1 (hc.trans h.symm)
/-- The indices below j that stay. -/
def stays {α : Type} (p : α → Bool) (z : α) (xs : List α) (j : Nat) : List Nat := (List.range j).filter fun t => !p (xs.getD t z)
theorem stays_succ {α : Type} (p : α → Bool) (z : α) (xs : List α) (j : Nat) : stays p z xs (j + 1) = stays p z xs j ++ (if p (xs.getD j z) = true then [] else [j]) := by
 unfold stays
 rw [List.range_succ,List.filter_append]
 congr 1
 cases h : p (xs.getD j z)
 ·simp only [List.filter_cons,List.filter_nil,h];rfl
 ·simp only [List.filter_cons,List.filter_nil,h];rfl
theorem stays_nodup {α : Type} (p : α → Bool) (z : α) (xs : List α) (j : Nat) : (stays p z xs j).Nodup := List.nodup_range.filter _
theorem stays_lt {α : Type} (p : α → Bool) (z : α) (xs : List α) (j : Nat) {t : Nat} (h : t ∈ stays p z xs j) : t < j := List.mem_range.1 (List.mem_filter.1 h).1
theorem stays_map {α : Type} (p : α → Bool) (z : α) (xs : List α) : ∀ j, j ≤ xs.length → (stays p z xs j).map (xs.getD · z) = (xs.take j).filter fun x => !p x
  | 0, _ => by simp [stays]
  | j + 1, h => by
    have ih := stays_map p z xs j (by omega)
    have hj : xs.getD j z = xs[j] := by rw [List.getD_eq_getElem?_getD,List.getElem?_eq_getElem (by omega)];rfl
    rw [stays_succ,List.map_append,ih,List.take_succ_eq_append_getElem (by omega),List.filter_append,hj]
    congr 1
    cases hp : p xs[j] with
    | true =>
     rw [if_pos rfl]
     simp only [List.map_nil,List.filter_cons,hp,List.filter_nil]
     rfl
    | false =>
     rw [if_neg (by simp)]
     simp only [List.map_cons,List.map_nil,List.filter_cons,hp,hj,List.filter_nil]
     rfl
theorem stays_all {α : Type} (p : α → Bool) (z : α) (xs : List α) : ∀ j, (∀ t, t < j → p (xs.getD t z) = false) → stays p z xs j = List.range j
  | 0, _ => by simp [stays]
  | j + 1, h => by
    rw [stays_succ,stays_all p z xs j (fun t ht => h t (by omega)),List.range_succ,if_neg (by rw [h j (by omega)];simp)]
theorem idx_first {α : Type} (p : α → Bool) : ∀ (l : List α) (i : Nat), (idxFrom (fun x => some (p x)) l i = some (-1) ∧ ∀ x ∈ l, p x = false) ∨ ∃ j, ∃ h : j < l.length, idxFrom (fun x => some (p x)) l i = some ((i + j : Nat) : Int) ∧ p l[j] = true ∧ ∀ t (ht : t < j), p l[t] = false
  | [], i => .inl ⟨rfl, fun _ h => by cases h⟩
  | x :: l, i => by
    simp only [idxFrom,Option.bind_some]
    cases hx : p x with
    | true => exact .inr ⟨0, by simp, by simp, hx, fun t ht => by omega⟩
    | false =>
     rw [if_neg (by simp)]
     rcases idx_first p l (i + 1) with ⟨h1,h2⟩ | ⟨j,hj,h1,h2,h3⟩
     ·exact .inl ⟨h1,fun y hy => by
       rcases List.mem_cons.1 hy with e | e
       ·rw [e];exact hx
       ·exact h2 y e⟩
     ·refine .inr ⟨j + 1,by simpa using hj,by rw [h1];congr 2;omega,h2,fun t ht => ?_⟩
      cases t with
      | zero => exact hx
      | succ t => exact h3 t (by omega)
/-- Where the deleting of elements stands: element m is written next, element j read. -/
def Del {α : Type} (p : α → Bool) (z : α) (xs : List α) (rows0 rows : List (List Value)) (m j : Nat) : Prop :=
 m = (stays p z xs j).length ∧ rows.length = rows0.length ∧ rows.take m = (stays p z xs j).map (rows0.getD · []) ∧ rows.drop j = rows0.drop j
theorem del_skip {α : Type} {p : α → Bool} {z : α} {xs : List α} {rows0 rows : List (List Value)} {m j : Nat} (h : Del p z xs rows0 rows m j) (hp : p (xs.getD j z) = true) : Del p z xs rows0 rows m (j + 1) := by
 obtain ⟨h1,h2,h3,h4⟩ := h
 have e := stays_succ p z xs j
 rw [if_pos hp,List.append_nil] at e
 refine ⟨by rw [e];exact h1,h2,by rw [e];exact h3,?_⟩
 rw [← List.drop_drop,← List.drop_drop,h4]
theorem del_at {α : Type} {p : α → Bool} {z : α} {xs : List α} {rows0 rows : List (List Value)} {m j : Nat} (h : Del p z xs rows0 rows m j) (hj : j < rows0.length) : rows.getD j [] = rows0.getD j [] := by
 obtain ⟨h1,h2,h3,h4⟩ := h
 have := congrArg (fun l => l[0]?) h4
 simp only [List.getElem?_drop,Nat.add_zero] at this
 rw [List.getD_eq_getElem?_getD,List.getD_eq_getElem?_getD,this]
theorem del_move {α : Type} {p : α → Bool} {z : α} {xs : List α} {rows0 rows : List (List Value)} {m j : Nat} (h : Del p z xs rows0 rows m j) (hp : p (xs.getD j z) = false) (hm : m ≤ j) (hj : j < rows0.length) : Del p z xs rows0 (rows.set m (rows0.getD j [])) (m + 1) (j + 1) := by
 obtain ⟨h1,h2,h3,h4⟩ := h
 have e := stays_succ p z xs j
 rw [if_neg (by rw [hp];simp)] at e
 refine ⟨by rw [e,List.length_append,← h1];rfl,by rw [List.length_set,h2],?_,?_⟩
 ·rw [e,List.map_append,← h3]
  rw [List.take_succ_eq_append_getElem (by rw [List.length_set];omega),List.getElem_set_self,List.take_set_of_le (Nat.le_refl _)]
  rfl
 ·rw [List.drop_set_of_lt (by omega),← List.drop_drop,← List.drop_drop,h4]
/-- The row of what stays. -/
theorem S_kept_ {α : Type} {d : Kd α} {e : Nat} {w w1 : World} {base : Nat} {ok : Nat → Prop} {g m cap : Nat} {p : α → Bool} {z : α} {xs : List α} {rows0 : List (List Value)} {f : Nat → Nat} (hg : ok g) (hl : rows0.length = xs.length)
  (hM : ∀ (j : Nat) (x : α) (c : List Value),xs[j]? = some x → rows0[j]? = some c → d.M w base (fun k => (ok k ∧ k ≠ g) ∧ f k = j) x c) (hk : ∀ k,k ≠ g → k < w.heap.size → w1.heap[k]? = w.heap[k]?)
  (hR : (Kd.raw d.sz).R e w1 base (fun _ => True) (.slice (some ⟨g,0,none⟩) m cap) ((stays p z xs xs.length).map (rows0.getD · []))) : Kd.S d e w1 base ok (.slice (some ⟨g,0,none⟩) m cap) (xs.filter fun x => !p x) := by
 have hys : (xs.filter fun x => !p x) = (stays p z xs xs.length).map (xs.getD · z) := by rw [stays_map p z xs xs.length (Nat.le_refl _),List.take_length]
 rw [hys]
 refine S_of_rows_ (fun k => posIn (stays p z xs xs.length) (f k)) (by rw [List.length_map,List.length_map]) hg hR (fun j x c hx hc => ?_)
 rw [List.getElem?_map] at hx hc
 obtain ⟨t,ht,rfl⟩ := Option.map_eq_some_iff.1 hx
 obtain ⟨t2,ht2,rfl⟩ := Option.map_eq_some_iff.1 hc
 have : t2 = t := Option.some.inj (ht2.symm.trans ht)
 subst this
 have hlt := stays_lt p z xs xs.length (List.mem_of_getElem? ht)
 have hx0 : xs[t2]? = some (xs.getD t2 z) := by rw [List.getD_eq_getElem?_getD,List.getElem?_eq_getElem hlt];rfl
 have hr0 : rows0[t2]? = some (rows0.getD t2 []) := by rw [List.getD_eq_getElem?_getD,List.getElem?_eq_getElem (by omega)];rfl
 have hm := hM t2 _ _ hx0 hr0
 exact d.M_mono (fun k hk => ⟨hk.1,by show posIn _ (f k) = j;rw [hk.2];exact posIn_at (stays_nodup p z xs _) ht⟩) (Kd.M_step hm (fun k hk2 hlt => hk k hk2.1.2 hlt))
theorem run_clear_row {P : Program} (w : World) (t e ty : TypeId) (z : Value) (ht : P.underlying t = some (.slice e)) (hv : ∀ w, (zeroValue e).run P w = .ok z w) (h1 : ∀ v ∈ z.cells.toList, v.oneCell' = true) (hz : 0 < z.cells.size) (b o n c : Nat) (hn : 0 < n)
  (hc : ∀ j,j < n * z.cells.size → (w.cell? ⟨b,o + j,none⟩).isSome = true) (hf : ∀ j,j < n * z.cells.size → w.frozen? ⟨b,o + j,none⟩ = false) :
  (Builtin.clear_ #[t] ty #[.slice (some ⟨b,o,none⟩) n c]).run P w = .ok (.tuple #[]) (w.setCells b o (Builtin.zeroCells z.cells n).toList) := by
 have hl : (Builtin.zeroCells z.cells n).toList.length = n * z.cells.size := by simp [Builtin.zeroCells]
 have hst := run_storeCells_cells (P := P) b o (Builtin.zeroCells z.cells n).toList 0 w (by rw [hl];simpa using hc) (by rw [hl];simpa using hf) (by
  intro v hv'
  simp only [Builtin.zeroCells,Array.toList_map,List.mem_map,Array.mem_toList_iff,Array.mem_range] at hv'
  obtain ⟨i,_,rfl⟩ := hv'
  have : i % z.cells.size < z.cells.size := Nat.mod_lt _ hz
  rw [getElem!_pos z.cells _ this]
  exact h1 _ (by simp))
 simp only [Nat.add_zero] at hst
 obtain ⟨m,rfl⟩ : ∃ m,n = m + 1 := ⟨n - 1,by omega⟩
 simp [Builtin.clear_,run_underlying ht,hv,hst]
theorem keep_set_ {w w1 : World} {g : Nat} (h : KeepBut w w1 g none) (j : Nat) (u : Value) : KeepBut w (w1.setCell ⟨g, j, none⟩ u) g none :=
 ⟨by simpa [World.setCell] using h.1,fun i hi hg hr => (Below.heap_setCell w1 ⟨g,j,none⟩ u i hg).trans (h.2 i hi hg hr)⟩
theorem zero_cells4_ (a b c d : Value) : ∀ n, (Builtin.zeroCells #[a, b, c, d] n).toList = (List.replicate n [a, b, c, d]).flatten
  | 0 => by simp [Builtin.zeroCells]
  | n + 1 => by
    have ih := zero_cells4_ a b c d n
    have e : (Builtin.zeroCells #[a,b,c,d] (n + 1)).toList = (Builtin.zeroCells #[a,b,c,d] n).toList ++ [a,b,c,d] := by
     simp only [Builtin.zeroCells,Array.toList_map,Array.toList_range]
     show (List.range ((n + 1) * 4)).map _ = (List.range (n * 4)).map _ ++ _
     rw [show (n + 1) * 4 = n * 4 + 4 from by omega,List.range_add,List.map_append]
     congr 1
     have h0 : (n * 4 + 0) % 4 = 0 := by omega
     have h1 : (n * 4 + 1) % 4 = 1 := by omega
     have h2 : (n * 4 + 2) % 4 = 2 := by omega
     have h3 : (n * 4 + 3) % 4 = 3 := by omega
     show [(#[a,b,c,d] : Array Value)[(n * 4 + 0) % 4]!,(#[a,b,c,d] : Array Value)[(n * 4 + 1) % 4]!,(#[a,b,c,d] : Array Value)[(n * 4 + 2) % 4]!,(#[a,b,c,d] : Array Value)[(n * 4 + 3) % 4]!] = _
     rw [h0,h1,h2,h3]
     rfl
    rw [e,ih,List.replicate_succ',List.flatten_append]
    simp
theorem blk_put_ {w : World} {g : Nat} {e : TypeId} {cur c2 : Array Value} (h : w.heap[g]? = some (.cells cur e (0, 0))) (j : Nat) (v : Value) (hj : j < cur.size) (h2 : c2 = cur.set j v hj) : (w.setCell ⟨g, j, none⟩ v).heap[g]? = some (.cells c2 e (0, 0)) := by
 subst h2
 exact blk_put (cs := cur) h j v (by simp [Array.set!,Array.setIfInBounds,hj])
theorem addr_at_ (g j : Nat) : (⟨g, 0, none⟩ : Addr).add j = ⟨g, j, none⟩ := by unfold Addr.add; split <;> simp_all
theorem addr_off_ (g o j : Nat) : (⟨g, o, none⟩ : Addr).add j = ⟨g, o + j, none⟩ := by unfold Addr.add; split <;> simp_all
/-! ### impl_Machine_clear_1: function 84 -/
theorem impl_Machine_clear_1.calls (a0_0 a0_1 a0_2 : Int) (A0_3 : Option Addr) (c0_3 : Nat) (l0_3 : List (S119)) (g1 g2 : Nat) (q1 q2 : Int) (w : World) (h1 : w.cell? ⟨g1, 0, none⟩ = some (.int .i64 q1)) (h2 : w.cell? ⟨g2, 0, none⟩ = some (.int .i64 q2)) :
    Calls Tryz.prog 84 (#[.agg #[.int .i64 a0_0, .int .i64 a0_1, .int .i64 a0_2, .slice A0_3 l0_3.length c0_3]] ++ #[.pointer (some ⟨g1, 0, none⟩), .pointer (some ⟨g2, 0, none⟩)]) w fun e w' => e = .returned (.bool ((a0_1 == q1) && (a0_2 == q2))) ∧ Below w.heap.size w w' := by
 have hu := Tryz.underlying50
 have l1 : g1 < w.heap.size := World.block_lt_of_cell? w _ h1
 have l2 : g2 < w.heap.size := World.block_lt_of_cell? w _ h2
 have n1 : g1 ≠ w.heap.size := Nat.ne_of_lt l1
 have n2 : g2 ≠ w.heap.size := Nat.ne_of_lt l2
 show Calls Tryz.prog 84 #[.agg #[.int .i64 a0_0,.int .i64 a0_1,.int .i64 a0_2,.slice A0_3 l0_3.length c0_3],.pointer (some ⟨g1,0,none⟩),.pointer (some ⟨g2,0,none⟩)] w _
 by_cases e1 : a0_1 = q1
 ·subst e1
  by_cases e2 : a0_2 = q2
  ·subst e2
   go_enter Tryz.func84,Tryz.ntmps84
   go_wp2
   go_ret
   exact ⟨by simp,(Below.refl _ _).alloc (Nat.le_refl _) _⟩
  ·have f2 : (a0_2 == q2) = false := by simpa using e2
   go_enter Tryz.func84,Tryz.ntmps84
   go_wp2
   go_ret
   exact ⟨by simp [e2],(Below.refl _ _).alloc (Nat.le_refl _) _⟩
 ·have f1 : (a0_1 == q1) = false := by simpa using e1
  go_enter Tryz.func84,Tryz.ntmps84
  go_wp2
  go_ret
  exact ⟨by simp [e1],(Below.refl _ _).alloc (Nat.le_refl _) _⟩

/-! ### slices_DeleteFunc_Record: function 83 -/
def hits (q1 q2 : Int) (x : S50) : Bool := (x.f1 == q1) && (x.f2 == q2)
theorem hold_83 {p : Prop} (h : Aside0 p) : p := h.out
theorem row_cells_ {d : Kd S50} {w : World} {base : Nat} {ok : Nat → Prop} {x : S50} {c : List Value} (h : k50.M w base ok x c) : ∃ A c3, c = [.int .i64 x.f0, .int .i64 x.f1, .int .i64 x.f2, .slice A x.f3.length c3] := by
 obtain ⟨v3,rfl,h3⟩ := k50_openM h
 obtain ⟨A,c3,rfl⟩ := Kd.R_slice h3
 exact ⟨A,c3,rfl⟩
/-- The cells of element i of a row of cells. -/
theorem raw_at_ {w : World} {base g n cap : Nat} {rows : List (List Value)} (h : (Kd.raw 4).R 50 w base (fun _ => True) (.slice (some ⟨g, 0, none⟩) n cap) rows) (i : Nat) (hi : i < rows.length) :
  (∀ j u,(rows.getD i [])[j]? = some u → w.cell? ⟨g,i * 4 + j,none⟩ = some u) ∧ (rows.getD i []).length = 4 ∧ ∀ j,w.frozen? ⟨g,i * 4 + j,none⟩ = false := by
 have hn := (Kd.R_reads' h).1
 obtain ⟨c,hcl,hM,hcc,hfr⟩ := Kd.R_elem h [] (i : Int) (by omega) (by omega)
 rw [Int.toNat_natCast] at hM hcc hfr
 have hc : c = rows.getD i [] := hM.1
 subst hc
 exact ⟨hcc,hcl,hfr⟩
/-- Element i is written whole. -/
theorem raw_put_ {w : World} {base g n cap : Nat} {rows : List (List Value)} (h : (Kd.raw 4).R 50 w base (fun _ => True) (.slice (some ⟨g, 0, none⟩) n cap) rows) (i : Nat) (hi : i < rows.length) (c' : List Value) (hl : c'.length = 4) (h1 : ∀ u ∈ c', u.oneCell' = true) :
  (Kd.raw 4).R 50 (w.setCells g (i * 4) c') base (fun _ => True) (.slice (some ⟨g,0,none⟩) n cap) (rows.set i c') ∧ w.grownBy (w.setCells g (i * 4) c') (some g) := by
 have hn := (Kd.R_reads' h).1
 obtain ⟨c,hcl,hM,hcc,hfr⟩ := Kd.R_elem h [] (i : Int) (by omega) (by omega)
 have hcl' : c.length = 4 := hcl
 have e : c.take 0 ++ c' ++ c.drop (0 + c'.length) = c' := by rw [List.take_zero,List.nil_append,List.drop_of_length_le (by omega),List.append_nil]
 have hp := Kd.R_seg h (i : Int) (by omega) (by omega) (c := c) (seg := c') (j := 0) (x' := c') (okp := fun _ => False) hcl hcc (by show 0 + c'.length ≤ 4;omega) ⟨e,by rw [e];exact hl,by rw [e];exact h1⟩ (fun _ hk => hk.elim)
 rw [Int.toNat_natCast] at hp
 exact hp
theorem setCells_append_ (b : Nat) : ∀ (a c : List Value) (o : Nat) (w : World), w.setCells b o (a ++ c) = (w.setCells b o a).setCells b (o + a.length) c
  | [], c, o, w => by simp [World.setCells]
  | v :: a, c, o, w => by
    rw [List.cons_append,World.setCells,World.setCells,setCells_append_ b a c (o + 1),List.length_cons]
    congr 1
    omega
/-- d elements from i on are written whole, one behind the other. -/
theorem raw_fill_ (zs : List Value) (hz : zs.length = 4) (h1 : ∀ u ∈ zs, u.oneCell' = true) {base g n cap : Nat} : ∀ (d i : Nat) (w : World) (rows : List (List Value)), (Kd.raw 4).R 50 w base (fun _ => True) (.slice (some ⟨g, 0, none⟩) n cap) rows → i + d = rows.length →
  ∃ rows',(Kd.raw 4).R 50 (w.setCells g (i * 4) ((List.replicate d zs).flatten)) base (fun _ => True) (.slice (some ⟨g,0,none⟩) n cap) rows' ∧ rows'.take i = rows.take i ∧ rows'.length = rows.length ∧ KeepBut w (w.setCells g (i * 4) ((List.replicate d zs).flatten)) g none ∧ (∀ w0 : World,∀ B,Below B w0 w → B ≤ g → Below B w0 (w.setCells g (i * 4) ((List.replicate d zs).flatten)))
  | 0, i, w, rows, h, hd => ⟨rows, by simpa [World.setCells] using h, rfl, rfl, by simpa [World.setCells] using KeepBut.refl w g none, fun w0 B hb _ => by simpa [World.setCells] using hb⟩
  | d + 1, i, w, rows, h, hd => by
    obtain ⟨hr,hg⟩ := raw_put_ h i (by omega) zs hz h1
    obtain ⟨rows',h2,h3,h4,h5,h6⟩ := raw_fill_ zs hz h1 d (i + 1) _ _ hr (by rw [List.length_set];omega)
    have e : (List.replicate (d + 1) zs).flatten = zs ++ (List.replicate d zs).flatten := by rw [List.replicate_succ,List.flatten_cons]
    rw [e,setCells_append_,hz,show i * 4 + 4 = (i + 1) * 4 from by omega]
    refine ⟨rows',h2,?_,by rw [h4,List.length_set],?_,fun w0 B hb hBg => h6 w0 B (hb.grown hg (Nat.le_trans hBg (Nat.le_of_lt (Kd.R_lt h g (by simp [Value.ownBlock])))) (fun k hk => by injection hk with hk;omega)) hBg⟩
    ·have := congrArg (List.take i) h3
     rw [List.take_take,List.take_take,Nat.min_eq_left (by omega),List.take_set_of_le (Nat.le_refl _)] at this
     exact this
    ·exact ⟨Nat.le_trans hg.size h5.1,fun k hk hkg hn => (h5.2 k (Nat.lt_of_lt_of_le hk hg.size) hkg hn).trans (hg.block k hk (fun he => hkg (by injection he)))⟩
theorem raw_take_ {w : World} {base g n cap : Nat} {rows : List (List Value)} (h : (Kd.raw 4).R 50 w base (fun _ => True) (.slice (some ⟨g, 0, none⟩) n cap) rows) (m : Nat) (hm : m ≤ rows.length) : (Kd.raw 4).R 50 w base (fun _ => True) (.slice (some ⟨g, 0, none⟩) m cap) (rows.take m) := by
 obtain ⟨h0,inner,ho,hr⟩ := h
 have hn : n = rows.length := by
  rcases ho.2 with ⟨hv,_⟩ | ⟨_,_,_,hv,_⟩
  ·cases hv
  ·injection hv
 refine ⟨fun _ _ => trivial,inner.take (m * 4),⟨?_,?_⟩,?_,fun j p hj => ?_⟩
 ·have := ho.1
  have h4 : (Kd.raw 4).sz = 4 := rfl
  rw [List.length_take,List.length_take,this,h4]
  have : m * 4 ≤ rows.length * 4 := Nat.mul_le_mul_right _ hm
  rw [Nat.min_eq_left hm];omega
 ·rcases ho.2 with ⟨hv,_⟩ | ⟨g',cap',cur,hv,hb,hh,hc1,hc2,hc3,hc4⟩
  ·cases hv
  ·injection hv with hv1 hv2 hv3
   injection hv1 with hv1
   injection hv1 with hv1
   subst hv1
   subst hv3
   refine .inr ⟨g,cap,cur,by rw [List.length_take,Nat.min_eq_left hm],hb,hh,by rw [List.length_take];omega,hc2,hc3,?_⟩
   rw [← hc4,List.take_take,List.length_take,Nat.min_eq_left hm]
   congr 1
   show m * 4 = min (m * 4) (rows.length * 4)
   have : m * 4 ≤ rows.length * 4 := Nat.mul_le_mul_right _ hm
   omega
 ·have := hr.1
  have h4 : (Kd.raw 4).sz = 4 := rfl
  rw [h4] at this
  rw [List.length_take,List.length_take,this,h4]
  have : m * 4 ≤ rows.length * 4 := Nat.mul_le_mul_right _ hm
  rw [Nat.min_eq_left hm];omega
 ·have hjl := (List.getElem?_eq_some_iff.1 hj).1
  rw [List.length_take] at hjl
  rw [List.getElem?_take_of_lt (by omega)] at hj
  have h2 := hr.2 j p hj
  have e : ((inner.take (m * 4)).drop (j * 4)).take 4 = (inner.drop (j * 4)).take 4 := by
   rw [List.drop_take,List.take_take,Nat.min_eq_left (by omega)]
  show _ = p ∧ _
  have h3 : (inner.drop (j * 4)).take 4 = p ∧ ((inner.drop (j * 4)).take 4).length = 4 ∧ ∀ u ∈ (inner.drop (j * 4)).take 4,u.oneCell' = true := h2
  rw [← e] at h3
  exact h3
theorem four_ {l : List Value} (h : l.length = 4) : ∃ a b c d, l = [a, b, c, d] := by
 match l,h with
  | [a, b, c, d], _ => exact ⟨a, b, c, d, rfl⟩
theorem del_start_ {p : S50 → Bool} {l0 : List S50} {rows0 : List (List Value)} (hl : rows0.length = l0.length) {j0 : Nat} (hj : j0 < l0.length) (h1 : p l0[j0] = true) (h2 : ∀ s (hs : s < j0), p l0[s] = false) : Del p z50 l0 rows0 rows0 j0 (j0 + 1) := by
 have hz : ∀ s (hs : s < l0.length),l0.getD s z50 = l0[s] := fun s hs => by rw [List.getD_eq_getElem?_getD,List.getElem?_eq_getElem hs];rfl
 have e1 : stays p z50 l0 (j0 + 1) = List.range j0 := by
  rw [stays_succ,if_pos (by rw [hz j0 hj];exact h1),List.append_nil,stays_all p z50 l0 j0 (fun t ht => by rw [hz t (by omega)];exact h2 t ht)]
 refine ⟨by rw [e1,List.length_range],rfl,?_,rfl⟩
 rw [e1]
 apply List.ext_getElem
 ·simp;omega
 ·intro i h3 h4
  have : i < rows0.length := by simp at h3;omega
  simp only [List.getElem_take,List.getElem_map,List.getElem_range]
  rw [List.getD_eq_getElem?_getD,List.getElem?_eq_getElem this];rfl
theorem slices_DeleteFunc_Record.calls (P0_ : Nat → Prop) (A0 : Option Addr) (c0 : Nat) (l0 : List (S50)) (g1 g2 : Nat) (q1 q2 : Int) (w0 w : World) (hB : Below w0.heap.size w0 w) (hP1 : ¬ P0_ g1) (hP2 : ¬ P0_ g2) (h1 : w.cell? ⟨g1, 0, none⟩ = some (.int .i64 q1)) (h2 : w.cell? ⟨g2, 0, none⟩ = some (.int .i64 q2)) (ho : Kd.S k50 50 w w0.heap.size P0_ (.slice A0 l0.length c0) l0) :
    Calls Tryz.prog 83 #[.slice A0 l0.length c0, .func (.func 84) #[] #[.pointer (some ⟨g1, 0, none⟩), .pointer (some ⟨g2, 0, none⟩)]] w fun e w' => ∃ A' c', e = .returned (.slice A' (l0.filter fun x => !hits q1 q2 x).length c') ∧ Kd.S k50 50 w' w0.heap.size P0_ (.slice A' (l0.filter fun x => !hits q1 q2 x).length c') (l0.filter fun x => !hits q1 q2 x) ∧ Below w0.heap.size w0 w' ∧ Kept w w' P0_ := by
 have hu := Tryz.underlying50
 have hlen := (Kd.S_reads' ho).2.2.2.1
 have HO := ak ho
 have HB := ak hB
 have X1 := ak h1
 have X2 := ak h2
 have HC := ak (Kd.S_reads' ho).2.1
 have HR := ak (Kd.S_reads' ho).2.2
 clear ho hB h1 h2
 obtain ⟨t,T1,T2⟩ : ∃ t,Aside0 (idxFrom (fun x : S50 => some (hits q1 q2 x)) l0 0 = some t) ∧ Aside0 ((t = -1 ∧ ∀ x ∈ l0,hits q1 q2 x = false) ∨ ∃ j,∃ h : j < l0.length,t = (j : Int) ∧ hits q1 q2 l0[j] = true ∧ ∀ s (hs : s < j),hits q1 q2 l0[s] = false) := by
  rcases idx_first (hits q1 q2) l0 0 with ⟨e1,e2⟩ | ⟨j,hj,e1,e2,e3⟩
  ·exact ⟨_,⟨e1⟩,⟨.inl ⟨rfl,e2⟩⟩⟩
  ·exact ⟨_,⟨e1⟩,⟨.inr ⟨j,hj,by omega,e2,e3⟩⟩⟩
 have hi := impl_Record_116.idx (fun x : S50 => some (hits q1 q2 x)) 84 #[.pointer (some ⟨g1,0,none⟩),.pointer (some ⟨g2,0,none⟩)] (enters_of Tryz.func84 (by kernel_rfl) rfl) A0 c0 l0 w (fun x A3 c3 b W hb_ hB_ hL_ hC_ => by
  obtain rfl := Option.some.inj hb_
  exact (impl_Machine_clear_1.calls x.f0 x.f1 x.f2 A3 c3 x.f3 g1 g2 q1 q2 W ((hB_.cell (World.block_lt_of_cell? w _ X1.out)).trans X1.out) ((hB_.cell (World.block_lt_of_cell? w _ X2.out)).trans X2.out)).mono fun e w' hh => ⟨hh.1,below_step hB_ hh.2⟩) HR.out HC.out t T1.out
 go_enter Tryz.func83,Tryz.ntmps83
 rcases T2.out with ⟨e1,e2⟩ | ⟨j0,hj0,e1,e2,e3⟩
 ·subst e1
  have hf : (l0.filter fun x => !hits q1 q2 x) = l0 := List.filter_eq_self.2 (fun x hx => by rw [e2 x hx];rfl)
  rw [hf]
  clear T1 T2 e2
  go_wp2_with (go_at_call 116;refine hi.mono ?_;rintro e w1 ⟨rfl,hb⟩)
  go_ret
  exact ⟨A0,c0,rfl,Kd.S_below HO.out hb,below_step HB.out hb,⟨hb.size,fun k hk _ => hb.block k hk⟩⟩
 ·subst e1
  have hjb : ((j0 : Int) == -1) = false := beq_eq_false_iff_ne.mpr (by omega)
  obtain ⟨go,co,eo,gbo,glo,_⟩ := Kd.S_form HO.out (by omega)
  obtain rfl : A0 = some ⟨go,0,none⟩ := (by injection eo)
  obtain rfl : c0 = co := (by injection eo)
  clear eo
  have GB : Aside0 (w0.heap.size ≤ go) := ⟨gbo⟩
  go_wp2_with (go_at_call 116;refine hi.mono ?_;rintro e w1 ⟨rfl,hb⟩;replace HO := ak (Kd.S_below HO.out hb);replace HB := ak (below_step HB.out hb);have K1 := ak hb)
  obtain ⟨f,rows0,hl0,hg,hraw,hM⟩ := S_rows_ HO.out
  have LR := ak hl0
  have HG := ak hg
  have HM := ak hM
  have HC0 := ak (Kd.R_reads' hraw).2.1
  have HA := ak hraw
  have HD : Aside0 (Del (hits q1 q2) z50 l0 rows0 rows0 j0 (j0 + 1)) := ⟨del_start_ hl0 hj0 e2 e3⟩
  have XA : Aside0 (w1.cell? ⟨g1,0,none⟩ = some (.int .i64 q1)) := ⟨(K1.out.cell (World.block_lt_of_cell? w _ X1.out)).trans X1.out⟩
  have XB : Aside0 (w1.cell? ⟨g2,0,none⟩ = some (.int .i64 q2)) := ⟨(K1.out.cell (World.block_lt_of_cell? w _ X2.out)).trans X2.out⟩
  have N1 : Aside0 (g1 ≠ go) := ⟨fun e_ => hP1 (e_ ▸ hg)⟩
  have N2 : Aside0 (g2 ≠ go) := ⟨fun e_ => hP2 (e_ ▸ hg)⟩
  have HN : Aside0 (j0 < l0.length) := ⟨hj0⟩
  clear hl0 hg hraw hM T1 T2 e2 e3 hi gbo glo hjb hP1 hP2 HR
  go_loopg [5,6] l0.length (fun gg v5 v6 wr => ∃ (m j : Nat) (rows : List (List Value)),v5 = .int .i64 m ∧ v6 = .int .i64 j ∧ m < j ∧ j ≤ l0.length ∧ l0.length - j ≤ gg ∧ Aside0 (Del (hits q1 q2) z50 l0 rows0 rows m j) ∧ Aside0 ((Kd.raw 4).R 50 wr w0.heap.size (fun _ => True) (.slice (some ⟨go,0,none⟩) l0.length c0) rows) ∧ Aside0 (KeepBut w1 wr go none) ∧ Aside0 (Below w0.heap.size w0 wr))
  case atStart => exact ⟨j0,j0 + 1,rows0,rfl,by go_num,by omega,by omega,by omega,HD,HA,⟨KeepBut.refl _ _ _⟩,HB⟩
  case round =>
   clear HD HA HB
   obtain ⟨m,j,rows,rfl,rfl,hmj,hjl,hgg,HD,HA,HK,HB⟩ := hrel
   have hrl : rows.length = l0.length := HD.out.2.1.trans LR.out
   by_cases hlt : j < l0.length
   ·have hltz : (j : Int) < (l0.length : Int) := by omega
    have hx : l0[j]? = some l0[j] := List.getElem?_eq_getElem hlt
    have hr0 : rows0[j]? = some (rows0.getD j []) := by rw [List.getD_eq_getElem?_getD,List.getElem?_eq_getElem (by rw [LR.out];exact hlt)];rfl
    obtain ⟨Ae,ce,er⟩ := row_cells_ (d := k50) (HM.out j _ _ hx hr0)
    have ER := ak er
    have ej := del_at HD.out (by rw [LR.out];exact hlt)
    have hz : l0.getD j z50 = l0[j] := by rw [List.getD_eq_getElem?_getD,hx];rfl
    obtain ⟨hca,_,_⟩ := raw_at_ HA.out j (by omega)
    rw [ej,er] at hca
    have hx0 := hca 0 _ rfl
    have hx1 := hca 1 _ rfl
    have hx2 := hca 2 _ rfl
    have hx3 := hca 3 _ rfl
    rw [Nat.add_zero] at hx0
    generalize l0[j] = x at *
    have HZ := ak hz
    clear hx hr0 er ej hca hz
    go_wp2_with ((with_reducible refine gate_dst (N := 7) rfl ?_);refine bx_ 7 #[.int .i64 0,.int .i64 0,.int .i64 0,.slice none 0 0] 50 ?_;intro gv hg w2 hbox hb;have hge := ak (Nat.le_of_eq hg.symm);clear hg;refine hold_83 ?_)
    refine ⟨?_⟩
    have BZ := ak hbox
    have Q0 := ak hb
    have HGE := hge
    clear hbox hb hge
    obtain ⟨⟨hcy_0, hcy_1, hcy_2, hcy_3⟩, hfy_0, hfy_1, hfy_2, hfy_3⟩ := cl4_ BZ.out
    go_upto_region 8 with (fail)
    obtain ⟨n0_, n1_⟩ := fl4_ Q0.out HGE.out BZ.out (.int .i64 x.f0) (.int .i64 x.f1) (.int .i64 x.f2) (.slice Ae x.f3.length ce)
    clear BZ Q0 hcy_0 hcy_1 hcy_2 hcy_3 hfy_0 hfy_1 hfy_2 hfy_3 hx0 hx1 hx2 hx3
    generalize ((((w2.setCell ⟨gv,0,none⟩ (.int .i64 x.f0)).setCell ⟨gv,1,none⟩ (.int .i64 x.f1)).setCell ⟨gv,2,none⟩ (.int .i64 x.f2)).setCell ⟨gv,3,none⟩ (.slice Ae x.f3.length ce)) = w3 at n0_ n1_ ⊢
    have hb3 := n0_.out
    have BV := n1_
    replace HA := ak (Kd.R_below HA.out hb3)
    replace HK := ak (KeepBut.trans HK.out (KeepBut.of_below hb3 go none) (.inl rfl))
    replace HB := ak (below_step HB.out hb3)
    clear n0_ n1_ hb3 HGE
    have hc0_ : w3.cell? ⟨gv,0,none⟩ = some (.int .i64 x.f0) := (blk_cell BV.out 0).trans rfl
    have hc1_ : w3.cell? ⟨gv,1,none⟩ = some (.int .i64 x.f1) := (blk_cell BV.out 1).trans rfl
    have hc2_ : w3.cell? ⟨gv,2,none⟩ = some (.int .i64 x.f2) := (blk_cell BV.out 2).trans rfl
    have hc3_ : w3.cell? ⟨gv,3,none⟩ = some (.slice Ae x.f3.length ce) := (blk_cell BV.out 3).trans rfl
    have ya : w3.cell? ⟨g1,0,none⟩ = some (.int .i64 q1) := (World.cell?_of_block (a := ⟨g1,0,none⟩) (HK.out.2 g1 (World.block_lt_of_cell? _ _ XA.out) N1.out (by simp))).trans XA.out
    have yb : w3.cell? ⟨g2,0,none⟩ = some (.int .i64 q2) := (World.cell?_of_block (a := ⟨g2,0,none⟩) (HK.out.2 g2 (World.block_lt_of_cell? _ _ XB.out) N2.out (by simp))).trans XB.out
    have hcall : Calls Tryz.prog 84 #[.agg #[.int .i64 x.f0,.int .i64 x.f1,.int .i64 x.f2,.slice Ae x.f3.length ce],.pointer (some ⟨g1,0,none⟩),.pointer (some ⟨g2,0,none⟩)] w3 fun e w' => e = .returned (.bool ((x.f1 == q1) && (x.f2 == q2))) ∧ Below w3.heap.size w3 w' := impl_Machine_clear_1.calls x.f0 x.f1 x.f2 Ae ce x.f3 g1 g2 q1 q2 w3 ya yb
    rw [show ((x.f1 == q1) && (x.f2 == q2)) = hits q1 q2 x from rfl] at hcall
    clear ya yb
    cases hv : hits q1 q2 x with
    | true =>
     rw [hv] at hcall
     have HV : Aside0 (hits q1 q2 (l0.getD j z50) = true) := ⟨by rw [HZ.out];exact hv⟩
     clear hv
     go_wp2_with (go_at_call 84;refine hcall.mono ?_;rintro e w4 ⟨rfl,hb4⟩;have B4 := ak hb4;clear hb4)
     go_roundg (l0.length - (j + 1))
     case measure => omega
     case rel => exact ⟨m,j + 1,rows,rfl,by go_num,by omega,by omega,by omega,⟨del_skip HD.out HV.out⟩,⟨Kd.R_below HA.out B4.out⟩,⟨KeepBut.trans HK.out (KeepBut.of_below B4.out go none) (.inl rfl)⟩,⟨below_step HB.out B4.out⟩⟩
    | false =>
     rw [hv] at hcall
     have HV : Aside0 (hits q1 q2 (l0.getD j z50) = false) := ⟨by rw [HZ.out];exact hv⟩
     clear hv
     have hmz : (m : Int) < (l0.length : Int) := by omega
     go_wp2_with (go_at_call 84;refine hcall.mono ?_;rintro e w4 ⟨rfl,hb4⟩;replace HA := ak (Kd.R_below HA.out hb4);replace HK := ak (KeepBut.trans HK.out (KeepBut.of_below hb4 go none) (.inl rfl));replace HB := ak (below_step HB.out hb4);replace BV := ak (blk_below BV.out hb4);clear hb4 hc0_ hc1_ hc2_ hc3_;have hc0_ : w4.cell? ⟨gv,0,none⟩ = some (.int .i64 x.f0) := (blk_cell BV.out 0).trans rfl;have hc1_ : w4.cell? ⟨gv,1,none⟩ = some (.int .i64 x.f1) := (blk_cell BV.out 1).trans rfl;have hc2_ : w4.cell? ⟨gv,2,none⟩ = some (.int .i64 x.f2) := (blk_cell BV.out 2).trans rfl;have hc3_ : w4.cell? ⟨gv,3,none⟩ = some (.slice Ae x.f3.length ce) := (blk_cell BV.out 3).trans rfl;obtain ⟨hs,hsl,hsf⟩ := raw_at_ HA.out m (by omega);obtain ⟨s0,s1,s2,s3,es⟩ := four_ hsl;rw [es] at hs;have hs0 := hs 0 _ rfl;have hs1 := hs 1 _ rfl;have hs2 := hs 2 _ rfl;have hs3 := hs 3 _ rfl;rw [Nat.add_zero] at hs0;have hf0 := hsf 0;have hf1 := hsf 1;have hf2 := hsf 2;have hf3 := hsf 3;rw [Nat.add_zero] at hf0;clear hs hsl hsf es)
     go_roundg (l0.length - (j + 1))
     case measure => omega
     case rel =>
      have hp := raw_put_ HA.out m (by omega) (rows0.getD j []) (by rw [ER.out];rfl) (by rw [ER.out];intro u hu;simp at hu;rcases hu with rfl|rfl|rfl|rfl <;> rfl)
      have hd := del_move HD.out HV.out (by omega) (by rw [LR.out];exact hlt)
      have hG : go < w4.heap.size := Kd.R_lt HA.out go (by simp [Value.ownBlock])
      rw [show w4.setCells go (m * 4) (rows0.getD j []) = (((w4.setCell ⟨go,m * 4,none⟩ (.int .i64 x.f0)).setCell ⟨go,m * 4 + 1,none⟩ (.int .i64 x.f1)).setCell ⟨go,m * 4 + 2,none⟩ (.int .i64 x.f2)).setCell ⟨go,m * 4 + 3,none⟩ (.slice Ae x.f3.length ce) from by rw [ER.out];rfl] at hp
      exact ⟨m + 1,j + 1,_,by go_num,by go_num,by omega,by omega,by omega,⟨hd⟩,⟨hp.1⟩,⟨keep_set_ (keep_set_ (keep_set_ (keep_set_ HK.out _ _) _ _) _ _) _ _⟩,⟨below_set (below_set (below_set (below_set HB.out GB.out) GB.out) GB.out) GB.out⟩⟩
   ·have hj : j = l0.length := by omega
    subst hj
    have hltz : ¬ (l0.length : Int) < (l0.length : Int) := by omega
    have hmz : (m : Int) ≤ (l0.length : Int) := by omega
    have hcl : ∀ ty,(Builtin.clear_ #[29] ty #[.slice (some ⟨go,m * 4,none⟩) (l0.length - m) (c0 - m)]).run Tryz.prog wr = .ok (.tuple #[]) (wr.setCells go (m * 4) ((List.replicate (l0.length - m) [.int .i64 0,.int .i64 0,.int .i64 0,.slice none 0 0]).flatten)) := fun ty => by
     have hz := zero_cells4_ (.int .i64 0) (.int .i64 0) (.int .i64 0) (.slice none 0 0) (l0.length - m)
     rw [← hz]
     refine run_clear_row wr 29 50 ty (.agg #[.int .i64 0,.int .i64 0,.int .i64 0,.slice none 0 0]) Tryz.underlying29 (fun w => by rfl) (by intro v hv;simp [Value.cells] at hv;rcases hv with rfl|rfl|rfl|rfl <;> rfl) (by decide) go (m * 4) (l0.length - m) (c0 - m) (by omega) (fun t ht => ?_) (fun t ht => ?_)
     ·have ht' : t < (l0.length - m) * 4 := ht
      obtain ⟨hs,hsl,_⟩ := raw_at_ HA.out (m + t / 4) (by omega)
      have h4 : t % 4 < (rows.getD (m + t / 4) []).length := by rw [hsl];omega
      have := hs (t % 4) _ (List.getElem?_eq_getElem h4)
      rw [show (m + t / 4) * 4 + t % 4 = m * 4 + t from by omega] at this
      rw [this];rfl
     ·have ht' : t < (l0.length - m) * 4 := ht
      obtain ⟨_,_,hf⟩ := raw_at_ HA.out (m + t / 4) (by omega)
      have := hf (t % 4)
      rwa [show (m + t / 4) * 4 + t % 4 = m * 4 + t from by omega] at this
    obtain ⟨rows',z1,z2,z3,z4,z5⟩ := raw_fill_ [.int .i64 0,.int .i64 0,.int .i64 0,.slice none 0 0] rfl (by intro u hu;simp at hu;rcases hu with rfl|rfl|rfl|rfl <;> rfl) (l0.length - m) m wr rows HA.out (by omega)
    have Z1 := ak z1
    have Z2 := ak z2
    have Z3 := ak z3
    have Z4 := ak z4
    have Z5 := ak (z5 w0 w0.heap.size HB.out GB.out)
    have hcn : m < l0.length := hmj
    have hcc := HC0.out
    have hq1 : ¬ c0 = m := by omega
    have hq2 : (m : Int) ≤ (c0 : Int) := by omega
    clear z1 z2 z3 z4 z5
    go_wp2
    go_ret
    have hm : m = (l0.filter fun x => !hits q1 q2 x).length := by
     have e1 := stays_map (hits q1 q2) z50 l0 l0.length (Nat.le_refl _)
     rw [List.take_length] at e1
     rw [← e1,List.length_map]
     exact HD.out.1
    have ht : rows'.take m = (stays (hits q1 q2) z50 l0 l0.length).map (rows0.getD · []) := Z2.out.trans HD.out.2.2.1
    have hS : Kd.S k50 50 (wr.setCells go (m * 4) ((List.replicate (l0.length - m) [.int .i64 0,.int .i64 0,.int .i64 0,.slice none 0 0]).flatten)) w0.heap.size P0_ (.slice (some ⟨go,0,none⟩) m c0) (l0.filter fun x => !hits q1 q2 x) :=
     S_kept_ HG.out LR.out HM.out (fun k hk1 hk2 => (Z4.out.2 k (Nat.lt_of_lt_of_le hk2 HK.out.1) hk1 (by simp)).trans (HK.out.2 k hk2 hk1 (by simp))) (by rw [← ht];exact raw_take_ Z1.out m (by rw [Z3.out];omega))
    rw [← hm]
    exact ⟨some ⟨go,0,none⟩,c0,rfl,hS,Z5.out,⟨Nat.le_trans K1.out.size (Nat.le_trans HK.out.1 Z4.out.1),fun k hk1 hk2 => by
     have hne : k ≠ go := fun e_ => hk2 (e_ ▸ HG.out)
     exact (Z4.out.2 k (Nat.lt_of_lt_of_le hk1 (Nat.le_trans K1.out.size HK.out.1)) hne (by simp)).trans ((HK.out.2 k (Nat.lt_of_lt_of_le hk1 K1.out.size) hne (by simp)).trans (K1.out.block k hk1))⟩⟩

/-! ### cmp_isNaN_int64: function 135 -/
def cmp_isNaN_int64.f (a0 : Int) : Option (Bool) := some (a0 != a0)
theorem cmp_isNaN_int64.calls (a0 : Int) (r : Bool) (w : World) (h : cmp_isNaN_int64.f a0 = some r) :
    Calls Tryz.prog 135 #[.int .i64 a0] w fun e w' => e = .returned (.bool r) ∧ Drawn0 w w' := by
 have H : (some (a0 != a0)) = some r := h
 clear h
 obtain rfl := Option.some.inj H
 go_enter Tryz.func135,Tryz.ntmps135
 go_wp2
 go_ret
 exact ⟨rs_,by repeat (first|exact Drawn0.refl _|apply Drawn0.step)⟩

/-! ### cmp_Less_int64: function 124 -/
def cmp_Less_int64.f (a0 : Int) (a1 : Int) : Option (Bool) := (cmp_isNaN_int64.f a0).bind fun t190 => (if t190 = true then ((cmp_isNaN_int64.f a1).bind fun t191 => (if t191 = true then (some (decide (a0 < a1))) else (some true))) else (some (decide (a0 < a1))))
theorem cmp_Less_int64.calls (a0 : Int) (a1 : Int) (r : Bool) (w : World) (h : cmp_Less_int64.f a0 a1 = some r) :
    Calls Tryz.prog 124 #[.int .i64 a0, .int .i64 a1] w fun e w' => e = .returned (.bool r) ∧ Drawn0 w w' := by
 have H : ((cmp_isNaN_int64.f a0).bind fun t190 => (if t190 = true then ((cmp_isNaN_int64.f a1).bind fun t191 => (if t191 = true then (some (decide (a0 < a1))) else (some true))) else (some (decide (a0 < a1))))) = some r := h
 clear h
 replace H := bs_ H
 obtain ⟨t190,A3,H⟩ := H
 by_cases c4 : t190 = true
 ·subst c4
  replace H := it_ H
  replace H := bs_ H
  obtain ⟨t191,A5,H⟩ := H
  by_cases c6 : t191 = true
  ·subst c6
   replace H := it_ H
   obtain rfl := Option.some.inj H
   go_enter Tryz.func124,Tryz.ntmps124
   go_wp2_with (first|((with_reducible refine gcal_ (f := 135) rfl ?_);refine gl_ (some 6) Tryz.func135 #[.int .i64 a0] ?_;(with_reducible refine (cmp_isNaN_int64.calls a0 true _ A3.out).mono ?_);rintro e w' ⟨rfl,⟨nd,rfl⟩⟩;refine ⟨_,rfl,?_⟩)|(go_at_call 135;(with_reducible refine (cmp_isNaN_int64.calls a1 true _ A5.out).mono ?_);rintro e w' ⟨rfl,⟨nd,rfl⟩⟩))
   go_ret
   exact ⟨rs_,by repeat (first|exact Drawn0.refl _|apply Drawn0.step)⟩
  ·replace c6 := Bool.eq_false_iff.mpr c6
   subst c6
   replace H := ie_ H
   obtain rfl := Option.some.inj H
   go_enter Tryz.func124,Tryz.ntmps124
   go_wp2_with (first|((with_reducible refine gcal_ (f := 135) rfl ?_);refine gl_ (some 6) Tryz.func135 #[.int .i64 a0] ?_;(with_reducible refine (cmp_isNaN_int64.calls a0 true _ A3.out).mono ?_);rintro e w' ⟨rfl,⟨nd,rfl⟩⟩;refine ⟨_,rfl,?_⟩)|(go_at_call 135;(with_reducible refine (cmp_isNaN_int64.calls a1 false _ A5.out).mono ?_);rintro e w' ⟨rfl,⟨nd,rfl⟩⟩))
   go_ret
   exact ⟨rs_,by repeat (first|exact Drawn0.refl _|apply Drawn0.step)⟩
 ·replace c4 := Bool.eq_false_iff.mpr c4
  subst c4
  replace H := ie_ H
  obtain rfl := Option.some.inj H
  go_enter Tryz.func124,Tryz.ntmps124
  go_wp2_with (first|((with_reducible refine gcal_ (f := 135) rfl ?_);refine gl_ (some 6) Tryz.func135 #[.int .i64 a0] ?_;(with_reducible refine (cmp_isNaN_int64.calls a0 false _ A3.out).mono ?_);rintro e w' ⟨rfl,⟨nd,rfl⟩⟩;refine ⟨_,rfl,?_⟩))
  go_ret
  exact ⟨rs_,by repeat (first|exact Drawn0.refl _|apply Drawn0.step)⟩

/-! ### slices_isNaN_int64: function 125 -/
def slices_isNaN_int64.f (a0 : Int) : Option (Bool) := some (a0 != a0)
theorem slices_isNaN_int64.calls (a0 : Int) (r : Bool) (w : World) (h : slices_isNaN_int64.f a0 = some r) :
    Calls Tryz.prog 125 #[.int .i64 a0] w fun e w' => e = .returned (.bool r) ∧ Drawn0 w w' := by
 have H : (some (a0 != a0)) = some r := h
 clear h
 obtain rfl := Option.some.inj H
 go_enter Tryz.func125,Tryz.ntmps125
 go_wp2
 go_ret
 exact ⟨rs_,by repeat (first|exact Drawn0.refl _|apply Drawn0.step)⟩

/-! ### slices_BinarySearch_int64_int64: function 85 -/
def slices_BinarySearch_int64_int64.l0 : Nat → List Int → Int → Int → Int → Int → Option (Int × Bool)
  | 0, _, _, _, _, _ => none
  | k + 1, x0, x1, x6, x7, x8 => if x7 < x8 then (if 0 ≤ (wrap64 ((IntKind.u64.wrap (wrap64 (x7 + x8))) / 2)) then (if (wrap64 ((IntKind.u64.wrap (wrap64 (x7 + x8))) / 2)) < (x0.length : Int) then ((cmp_Less_int64.f (rd x0 (wrap64 ((IntKind.u64.wrap (wrap64 (x7 + x8))) / 2))) x1).bind fun t193 => (if t193 = true then (slices_BinarySearch_int64_int64.l0 k x0 x1 x6 (wrap64 ((wrap64 ((IntKind.u64.wrap (wrap64 (x7 + x8))) / 2)) + 1)) x8) else (slices_BinarySearch_int64_int64.l0 k x0 x1 x6 x7 (wrap64 ((IntKind.u64.wrap (wrap64 (x7 + x8))) / 2))))) else (none)) else (none)) else (if x7 < x6 then (if 0 ≤ x7 then (if x7 < (x0.length : Int) then (if (rd x0 x7) = x1 then (some (x7, true)) else ((slices_isNaN_int64.f (rd x0 x7)).bind fun t196 => (if t196 = true then ((slices_isNaN_int64.f x1).bind fun t197 => (some (x7, t197))) else (some (x7, false))))) else (none)) else (none)) else (some (x7, false)))
def slices_BinarySearch_int64_int64.f (k : Nat) (l0 : List Int) (a1 : Int) : Option (Int × Bool) := slices_BinarySearch_int64_int64.l0 k l0 a1 (l0.length : Int) 0 (l0.length : Int)

theorem slices_BinarySearch_int64_int64.calls (k : Nat) (A0 : Option Addr) (c0 : Nat) (l0 : List Int) (a1 : Int) (r1 : Int) (r2 : Bool) (w : World) (hr0 : Kd.C (Kd.int .i64) w A0 l0.length l0) (hc0 : l0.length ≤ c0) (h : slices_BinarySearch_int64_int64.f k l0 a1 = some (r1, r2)) :
    Calls Tryz.prog 85 #[.slice A0 l0.length c0, .int .i64 a1] w fun e w' => e = .returned (.tuple #[.int .i64 r1, .bool r2]) ∧ Drawn0 w w' := by
 have HR0 := ak hr0
 have HC0 := ak hc0
 clear hr0 hc0
 have H : (slices_BinarySearch_int64_int64.l0 k l0 a1 (l0.length : Int) 0 (l0.length : Int)) = some (r1,r2) := h
 clear h
 have H' := ak H
 clear H
 go_enter Tryz.func85,Tryz.ntmps85
 go_wp2
 go_loopg [7,8] k (fun kq v7 v8 w' => ∃ (x7_1 : Int) (x8_1 : Int),v7 = .int .i64 x7_1 ∧ v8 = .int .i64 x8_1 ∧ Aside0 (slices_BinarySearch_int64_int64.l0 kq l0 a1 (l0.length : Int) x7_1 x8_1 = some (r1,r2)) ∧ Aside0 (kq ≤ k) ∧ Drawn0 w w')
 case atStart => exact ⟨(0),((l0.length : Int)),rs_,rs_,H',⟨Nat.le_refl _⟩,by repeat (first|exact Drawn0.refl _|apply Drawn0.step)⟩
 case round =>
  clear H'
  try clear p2
  obtain ⟨x7_1,x8_1,rfl,rfl,HA,HK1,⟨m1,rfl⟩⟩ := hrel
  cases gk with
    | zero => exact absurd HA.out (by simp [slices_BinarySearch_int64_int64.l0])
    | succ k1 =>
   have H := HA.out
   clear HA
   simp only [slices_BinarySearch_int64_int64.l0] at H
   by_cases c3 : x7_1 < x8_1
   ·rw [if_pos c3] at H
    have c3b0 : decide (x7_1 < x8_1) = true := decide_eq_true c3
    clear c3
    obtain ⟨ji4,hji4⟩ : ∃ j_ : Int,(wrap64 ((IntKind.u64.wrap (wrap64 (x7_1 + x8_1))) / 2)) = j_ := ⟨_,rfl⟩
    replace H : (if 0 ≤ (ji4) then (if (ji4) < (l0.length : Int) then ((cmp_Less_int64.f (rd l0 (ji4)) a1).bind fun t193 => (if t193 = true then (slices_BinarySearch_int64_int64.l0 k1 l0 a1 (l0.length : Int) (wrap64 ((ji4) + 1)) x8_1) else (slices_BinarySearch_int64_int64.l0 k1 l0 a1 (l0.length : Int) x7_1 ji4))) else (none)) else (none)) = some (r1,r2) := by first|(rw [hji4] at H;exact H)|(simp only [hji4] at H ⊢;exact H)
    have hji4w : (IntKind.i64.wrap ((IntKind.u64.wrap (wrap64 (x7_1 + x8_1))) / 2)) = ji4 := (i64_w _).trans hji4
    by_cases c5 : 0 ≤ (ji4)
    ·rw [if_pos c5] at H
     have c5b0 : decide (0 ≤ (ji4)) = true := decide_eq_true c5
     clear c5
     by_cases c6 : (ji4) < (l0.length : Int)
     ·rw [if_pos c6] at H
      have c6b0 : decide ((ji4) < (l0.length : Int)) = true := decide_eq_true c6
      clear c6
      replace H := bs_ H
      obtain ⟨t193,A7,H⟩ := H
      by_cases c8 : t193 = true
      ·subst c8
       replace H := it_ H
       have H' := ak H
       clear H
       have p192 : 0 ≤ ((ji4) : Int) := od_
       have q192 : (ji4) < (l0.length : Int) := od_
       obtain ⟨ad192,e192,hx192_0⟩ := Kd.at_int HR0.out (ji4) p192 q192
       cases e192
       replace p192 := eq_true p192
       replace q192 := eq_true q192
       go_wp2_with (first|((with_reducible refine gcal_ (f := 124) rfl ?_);refine goesL_ (some 27) rfl rfl Tryz.func124 (by kernel_rfl) rfl #[.int .i64 (rd l0 (ji4)),.int .i64 a1] rfl (by (try simp only [List.map_toArray,List.map_cons,List.map_nil]);first|done|(simp only [hji4];rfl)|rfl|(simp only [List.length_drop,List.length_take];rfl)) ?_;(with_reducible refine (cmp_Less_int64.calls (rd l0 (ji4)) a1 true _ A7.out).mono ?_);rintro e w' ⟨rfl,⟨nd,rfl⟩⟩;refine ⟨_,rfl,?_⟩))
       go_roundg k1
       case measure => have := HK1.out;omega
       case rel => exact ⟨(wrap64 ((ji4) + 1)),(x8_1),(by first|rfl|(simp;done)|(simp only [← hji4] <;> (first|rfl|simp))|(simp [*];done)),rs_,H',⟨by have := HK1.out;omega⟩,by repeat (first|exact Drawn0.refl _|apply Drawn0.step)⟩
      ·replace c8 := Bool.eq_false_iff.mpr c8
       subst c8
       replace H := ie_ H
       have H' := ak H
       clear H
       have p192 : 0 ≤ ((ji4) : Int) := od_
       have q192 : (ji4) < (l0.length : Int) := od_
       obtain ⟨ad192,e192,hx192_0⟩ := Kd.at_int HR0.out (ji4) p192 q192
       cases e192
       replace p192 := eq_true p192
       replace q192 := eq_true q192
       go_wp2_with (first|((with_reducible refine gcal_ (f := 124) rfl ?_);refine goesL_ (some 27) rfl rfl Tryz.func124 (by kernel_rfl) rfl #[.int .i64 (rd l0 (ji4)),.int .i64 a1] rfl (by (try simp only [List.map_toArray,List.map_cons,List.map_nil]);first|done|(simp only [hji4];rfl)|rfl|(simp only [List.length_drop,List.length_take];rfl)) ?_;(with_reducible refine (cmp_Less_int64.calls (rd l0 (ji4)) a1 false _ A7.out).mono ?_);rintro e w' ⟨rfl,⟨nd,rfl⟩⟩;refine ⟨_,rfl,?_⟩))
       go_roundg k1
       case measure => have := HK1.out;omega
       case rel => exact ⟨(x7_1),(ji4),rs_,(by first|rfl|(simp;done)|(simp only [← hji4] <;> (first|rfl|simp))|(simp [*];done)),H',⟨by have := HK1.out;omega⟩,by repeat (first|exact Drawn0.refl _|apply Drawn0.step)⟩
     ·rw [if_neg c6] at H
      exact absurd H (by simp)
    ·rw [if_neg c5] at H
     exact absurd H (by simp)
   ·rw [if_neg c3] at H
    have c3b0 : decide (x7_1 < x8_1) = false := decide_eq_false c3
    clear c3
    by_cases c9 : x7_1 < (l0.length : Int)
    ·rw [if_pos c9] at H
     have c9b0 : decide (x7_1 < (l0.length : Int)) = true := decide_eq_true c9
     clear c9
     by_cases c10 : 0 ≤ x7_1
     ·rw [if_pos c10] at H
      have c10b0 : decide (0 ≤ x7_1) = true := decide_eq_true c10
      clear c10
      by_cases c11 : x7_1 < (l0.length : Int)
      ·rw [if_pos c11] at H
       have c11b0 : decide (x7_1 < (l0.length : Int)) = true := decide_eq_true c11
       clear c11
       by_cases c12 : (rd l0 x7_1) = a1
       ·rw [if_pos c12] at H
        have c12b0 : ((rd l0 x7_1) == a1) = true := beq_iff_eq.mpr c12
        have c12b1 : ((rd l0 x7_1) != a1) = false := bne_eq_false_iff_eq.mpr c12
        clear c12
        simp only [Option.some.injEq,Prod.mk.injEq] at H
        obtain ⟨rfl,rfl⟩ := H
        have p194 : 0 ≤ (x7_1 : Int) := od_
        have q194 : x7_1 < (l0.length : Int) := od_
        obtain ⟨ad194,e194,hx194_0⟩ := Kd.at_int HR0.out x7_1 p194 q194
        cases e194
        replace p194 := eq_true p194
        replace q194 := eq_true q194
        go_wp2
        go_ret2
        exact ⟨rs_,by repeat (first|exact Drawn0.refl _|apply Drawn0.step)⟩
       ·rw [if_neg c12] at H
        have c12b0 : ((rd l0 x7_1) == a1) = false := beq_eq_false_iff_ne.mpr c12
        have c12b1 : ((rd l0 x7_1) != a1) = true := bne_iff_ne.mpr c12
        replace H := bs_ H
        obtain ⟨t196,A13,H⟩ := H
        by_cases c14 : t196 = true
        ·subst c14
         replace H := it_ H
         replace H := bs_ H
         obtain ⟨t197,A15,H⟩ := H
         simp only [Option.some.injEq,Prod.mk.injEq] at H
         obtain ⟨rfl,rfl⟩ := H
         have p194 : 0 ≤ (x7_1 : Int) := od_
         have q194 : x7_1 < (l0.length : Int) := od_
         obtain ⟨ad194,e194,hx194_0⟩ := Kd.at_int HR0.out x7_1 p194 q194
         cases e194
         replace p194 := eq_true p194
         replace q194 := eq_true q194
         have p195 : 0 ≤ (x7_1 : Int) := od_
         have q195 : x7_1 < (l0.length : Int) := od_
         obtain ⟨ad195,e195,hx195_0⟩ := Kd.at_int HR0.out x7_1 p195 q195
         obtain rfl : ad194 = ad195 := (by injection e195)
         replace p195 := eq_true p195
         replace q195 := eq_true q195
         go_wp2_with (first|(go_at_call 125;(with_reducible refine (slices_isNaN_int64.calls (rd l0 x7_1) true _ A13.out).mono ?_);rintro e w' ⟨rfl,⟨nd,rfl⟩⟩)|(go_at_call 125;(with_reducible refine (slices_isNaN_int64.calls a1 t197 _ A15.out).mono ?_);rintro e w' ⟨rfl,⟨nd,rfl⟩⟩))
         go_ret2
         exact ⟨rs_,by repeat (first|exact Drawn0.refl _|apply Drawn0.step)⟩
        ·replace c14 := Bool.eq_false_iff.mpr c14
         subst c14
         replace H := ie_ H
         simp only [Option.some.injEq,Prod.mk.injEq] at H
         obtain ⟨rfl,rfl⟩ := H
         have p194 : 0 ≤ (x7_1 : Int) := od_
         have q194 : x7_1 < (l0.length : Int) := od_
         obtain ⟨ad194,e194,hx194_0⟩ := Kd.at_int HR0.out x7_1 p194 q194
         cases e194
         replace p194 := eq_true p194
         replace q194 := eq_true q194
         have p195 : 0 ≤ (x7_1 : Int) := od_
         have q195 : x7_1 < (l0.length : Int) := od_
         obtain ⟨ad195,e195,hx195_0⟩ := Kd.at_int HR0.out x7_1 p195 q195
         obtain rfl : ad194 = ad195 := (by injection e195)
         replace p195 := eq_true p195
         replace q195 := eq_true q195
         go_wp2_with (first|(go_at_call 125;(with_reducible refine (slices_isNaN_int64.calls (rd l0 x7_1) false _ A13.out).mono ?_);rintro e w' ⟨rfl,⟨nd,rfl⟩⟩))
         go_ret2
         exact ⟨rs_,by repeat (first|exact Drawn0.refl _|apply Drawn0.step)⟩
      ·rw [if_neg c11] at H
       exact absurd H (by simp)
     ·rw [if_neg c10] at H
      exact absurd H (by simp)
    ·rw [if_neg c9] at H
     have c9b0 : decide (x7_1 < (l0.length : Int)) = false := decide_eq_false c9
     clear c9
     simp only [Option.some.injEq,Prod.mk.injEq] at H
     obtain ⟨rfl,rfl⟩ := H
     go_wp2
     go_ret2
     exact ⟨rs_,by repeat (first|exact Drawn0.refl _|apply Drawn0.step)⟩

-- NOT PRINTED: function 126 (slices_overlaps_int64)

/-! ### slices_Reverse_int64_int64: function 150 -/
/-! ### words for slices.Insert: cells of a block written one behind the other -/
theorem heap_setCells_ (g : Nat) : ∀ (vs : List Value) (o : Nat) (W : World) (cur : Array Value) (e : TypeId), W.heap[g]? = some (.cells cur e (0, 0)) → o + vs.length ≤ cur.size →
  ∃ cur' : Array Value,(W.setCells g o vs).heap[g]? = some (.cells cur' e (0,0)) ∧ cur'.size = cur.size ∧ (∀ j,j < vs.length → cur'[o + j]? = vs[j]?) ∧ ∀ j,(j < o ∨ o + vs.length ≤ j) → cur'[j]? = cur[j]?
  | [], o, W, cur, e, h, _ => ⟨cur, h, rfl, fun j hj => absurd hj (Nat.not_lt_zero _), fun _ _ => rfl⟩
  | v :: r, o, W, cur, e, h, hl => by
    rw [List.length_cons] at hl
    obtain ⟨c2,h2⟩ : ∃ c2 : Array Value,c2 = cur.set o v (by omega) := ⟨_,rfl⟩
    have hw : (W.setCell ⟨g,o,none⟩ v).heap[g]? = some (.cells c2 e (0,0)) := blk_put_ h o v (by omega) h2
    have hs2 : c2.size = cur.size := by rw [h2,Array.size_set]
    obtain ⟨cur',g1,g2,g3,g4⟩ := heap_setCells_ g r (o + 1) _ c2 e hw (by rw [hs2];omega)
    refine ⟨cur',g1,by rw [g2,hs2],fun j hj => ?_,fun j hj => ?_⟩
    ·cases j with
     | zero =>
      rw [Nat.add_zero,g4 o (.inl (by omega)),h2,Array.getElem?_set_self];rfl
     | succ j =>
      rw [show o + (j + 1) = o + 1 + j from by omega,g3 j (by rw [List.length_cons] at hj;omega)];rfl
    ·rw [List.length_cons] at hj
     rw [g4 j (by omega),h2,Array.getElem?_set_ne (by omega) (by omega)]
theorem keep_setCells_ (g : Nat) {w : World} : ∀ (vs : List Value) (o : Nat) (W : World), KeepBut w W g none → KeepBut w (W.setCells g o vs) g none
  | [], _, _, h => h
  | v :: r, o, W, h => keep_setCells_ g r (o + 1) _ (keep_set_ h o v)
theorem below_setCells_ (g : Nat) {w : World} : ∀ (vs : List Value) (o : Nat) (W : World), Below w.heap.size w W → w.heap.size ≤ g → Below w.heap.size w (W.setCells g o vs)
  | [], _, _, h, _ => h
  | v :: r, o, W, h, hg => below_setCells_ g r (o + 1) _ (below_set h hg) hg
theorem row_head_ {α : Type} {d : Kd α} {e : Nat} {w : World} {base : Nat} {ok : Nat → Prop} {ad : Addr} {n cap : Nat} {xs : List α} (h : d.R e w base ok (.slice (some ad) n cap) xs) : ∃ g, ad = ⟨g, 0, none⟩ := by
 obtain ⟨_,inner,ho,hr⟩ := h
 rcases ho.2 with ⟨hv,_⟩ | ⟨g,cap',cur,hv,_⟩
 ·cases hv
 ·injection hv with ha _ _
  injection ha with ha
  exact ⟨g,ha⟩
/-! ### slices_Insert_int64: function 86: one number is put in -/
theorem ints_of_cells_ {W : World} {base : Nat} {ok : Nat → Prop} {g n cap : Nat} {cur : Array Value} {xs : List Int} (hh : W.heap[g]? = some (.cells cur 2 (0, 0))) (hb : base ≤ g) (hg : ok g) (hn : n ≤ cap) (hc : cap ≤ maxLen) (hs : cur.size = cap) (hl : xs.length = n) (hx : ∀ j (h : j < xs.length), cur[j]? = some (.int .i64 xs[j])) : (Kd.int .i64).R 2 W base ok (.slice (some ⟨g, 0, none⟩) n cap) xs := by
 have ht : cur.toList.take n = xs.map (Value.int .i64) := by
  apply List.ext_getElem
  ·simp;omega
  ·intro j h1 h2
   have hj : j < xs.length := by simpa using h2
   have := hx j hj
   rw [Array.getElem?_eq_getElem (by omega)] at this
   have e := Option.some.inj this
   simp only [List.getElem_take,List.getElem_map,Array.getElem_toList]
   exact e
 refine ⟨fun k hk => ?_,xs.map (Value.int .i64),⟨by rw [List.length_map];show xs.length = xs.length * 1;omega,.inr ⟨g,cap,cur,by rw [hl],hb,hh,by omega,hc,by show cur.size = cap * 1;omega,?_⟩⟩,by rw [List.length_map];show xs.length = xs.length * 1;omega,fun j p hj => ?_⟩
 ·have : g = k := by simpa [Value.ownBlock] using hk
  subst this;exact hg
 ·show cur.toList.take (xs.length * 1) = _
  rw [Nat.mul_one,hl];exact ht
 ·show (((xs.map (Value.int .i64)).drop (j * 1)).take 1) = [Value.int .i64 p]
  have hjl := (List.getElem?_eq_some_iff.1 hj).1
  have hp := (List.getElem?_eq_some_iff.1 hj).2
  rw [Nat.mul_one,List.drop_eq_getElem_cons (by simpa using hjl)]
  simp [hp]
theorem cells_of_ints_ {W : World} {base : Nat} {ok : Nat → Prop} {g n cap : Nat} {xs : List Int} (h : (Kd.int .i64).R 2 W base ok (.slice (some ⟨g, 0, none⟩) n cap) xs) : ∃ cur : Array Value, W.heap[g]? = some (.cells cur 2 (0, 0)) ∧ base ≤ g ∧ n ≤ cap ∧ cap ≤ maxLen ∧ cur.size = cap ∧ xs.length = n ∧ ∀ j (hj : j < xs.length), cur[j]? = some (.int .i64 xs[j]) := by
 have hr := Kd.R_reads' h
 obtain ⟨_,inner,ho,hp⟩ := h
 rcases ho.2 with ⟨hv,_⟩ | ⟨g',cap',cur,hv,hb,hh,hc1,hc2,hc3,hc4⟩
 ·cases hv
 ·injection hv with hv1 hv2 hv3
  injection hv1 with hv1
  injection hv1 with hv1
  subst hv1
  subst hv3
  have hs : cur.size = cap := by have : cur.size = cap * 1 := hc3;omega
  refine ⟨cur,hh,hb,by omega,hc2,hs,hr.1.symm,fun j hj => ?_⟩
  obtain ⟨ad,e1,e2⟩ := Kd.at_int hr.2.2 (j : Int) (by omega) (by omega)
  injection e1 with e1
  subst e1
  rw [Int.toNat_natCast,addr_at_,blk_cell hh] at e2
  rw [e2]
  unfold rd
  rw [Int.toNat_natCast,List.getD_eq_getElem?_getD,List.getElem?_eq_getElem hj];rfl
def insPost (P0_ : Nat → Prop) (l0 : List Int) (i : Nat) (x : Int) (w0 w : World) (e : Ending) (w' : World) : Prop := ∃ A' c', e = .returned (.slice A' (l0.length + 1) c') ∧ (Kd.int .i64).R 2 w' w0.heap.size (fun k_ => P0_ k_ ∨ w.heap.size ≤ k_) (.slice A' (l0.length + 1) c') (l0.take i ++ [x] ++ l0.drop i) ∧ Below w0.heap.size w0 w' ∧ Kept w w' P0_
theorem ins_end_ (P0_ : Nat → Prop) (A0 : Option Addr) (c0 : Nat) (l0 : List Int) (x : Int) (gv : Nat) (w0 w : World) (hB : Below w0.heap.size w0 w) (hv : w.heap[gv]? = some (.cells #[.int .i64 x] 2 (0, 0))) (ho : (Kd.int .i64).R 2 w w0.heap.size P0_ (.slice A0 l0.length c0) l0) (hs : l0.length < 17592186044415) :
    Calls Tryz.prog 86 #[.slice A0 l0.length c0, .int .i64 (l0.length : Int), .slice (some ⟨gv, 0, none⟩) 1 1] w (insPost P0_ l0 l0.length x w0 w) := by
 have hx : (Kd.int .i64).C w (some ⟨gv,0,none⟩) 1 [x] := (Kd.R_reads' (ints_of_cells_ (base := 0) (ok := fun _ => True) hv (Nat.zero_le _) trivial (Nat.le_refl 1) (by decide) rfl rfl (by intro j hj;cases j with|zero => rfl|succ j => simp at hj))).2.2
 have hcap := (Kd.R_reads' ho).2.1
 have HO := ak ho
 have HX := ak hx
 have HB := ak hB
 have hw0 := hB.size
 clear ho hx hB
 have hR : Kd.R (Kd.int .i64) 2 w w0.heap.size (fun k_ => P0_ k_ ∨ w.heap.size ≤ k_) (.slice A0 l0.length c0) l0 := Kd.R_mono HO.out (fun _ h => .inl h)
 cases A0 with
  | none =>
  have hnil : l0.length = 0 ∧ c0 = 0 := by
   obtain ⟨A,c,e,_⟩ := Kd.R_reads HO.out
   rcases HO.out.2 with ⟨inner,hown,_⟩
   rcases hown.2 with ⟨he,hn⟩ | ⟨g,cap,cur,he,_⟩
   ·injection he with _ h2 h3;exact ⟨h2,h3⟩
   ·cases he
  obtain ⟨h1,rfl⟩ := hnil
  have h0 : l0 = [] := List.length_eq_zero_iff.1 h1
  subst h0
  go_enter Tryz.func86,Tryz.ntmps86
  go_wp2_with ((with_reducible refine gblt_ (b := .append) (xs := #[.tmp 23,.tmp 24]) rfl ?_);at_builtin;refine Kd.R_append_rows (Kd.int .i64) (w0 := w0) w0.heap.size rfl (.tmp 23) (.tmp 24) 24 2 (.int .i64 0) 8 rfl Tryz.underlying24 info2 rfl (by decide) (by omega) (.slice none 0 0) [] [x] _ _ _ (fun k_ => P0_ k_ ∨ w.heap.size ≤ k_) (fun _ => False) rfl rfl hR HX.out (fun _ _ h => h) (fun _ h => h.elim) (fun k_ h => .inr h) HB.out hw0 (by simp) ?_;intro v1 w1 ho hb hg hat)
  obtain ⟨A1,c1,e1⟩ := Kd.R_slice ho
  subst e1
  go_ret
  exact ⟨A1,c1,rfl,by simpa using ho,hb,⟨hg.size,fun k hk _ => hg.block k hk (by simp [Value.ownBlock])⟩⟩
  | some ad =>
  obtain ⟨b,rfl⟩ := row_head_ HO.out
  have hPb : P0_ b := HO.out.1 b (by simp [Value.ownBlock])
  go_enter Tryz.func86,Tryz.ntmps86
  go_wp2_with ((with_reducible refine gblt_ (b := .append) (xs := #[.tmp 23,.tmp 24]) rfl ?_);at_builtin;refine Kd.R_append_rows (Kd.int .i64) (w0 := w0) w0.heap.size rfl (.tmp 23) (.tmp 24) 24 2 (.int .i64 0) 8 rfl Tryz.underlying24 info2 rfl (by decide) (by omega) (.slice (some ⟨b,0,none⟩) l0.length c0) l0 [x] _ _ _ (fun k_ => P0_ k_ ∨ w.heap.size ≤ k_) (fun _ => False) rfl rfl hR HX.out (fun _ _ h => h) (fun _ h => h.elim) (fun k_ h => .inr h) HB.out hw0 (by omega) ?_;intro v1 w1 ho hb hg hat)
  all_goals (
   obtain ⟨A1,c1,e1⟩ := Kd.R_slice ho
   subst e1
   rw [List.length_append,List.length_singleton] at *
   go_ret
   exact ⟨A1,c1,rfl,by simpa using ho,hb,⟨hg.size,fun k hk hn => hg.block k hk (fun he => hn (by injection he with he;rw [he];exact hPb))⟩⟩)
/-- The two copies of a row that takes a number in. -/
theorem ins_cells_ {W : World} {g e i : Nat} {cur : Array Value} {cs : List Value} {v : Value} (h : W.heap[g]? = some (.cells cur e (0, 0))) (hi : i ≤ cs.length) (hc : cs.length < cur.size) (hx : ∀ j (hj : j < cs.length), j < i → cur[j]? = some cs[j]) :
  ∃ cur' : Array Value,((W.setCells g (i + 1) (cs.drop i)).setCells g i [v]).heap[g]? = some (.cells cur' e (0,0)) ∧ cur'.size = cur.size ∧ ∀ j (hj : j < (cs.take i ++ [v] ++ cs.drop i).length),cur'[j]? = some (cs.take i ++ [v] ++ cs.drop i)[j] := by
 obtain ⟨c1,a1,a2,a3,a4⟩ := heap_setCells_ g (cs.drop i) (i + 1) W cur e h (by rw [List.length_drop];omega)
 obtain ⟨c2,b1,b2,b3,b4⟩ := heap_setCells_ g [v] i _ c1 e a1 (by rw [a2];simp;omega)
 refine ⟨c2,b1,by rw [b2,a2],fun j hj => ?_⟩
 rw [← List.getElem?_eq_getElem hj,List.append_assoc]
 by_cases h1 : j < i
 ·rw [b4 j (.inl h1),a4 j (.inl (by omega)),hx j (by omega) h1,List.getElem?_append_left (by rw [List.length_take];omega),List.getElem?_take_of_lt h1,List.getElem?_eq_getElem]
 ·have hti : (cs.take i).length = i := by rw [List.length_take];omega
  rw [List.getElem?_append_right (by omega),hti]
  by_cases h2 : j = i
  ·subst h2
   have := b3 0 (by simp)
   rw [Nat.add_zero] at this
   rw [this,Nat.sub_self];rfl
  ·rw [b4 j (.inr (by simp;omega))]
   obtain ⟨t,rfl⟩ : ∃ t,j = i + 1 + t := ⟨j - i - 1,by omega⟩
   rw [a3 t (by rw [List.length_drop];rw [List.length_append,List.length_append,hti,List.length_drop] at hj;simp at hj;omega),show i + 1 + t - i = t + 1 from by omega]
   rfl
theorem ins_shift_ (P0_ : Nat → Prop) (b : Nat) (c0 : Nat) (l0 : List Int) (i : Nat) (x : Int) (gv : Nat) (w0 w : World) (hB : Below w0.heap.size w0 w) (hP : ¬ P0_ gv) (hv : w.heap[gv]? = some (.cells #[.int .i64 x] 2 (0, 0))) (ho : (Kd.int .i64).R 2 w w0.heap.size P0_ (.slice (some ⟨b, 0, none⟩) l0.length c0) l0) (hs : l0.length < 17592186044415) (hi : i < l0.length) (hroom : l0.length + 1 ≤ c0) :
    Calls Tryz.prog 86 #[.slice (some ⟨b, 0, none⟩) l0.length c0, .int .i64 (i : Int), .slice (some ⟨gv, 0, none⟩) 1 1] w (insPost P0_ l0 i x w0 w) := by
 have hPb : P0_ b := ho.1 b (by simp [Value.ownBlock])
 have hgb : gv ≠ b := fun e_ => hP (e_ ▸ hPb)
 obtain ⟨cur,k1,k2,k3,k4,k5,k6,k7⟩ := cells_of_ints_ ho
 have hov : ∀ lb cb,(callFunc 126 #[.slice (some ⟨gv,0,none⟩) 1 1,.slice (some ⟨b,i + 1,none⟩) lb cb]).run Tryz.prog w = .ok (.value (.bool false)) w := fun lb cb => by
  rw [run_callFunc_extern Tryz.func126 (by kernel_rfl) (by kernel_rfl) (by kernel_rfl) (e := Extern.SlicesOverlaps.overlaps #[24,24] #[4]) (by kernel_rfl),
   Lib.run_overlaps_apart w 24 4 2 Tryz.underlying24 1 (fun w => by rfl) ⟨gv,0,none⟩ ⟨b,i + 1,none⟩ 1 1 lb cb hgb 2 2 1 cur.size (by simp [World.shape?,hv]) (by simp [World.shape?,k1]) (by omega) (blk_frozen hv 0) (blk_frozen hv 1)]
  rfl
 have hcl : (l0.map (Value.int .i64)).length = l0.length := List.length_map ..
 have h1c : ∀ v ∈ (l0.map (Value.int .i64)),v.oneCell' = true := fun v hv => by
  obtain ⟨y,_,rfl⟩ := List.mem_map.1 hv
  rfl
 have hcs : ∀ j v,(l0.map (Value.int .i64))[j]? = some v → w.cell? ⟨b,j,none⟩ = some v := fun j v hj => by
  rw [blk_cell k1]
  obtain ⟨h2,h3⟩ := List.getElem?_eq_some_iff.1 hj
  rw [hcl] at h2
  rw [k7 j h2,← h3]
  simp
 have hsp : ∀ j,j < l0.length + 1 → (w.cell? ⟨b,j,none⟩).isSome = true := fun j hj => by rw [blk_cell k1,Array.getElem?_eq_getElem (by omega)];rfl
 have hsz : (Tryz.prog.info? 2).map (·.size) = some 1 := by kernel_rfl
 have hdl : ((l0.map (Value.int .i64)).drop i).length = l0.length - i := by rw [List.length_drop,hcl]
 have hcp1 : ∀ ty dc sc,(Builtin.copy_ #[24,24] ty #[.slice (some ⟨b,i + 1,none⟩) (l0.length - i) dc,.slice (some ⟨b,i,none⟩) (l0.length + 1 - i) sc]).run Tryz.prog w.drew = .ok (goInt ((l0.map (Value.int .i64)).drop i).length) (w.drew.setCells b (i + 1) ((l0.map (Value.int .i64)).drop i)) := fun ty dc sc =>
  run_copy_cells w.drew _ _ ty 2 b (i + 1) (l0.length - i) dc ⟨b,i,none⟩ (l0.length + 1 - i) sc ((l0.map (Value.int .i64)).drop i) Tryz.underlying24 hsz (by rw [hdl];simp only [Nat.min_def];split <;> omega)
   (fun j v hj => by rw [addr_off_];exact hcs (i + j) v (by rwa [List.getElem?_drop] at hj))
   (fun j hj => hsp _ (by omega)) (fun j hj => blk_frozen k1 _) (fun v hv => h1c v (List.mem_of_mem_drop hv))
 obtain ⟨W1,hW1⟩ : ∃ W1,W1 = w.drew.setCells b (i + 1) ((l0.map (Value.int .i64)).drop i) := ⟨_,rfl⟩
 have hK1 : KeepBut w W1 b none := by rw [hW1];exact keep_setCells_ b _ _ _ (KeepBut.of_below (below_drew1 (Below.refl _ _)) b none)
 obtain ⟨c1,m1,m2,_,_⟩ := heap_setCells_ b ((l0.map (Value.int .i64)).drop i) (i + 1) w.drew cur 2 k1 (by rw [hdl];omega)
 rw [← hW1] at m1
 have hv1 : W1.heap[gv]? = some (.cells #[.int .i64 x] 2 (0,0)) := (hK1.2 gv (blk_lt hv) hgb (by simp)).trans hv
 have hcp2 : ∀ (W : World),(∀ x,W.cell? x = W1.cell? x) → (∀ x,W.frozen? x = W1.frozen? x) → ∀ ty dc,(Builtin.copy_ #[24,24] ty #[.slice (some ⟨b,i,none⟩) (l0.length + 1 - i) dc,.slice (some ⟨gv,0,none⟩) 1 1]).run Tryz.prog W = .ok (goInt 1) (W.setCells b i [.int .i64 x]) := fun W hWc hWf ty dc =>
  run_copy_cells W _ _ ty 2 b i (l0.length + 1 - i) dc ⟨gv,0,none⟩ 1 1 [.int .i64 x] Tryz.underlying24 hsz (by simp only [List.length_singleton,Nat.min_def];split <;> omega)
   (fun j v hj => by
    rw [addr_at_,hWc,blk_cell hv1]
    cases j with
    | zero => simpa using hj
    | succ j => simp at hj)
   (fun j hj => by rw [hWc,blk_cell m1,Array.getElem?_eq_getElem (by rw [m2];simp at hj;omega)];rfl) (fun j hj => by rw [hWf];exact blk_frozen m1 _) (fun v hv => by rw [List.mem_singleton.1 hv];rfl)
 rw [← hW1] at hcp1
 have hz2 : ¬ ((i : Int) = (l0.length : Int)) := by omega
 have hw1 : IntKind.i64.wrap ((i : Int) + 1) = (i : Int) + 1 := by rw [IntKind.wrap_i64];omega
 have hb1 : (0 : Int) ≤ (i : Int) + 1 := by omega
 have hin : i ≤ l0.length := by omega
 have htn : ((i : Int) + 1).toNat = i + 1 := by omega
 have hb2 : ¬ (c0 = i + 1) := by omega
 have hb3 : (i : Int) ≤ (l0.length : Int) + 1 := by omega
 have hb4 : ¬ (c0 = i) := by omega
 have hc63 : c0 ≤ 9223372036854775807 := by unfold maxLen at k4;omega
 have mixed : Tryz.prog.follows .mixedOrders = true := by kernel_rfl
 have HB := ak hB
 have HV := ak k7
 have HZ := ak k5
 have K1 := ak k1
 have GB := ak k2
 have HM := ak k4
 clear hB hP hv ho k1 k2 k3 k4 k5 k6 k7 hcs hsp h1c m1 m2 hv1 hK1
 go_enter Tryz.func86,Tryz.ntmps86
 go_wp2_with (simp only [hov])
 go_region_law_o (refine step_copy_runI rfl _ _ 24 24 rfl _ _ (by simp [Act.eval,Act.put]) (by simp [Act.eval,Act.put]) (hcp1 _ _ _) ?_)
 go_wp2_with (at_builtin;refine wpList_copy_runI _ rfl _ _ 24 24 rfl _ _ rfl rfl (hcp2 _ (fun _ => rfl) (fun _ => rfl) _ _) ?_)
 go_ret
 obtain ⟨cur',f1,f2,f3⟩ := ins_cells_ (W := w.drew) (g := b) (e := 2) (i := i) (cur := cur) (cs := l0.map (Value.int .i64)) (v := .int .i64 x) K1.out (by rw [hcl];omega) (by rw [hcl,HZ.out];omega) (fun j hj _ => by
  have hj' : j < l0.length := by rwa [hcl] at hj
  rw [HV.out j hj'];simp)
 have hnew : ((l0.take i ++ [x] ++ l0.drop i).map (Value.int .i64)) = (l0.map (Value.int .i64)).take i ++ [Value.int .i64 x] ++ (l0.map (Value.int .i64)).drop i := by simp
 have hlen : (l0.take i ++ [x] ++ l0.drop i).length = l0.length + 1 := by simp;omega
 refine ⟨some ⟨b,0,none⟩,c0,rfl,ints_of_cells_ (cur := cur') ?_ GB.out (.inl hPb) hroom HM.out (by rw [f2,HZ.out]) hlen (fun j hj => ?_),?_,?_⟩
 ·exact f1
 ·have hj2 : j < ((l0.map (Value.int .i64)).take i ++ [Value.int .i64 x] ++ (l0.map (Value.int .i64)).drop i).length := by rw [← hnew,List.length_map];exact hj
  have e1 : ((l0.take i ++ [x] ++ l0.drop i).map (Value.int .i64))[j]? = some (.int .i64 (l0.take i ++ [x] ++ l0.drop i)[j]) := by rw [List.getElem?_map,List.getElem?_eq_getElem hj];rfl
  rw [hnew,List.getElem?_eq_getElem hj2] at e1
  rw [f3 j hj2]
  exact e1
 ·exact below_setCells_ b _ _ _ (below_setCells_ b _ _ _ (below_drew1 HB.out) GB.out) GB.out
 ·have hk := keep_setCells_ b [Value.int .i64 x] i _ (keep_setCells_ b ((l0.map (Value.int .i64)).drop i) (i + 1) w.drew (KeepBut.of_below (below_drew1 (Below.refl _ w)) b none))
  exact ⟨hk.1,fun k hk1 hk2 => hk.2 k hk1 (fun e_ => hk2 (e_ ▸ hPb)) (by simp)⟩
theorem ins_cells2_ {W : World} {g e i : Nat} {cur : Array Value} {cs : List Value} {v : Value} (h : W.heap[g]? = some (.cells cur e (0, 0))) (hi : i ≤ cs.length) (hc : cs.length < cur.size) (hx : ∀ j (hj : j < cs.length), j < i → cur[j]? = some cs[j]) :
  ∃ cur' : Array Value,(((W.setCells g i [v]).drew).setCells g (i + 1) (cs.drop i)).heap[g]? = some (.cells cur' e (0,0)) ∧ cur'.size = cur.size ∧ ∀ j (hj : j < (cs.take i ++ [v] ++ cs.drop i).length),cur'[j]? = some (cs.take i ++ [v] ++ cs.drop i)[j] := by
 obtain ⟨c1,a1,a2,a3,a4⟩ := heap_setCells_ g [v] i W cur e h (by simp;omega)
 obtain ⟨c2,b1,b2,b3,b4⟩ := heap_setCells_ g (cs.drop i) (i + 1) ((W.setCells g i [v]).drew) c1 e a1 (by rw [a2,List.length_drop];omega)
 refine ⟨c2,b1,by rw [b2,a2],fun j hj => ?_⟩
 rw [← List.getElem?_eq_getElem hj,List.append_assoc]
 have hti : (cs.take i).length = i := by rw [List.length_take];omega
 by_cases h1 : j < i
 ·rw [b4 j (.inl (by omega)),a4 j (.inl h1),hx j (by omega) h1,List.getElem?_append_left (by omega),List.getElem?_take_of_lt h1,List.getElem?_eq_getElem]
 ·rw [List.getElem?_append_right (by omega),hti]
  by_cases h2 : j = i
  ·subst h2
   have := a3 0 (by simp)
   rw [Nat.add_zero] at this
   rw [b4 j (.inl (by omega)),this,Nat.sub_self];rfl
  ·obtain ⟨t,rfl⟩ : ∃ t,j = i + 1 + t := ⟨j - i - 1,by omega⟩
   rw [b3 t (by rw [List.length_drop];rw [List.length_append,List.length_append,hti,List.length_drop] at hj;simp at hj;omega),show i + 1 + t - i = t + 1 from by omega]
   rfl
theorem ins_grow_ (P0_ : Nat → Prop) (b : Nat) (c0 : Nat) (l0 : List Int) (i : Nat) (x : Int) (gv : Nat) (w0 w : World) (hB : Below w0.heap.size w0 w) (hv : w.heap[gv]? = some (.cells #[.int .i64 x] 2 (0, 0))) (ho : (Kd.int .i64).R 2 w w0.heap.size P0_ (.slice (some ⟨b, 0, none⟩) l0.length c0) l0) (hs : l0.length < 17592186044415) (hi : i < l0.length) (hroom : c0 < l0.length + 1) :
    Calls Tryz.prog 86 #[.slice (some ⟨b, 0, none⟩) l0.length c0, .int .i64 (i : Int), .slice (some ⟨gv, 0, none⟩) 1 1] w (insPost P0_ l0 i x w0 w) := by
 obtain ⟨cur,k1,k2,k3,k4,k5,k6,k7⟩ := cells_of_ints_ ho
 obtain ⟨i0,hi0,hz0,hzs,hzb⟩ := info_parts info2
 obtain ⟨cs,hcs0⟩ : ∃ cs,cs = l0.map (Value.int .i64) := ⟨_,rfl⟩
 have hcl : cs.length = l0.length := by rw [hcs0];exact List.length_map ..
 have h1c : ∀ v ∈ cs,v.oneCell' = true := fun v hv => by
  rw [hcs0] at hv
  obtain ⟨y,_,rfl⟩ := List.mem_map.1 hv
  rfl
 have hcs : ∀ j v,cs[j]? = some v → w.cell? ⟨b,j,none⟩ = some v := fun j v hj => by
  rw [blk_cell k1]
  rw [hcs0] at hj
  obtain ⟨h2,h3⟩ := List.getElem?_eq_some_iff.1 hj
  rw [List.length_map] at h2
  rw [k7 j h2,← h3]
  simp
 have hsz : (Tryz.prog.info? 2).map (·.size) = some 1 := by kernel_rfl
 have hbw : b < w.heap.size := blk_lt k1
 have hvw : gv < w.heap.size := blk_lt hv
 have hkk : (l0.length : Int) + 1 - (i : Int) = ((l0.length + 1 - i : Nat) : Int) := by omega
 have hik : i + (l0.length + 1 - i) = l0.length + 1 := by omega
 have hold : (Builtin.firstCells i0.size i (.slice (some ⟨b,0,none⟩) i c0)).run Tryz.prog w.drew = .ok (cs.take i).toArray w.drew := by
  rw [hzs]
  exact run_firstCells_some w.drew 1 i ⟨b,0,none⟩ i c0 (cs.take i) (by rw [List.length_take];omega) (fun j v hj => by
   rw [addr_at_]
   rw [List.getElem?_take] at hj
   split at hj
   ·exact hcs j v hj
   ·cases hj)
 obtain ⟨G,hG⟩ : ∃ G,G = grownCap w (l0.length + 1) c0 2 := ⟨_,rfl⟩
 obtain ⟨ROW,hROW⟩ : ∃ ROW : Array Value,ROW = (cs.take i).toArray ++ Builtin.zeroCells (Value.int .i64 0).cells (l0.length + 1 - i) ++ Builtin.zeroCells (Value.int .i64 0).cells (G - (l0.length + 1)) := ⟨_,rfl⟩
 have hrz : ∀ ty,(Builtin.append_ #[24,3] ty #[.slice (some ⟨b,0,none⟩) i c0,.int .i64 ((l0.length : Int) + 1 - (i : Int))]).run Tryz.prog w = .ok (.slice (some ⟨w.heap.size,0,none⟩) (l0.length + 1) G) (w.drew.alloc (.cells ROW 2)) := fun ty => by
  have h := Lib.run_append_grow_zeros w 24 3 ty 2 i0 _ .i64 .i64 Tryz.underlying24 Tryz.underlying3 hi0 hz0 (some ⟨b,0,none⟩) i c0 (cs.take i) hold (l0.length + 1 - i) (by omega) (by omega) (by omega) (by omega) (by rw [hzb];omega) (by rw [hzb,hik];exact growslice_fits hroom (by omega))
  rw [hik] at h
  rw [hkk,hROW,hG]
  exact h
 have hGn : l0.length + 1 ≤ G := by rw [hG];exact grownCap_ge w _ _ _
 have hGm : G ≤ maxLen := by rw [hG];exact grownCap_le_maxLen w (l0.length + 1) c0 2 (by unfold maxLen;omega)
 have hRs : ROW.size = G := by
  rw [hROW]
  simp [Builtin.zeroCells,Value.cells]
  omega
 have hRx : ∀ j (hj : j < cs.length),j < i → ROW[j]? = some cs[j] := fun j hj hji => by
  rw [hROW,Array.getElem?_append_left (by simp [Builtin.zeroCells];omega),Array.getElem?_append_left (by simp;omega)]
  rw [List.getElem?_toArray,List.getElem?_take_of_lt hji,List.getElem?_eq_getElem hj]
 obtain ⟨W1,hW1⟩ : ∃ W1,W1 = w.drew.alloc (.cells ROW 2) := ⟨_,rfl⟩
 have hN : W1.heap[w.heap.size]? = some (.cells ROW 2 (0,0)) := by rw [hW1];exact blk_new w.drew _
 have hO : ∀ k,k < w.heap.size → W1.heap[k]? = w.heap[k]? := fun k hk => by rw [hW1];exact (below_alloc (below_drew1 (Below.refl _ w)) _).block k hk
 have hb1 : W1.heap[b]? = some (.cells cur 2 (0,0)) := (hO b hbw).trans k1
 have hv1 : W1.heap[gv]? = some (.cells #[.int .i64 x] 2 (0,0)) := (hO gv hvw).trans hv
 have hcpA : ∀ (W : World),(∀ x,W.cell? x = W1.cell? x) → (∀ x,W.frozen? x = W1.frozen? x) → ∀ ty dc,(Builtin.copy_ #[24,24] ty #[.slice (some ⟨w.heap.size,i,none⟩) (l0.length + 1 - i) dc,.slice (some ⟨gv,0,none⟩) 1 1]).run Tryz.prog W = .ok (goInt 1) (W.setCells w.heap.size i [.int .i64 x]) := fun W hWc hWf ty dc =>
  run_copy_cells W _ _ ty 2 w.heap.size i (l0.length + 1 - i) dc ⟨gv,0,none⟩ 1 1 [.int .i64 x] Tryz.underlying24 hsz (by simp only [List.length_singleton,Nat.min_def];split <;> omega)
   (fun j v hj => by
    rw [addr_at_,hWc,blk_cell hv1]
    cases j with
    | zero => simpa using hj
    | succ j => simp at hj)
   (fun j hj => by rw [hWc,blk_cell hN,Array.getElem?_eq_getElem (by rw [hRs];simp at hj;omega)];rfl) (fun j hj => by rw [hWf];exact blk_frozen hN _) (fun v hv => by rw [List.mem_singleton.1 hv];rfl)
 have hbN : b ≠ w.heap.size := by omega
 have hdl : (cs.drop i).length = l0.length - i := by rw [List.length_drop,hcl]
 obtain ⟨c1,m1,m2,_,_⟩ := heap_setCells_ w.heap.size [.int .i64 x] i W1 ROW 2 hN (by rw [hRs];simp;omega)
 have hK1 : KeepBut W1 (W1.setCells w.heap.size i [.int .i64 x]) w.heap.size none := keep_setCells_ _ _ _ _ (KeepBut.refl _ _ _)
 have hb2 : (W1.setCells w.heap.size i [.int .i64 x]).heap[b]? = some (.cells cur 2 (0,0)) := (hK1.2 b (blk_lt hb1) hbN (by simp)).trans hb1
 have hcpB : ∀ (W : World),(∀ y,W.cell? y = (W1.setCells w.heap.size i [.int .i64 x]).cell? y) → (∀ y,W.frozen? y = (W1.setCells w.heap.size i [.int .i64 x]).frozen? y) → ∀ ty dc sc,(Builtin.copy_ #[24,24] ty #[.slice (some ⟨w.heap.size,i + 1,none⟩) (l0.length - i) dc,.slice (some ⟨b,i,none⟩) (l0.length - i) sc]).run Tryz.prog W = .ok (goInt (cs.drop i).length) (W.setCells w.heap.size (i + 1) (cs.drop i)) := fun W hWc hWf ty dc sc =>
  run_copy_cells W _ _ ty 2 w.heap.size (i + 1) (l0.length - i) dc ⟨b,i,none⟩ (l0.length - i) sc (cs.drop i) Tryz.underlying24 hsz (by rw [hdl];simp only [Nat.min_def];split <;> omega)
   (fun j v hj => by
    rw [addr_off_,hWc,blk_cell hb2,← blk_cell k1]
    exact hcs (i + j) v (by rwa [List.getElem?_drop] at hj))
   (fun j hj => by rw [hWc,blk_cell m1,Array.getElem?_eq_getElem (by rw [m2,hRs];omega)];rfl) (fun j hj => by rw [hWf];exact blk_frozen m1 _) (fun v hv => h1c v (List.mem_of_mem_drop hv))
 subst hW1
 have hE1 : ∀ y,((w.alloc (.cells ROW 2)).drew).cell? y = (w.drew.alloc (.cells ROW 2)).cell? y := fun y => rfl
 have hE2 : ∀ y,((w.alloc (.cells ROW 2)).drew).frozen? y = (w.drew.alloc (.cells ROW 2)).frozen? y := fun y => rfl
 have hF1 : ∀ y,(((w.alloc (.cells ROW 2)).drew.setCells w.heap.size i [.int .i64 x]).drew).cell? y = ((w.drew.alloc (.cells ROW 2)).setCells w.heap.size i [.int .i64 x]).cell? y := fun y => rfl
 have hF2 : ∀ y,(((w.alloc (.cells ROW 2)).drew.setCells w.heap.size i [.int .i64 x]).drew).frozen? y = ((w.drew.alloc (.cells ROW 2)).setCells w.heap.size i [.int .i64 x]).frozen? y := fun y => rfl
 have hz2 : ¬ ((i : Int) = (l0.length : Int)) := by omega
 have hz3 : (c0 : Int) < (l0.length : Int) + 1 := by omega
 have hw1 : IntKind.i64.wrap ((i : Int) + 1) = (i : Int) + 1 := by rw [IntKind.wrap_i64];omega
 have hbb1 : (0 : Int) ≤ (i : Int) + 1 := by omega
 have hin : i ≤ l0.length := by omega
 have htn : ((i : Int) + 1).toNat = i + 1 := by omega
 have hb3 : (i : Int) ≤ (l0.length : Int) := by omega
 have hG63 : G ≤ 9223372036854775807 := by unfold maxLen at hGm;omega
 have hGi : ¬ (G = i) := by omega
 have hGim : ¬ (G = i + 1) := by omega
 have hci : ¬ (c0 = i) := by omega
 have hnc : l0.length ≤ c0 := k3
 have hic : (i : Int) ≤ (c0 : Int) := by omega
 have mixed : Tryz.prog.follows .mixedOrders = true := by kernel_rfl
 have HB := ak hB
 have HNN := ak hN
 have HRS := ak hRs
 have HRX := ak hRx
 have HGM := ak hGm
 have HGN := ak hGn
 have HCS := ak hcs0
 clear hB hv ho k1 k2 k3 k4 k5 k6 k7 hcs h1c hkk hik hold hN hO hb1 hv1 hK1 hb2 m1 m2 hROW hG hRs hRx hbw hvw
 go_enter Tryz.func86,Tryz.ntmps86
 go_wp2_with (first
    | (at_builtin; refine Lib.wpList_append_run _ rfl _ _ _ _ rfl _ _ rfl rfl _ _ (hrz _) ?_)
    | (at_builtin; refine wpList_copy_runI _ rfl _ _ 24 24 rfl _ _ rfl rfl (hcpA _ hE1 hE2 _ _) ?_)
    | (at_builtin; refine wpList_copy_runI _ rfl _ _ 24 24 rfl _ _ rfl rfl (hcpB _ (fun _ => rfl) (fun _ => rfl) _ _ _) ?_))
 go_region_law_o (refine step_copy_runI rfl _ _ 24 24 rfl (.slice (some ⟨w.heap.size,i + 1,none⟩) (l0.length - i) (G - (i + 1))) (.slice (some ⟨b,i,none⟩) (l0.length - i) (c0 - i)) (by simp [Act.eval,Act.put]) (by simp [Act.eval,Act.put]) (hcpB _ hF1 hF2 3 (G - (i + 1)) (c0 - i)) ?_)
 go_wp2
 go_ret
 subst hcs0
 obtain ⟨cur',f1,f2,f3⟩ := ins_cells2_ (W := (w.alloc (.cells ROW 2)).drew) (g := w.heap.size) (e := 2) (i := i) (cur := ROW) (cs := l0.map (Value.int .i64)) (v := .int .i64 x) HNN.out (by rw [List.length_map];omega) (by rw [List.length_map,HRS.out];omega) HRX.out
 have hnew : ((l0.take i ++ [x] ++ l0.drop i).map (Value.int .i64)) = (l0.map (Value.int .i64)).take i ++ [Value.int .i64 x] ++ (l0.map (Value.int .i64)).drop i := by simp
 have hlen : (l0.take i ++ [x] ++ l0.drop i).length = l0.length + 1 := by simp;omega
 have hbase : w0.heap.size ≤ w.heap.size := HB.out.size
 refine ⟨some ⟨w.heap.size,0,none⟩,G,rfl,ints_of_cells_ (cur := cur') f1 hbase (.inr (Nat.le_refl _)) HGN.out HGM.out (by rw [f2,HRS.out]) hlen (fun j hj => ?_),?_,?_⟩
 ·have hj2 : j < ((l0.map (Value.int .i64)).take i ++ [Value.int .i64 x] ++ (l0.map (Value.int .i64)).drop i).length := by rw [← hnew,List.length_map];exact hj
  have e1 : ((l0.take i ++ [x] ++ l0.drop i).map (Value.int .i64))[j]? = some (.int .i64 (l0.take i ++ [x] ++ l0.drop i)[j]) := by rw [List.getElem?_map,List.getElem?_eq_getElem hj];rfl
  rw [hnew,List.getElem?_eq_getElem hj2] at e1
  rw [f3 j hj2]
  exact e1
 ·exact below_setCells_ w.heap.size _ _ _ (below_drew1 (below_setCells_ w.heap.size _ _ _ (below_drew1 (below_alloc HB.out _)) hbase)) hbase
 ·have hk : Below w.heap.size w ((((w.alloc (.cells ROW 2)).drew.setCells w.heap.size i [.int .i64 x]).drew).setCells w.heap.size (i + 1) ((l0.map (Value.int .i64)).drop i)) := below_setCells_ w.heap.size _ _ _ (below_drew1 (below_setCells_ w.heap.size _ _ _ (below_drew1 (below_alloc (Below.refl _ _) _)) (Nat.le_refl _))) (Nat.le_refl _)
  exact ⟨hk.size,fun k hk1 _ => hk.block k hk1⟩
/-! ### slices_Insert_int64: all roads -/
theorem slices_Insert_int64.calls (P0_ : Nat → Prop) (A0 : Option Addr) (c0 : Nat) (l0 : List Int) (i : Nat) (x : Int) (gv : Nat) (w0 w : World) (hB : Below w0.heap.size w0 w) (hP : ¬ P0_ gv) (hv : w.heap[gv]? = some (.cells #[.int .i64 x] 2 (0, 0))) (ho : (Kd.int .i64).R 2 w w0.heap.size P0_ (.slice A0 l0.length c0) l0) (hs : l0.length < 17592186044415) (hi : i ≤ l0.length) :
    Calls Tryz.prog 86 #[.slice A0 l0.length c0, .int .i64 (i : Int), .slice (some ⟨gv, 0, none⟩) 1 1] w (insPost P0_ l0 i x w0 w) := by
 by_cases h : i = l0.length
 ·subst h
  exact ins_end_ P0_ A0 c0 l0 x gv w0 w hB hv ho hs
 ·obtain ⟨b,c,e,_⟩ := Kd.R_form ho (by omega)
  injection e with e1 e2 e3
  subst e1
  subst e3
  by_cases hr : l0.length + 1 ≤ c0
  ·exact ins_shift_ P0_ b c0 l0 i x gv w0 w hB hP hv ho hs (by omega) hr
  ·exact ins_grow_ P0_ b c0 l0 i x gv w0 w hB hv ho hs (by omega) (by omega)

/-! ### impl_Machine_clear: function 40 -/
theorem hold_40 {p : Prop} (h : Aside0 p) : p := h.out
def impl_Machine_clear.f (k : Nat) (p2 : List S50) (p3 : List Int) (a1 a2 : Int) (d : Bool) : Option (List S50 × List Int) := (slices_BinarySearch_int64_int64.f k p3 a1).bind fun t => if d = true then (if t.2 = true then some ((p2.filter fun x => !hits a1 a2 x), p3) else if 0 ≤ t.1 ∧ t.1 ≤ (p3.length : Int) ∧ p3.length < 17592186044415 then some ((p2.filter fun x => !hits a1 a2 x), p3.take t.1.toNat ++ [a1] ++ p3.drop t.1.toNat) else none) else some ((p2.filter fun x => !hits a1 a2 x), p3)
theorem impl_Machine_clear.calls (k : Nat) (P2_ P3_ : Nat → Prop) (gb : Nat) (b : Bool) (s1 : Value) (A2 : Option Addr) (c2 : Nat) (p2 : List S50) (A3 : Option Addr) (c3 : Nat) (p3 : List Int) (a1 a2 : Int) (d : Bool) (r2 : List S50) (r3 : List Int) (w0 w : World) (hB : Below w0.heap.size w0 w) (hg0 : w0.heap.size ≤ gb) (hx : w.heap[gb]? = some (.cells #[.bool b, s1, .slice A2 p2.length c2, .slice A3 p3.length c3] 31 (0, 0))) (hP2 : ¬ P2_ gb) (hP3 : ¬ P3_ gb) (h23 : ∀ k, P2_ k → P3_ k → False) (ho2 : Kd.S k50 50 w w0.heap.size P2_ (.slice A2 p2.length c2) p2) (ho3 : (Kd.int .i64).R 2 w w0.heap.size P3_ (.slice A3 p3.length c3) p3) (h : impl_Machine_clear.f k p2 p3 a1 a2 d = some (r2, r3)) :
    Calls Tryz.prog 40 #[.pointer (some ⟨gb, 0, none⟩), .int .i64 a1, .int .i64 a2, .bool d] w fun e w' => e = .returned (.tuple #[]) ∧ ∃ (A4 : Option Addr) (c4 : Nat) (A5 : Option Addr) (c5 : Nat), w'.heap[gb]? = some (.cells #[.bool b, s1, .slice A4 r2.length c4, .slice A5 r3.length c5] 31 (0, 0)) ∧ Kd.S k50 50 w' w0.heap.size P2_ (.slice A4 r2.length c4) r2 ∧ (Kd.int .i64).R 2 w' w0.heap.size (fun k_ => P3_ k_ ∨ w.heap.size ≤ k_) (.slice A5 r3.length c5) r3 ∧ Below w0.heap.size w0 w' ∧ Kept w w' (fun k_ => (P2_ k_ ∨ P3_ k_) ∨ k_ = gb) := by
 have hu := Tryz.underlying31
 have hu2 := Tryz.underlying50
 obtain ⟨⟨t1,t2⟩,E0,h1⟩ := Option.bind_eq_some_iff.1 h
 clear h
 have F0 := ak E0
 have H1 := ak h1
 clear E0 h1
 have BG := ak hx
 have GG := ak hg0
 have HB := ak hB
 have P2 := ak hP2
 have P3 := ak hP3
 have PD := ak h23
 have T2 := ak (Kd.S_mono (ok' := fun k_ => P2_ k_ ∧ k_ < w.heap.size) (Kd.S_bound ho2) (fun _ h_ => ⟨h_.1,h_.2.2.1⟩))
 have T3 := ak (Kd.R_mono (ok' := fun k_ => P3_ k_ ∧ k_ < w.heap.size) (Kd.R_bound ho3) (fun _ h_ => ⟨h_.1,h_.2.2.1⟩))
 have HK := ak (Kept.refl w (fun k_ => (P2_ k_ ∨ P3_ k_) ∨ k_ = gb))
 have LG := ak (blk_lt hx)
 clear hx hg0 hB hP2 hP3 h23 ho2 ho3
 go_enter Tryz.func40,Tryz.ntmps40
 go_wp2_with ((with_reducible refine gate_dst (N := 5) rfl ?_);refine bx_ 5 #[.int .i64 a1] 2 ?_;intro g1 hg w1 hbox hb;have hge := ak (Nat.le_of_eq hg.symm);clear hg;refine hold_40 ?_)
 refine ⟨?_⟩
 have BG := ak (blk_below BG.out hb)
 have T2 := ak (Kd.S_below T2.out hb)
 have T3 := ak (Kd.R_below T3.out hb)
 have HB := ak (below_step HB.out hb)
 have HK := ak (HK.out.below hb)
 have X1 := ak hbox
 have N1 := hge
 clear hbox hb hge
 go_wp2_with ((with_reducible refine gate_dst (N := 6) rfl ?_);refine bx_ 6 #[.int .i64 a2] 2 ?_;intro g2 hg w2 hbox hb;have hge := ak (Nat.le_of_eq hg.symm);clear hg;refine hold_40 ?_)
 refine ⟨?_⟩
 have N2 := ak (Nat.le_trans HK.out.1 hge.out)
 have BG := ak (blk_below BG.out hb)
 have T2 := ak (Kd.S_below T2.out hb)
 have T3 := ak (Kd.R_below T3.out hb)
 have HB := ak (below_step HB.out hb)
 have HK := ak (HK.out.below hb)
 have X1 := ak (blk_below X1.out hb)
 have X2 := ak hbox
 clear hbox hb hge
 have hcgb2_0 : w2.cell? ⟨gb,0,none⟩ = some (.bool b) := (blk_cell BG.out 0).trans rfl
 have hcgb2_1 : w2.cell? ⟨gb,1,none⟩ = some (s1) := (blk_cell BG.out 1).trans rfl
 have hcgb2_2 : w2.cell? ⟨gb,2,none⟩ = some (.slice A2 p2.length c2) := (blk_cell BG.out 2).trans rfl
 have hcgb2_3 : w2.cell? ⟨gb,3,none⟩ = some (.slice A3 p3.length c3) := (blk_cell BG.out 3).trans rfl
 go_wp2_with ((with_reducible refine gcal_ (f := 83) rfl ?_);refine gz_ (some 16) Tryz.func83 #[.slice A2 p2.length c2,.func (.func 84) #[] #[.pointer (some ⟨g1,0,none⟩),.pointer (some ⟨g2,0,none⟩)]] ?_;refine (slices_DeleteFunc_Record.calls (fun k_ => P2_ k_ ∧ k_ < w.heap.size) A2 c2 p2 g1 g2 a1 a2 w0 _ HB.out (fun h_ => absurd h_.2 (Nat.not_lt.2 N1.out)) (fun h_ => absurd h_.2 (Nat.not_lt.2 N2.out)) ((blk_cell X1.out 0).trans rfl) ((blk_cell X2.out 0).trans rfl) T2.out).mono ?_;rintro e w3 ⟨A4,c4,rfl,S,B,K⟩;refine ⟨_,rfl,?_⟩;refine hold_40 ?_)
 refine ⟨?_⟩
 have T2 := ak S
 have T3 := ak (Kd.R_kept T3.out K (fun k_ hk_ hs_ => PD.out k_ hs_.1 hk_.1))
 have HB := ak B
 have HK := ak (HK.out.then_ K (fun _ h_ => .inl (.inl (.inl h_.1))))
 have X1 := ak (blk_kept X1.out K (fun h_ => absurd h_.2 (Nat.not_lt.2 N1.out)))
 have BG := ak (blk_kept BG.out K (fun h_ => P2.out h_.1))
 clear S B K X2 N2 hcgb2_0 hcgb2_1 hcgb2_2 hcgb2_3
 have hcgb3_0 : w3.cell? ⟨gb,0,none⟩ = some (.bool b) := (blk_cell BG.out 0).trans rfl
 have hcgb3_1 : w3.cell? ⟨gb,1,none⟩ = some (s1) := (blk_cell BG.out 1).trans rfl
 have hcgb3_2 : w3.cell? ⟨gb,2,none⟩ = some (.slice A2 p2.length c2) := (blk_cell BG.out 2).trans rfl
 have hcgb3_3 : w3.cell? ⟨gb,3,none⟩ = some (.slice A3 p3.length c3) := (blk_cell BG.out 3).trans rfl
 have hfgb3_2 := blk_frozen BG.out 2
 go_upto_region 2 with (fail)
 have n0_ : Aside0 ((w3.setCell ⟨gb,2,none⟩ (.slice A4 (p2.filter fun x => !hits a1 a2 x).length c4)).heap[gb]? = some (.cells #[.bool b,s1,.slice A4 (p2.filter fun x => !hits a1 a2 x).length c4,.slice A3 p3.length c3] 31 (0,0))) := ⟨by refine blk_put (cs := #[.bool b,s1,.slice A2 p2.length c2,.slice A3 p3.length c3]) ?_ 2 _ rfl;exact BG.out⟩
 have n1_ := ak (Kd.S_far (p := ⟨gb,2,none⟩) T2.out (fun k_ h_ e_ => P2.out (show P2_ gb from (show k_ = gb from e_) ▸ h_.1)) (.slice A4 (p2.filter fun x => !hits a1 a2 x).length c4))
 have n2_ := ak (Kd.R_far (p := ⟨gb,2,none⟩) T3.out (fun k_ h_ e_ => P3.out (show P3_ gb from (show k_ = gb from e_) ▸ h_.1)) (.slice A4 (p2.filter fun x => !hits a1 a2 x).length c4))
 have n3_ : Aside0 (Below w0.heap.size w0 (w3.setCell ⟨gb,2,none⟩ (.slice A4 (p2.filter fun x => !hits a1 a2 x).length c4))) := ⟨below_set HB.out GG.out⟩
 have n4_ := ak (HK.out.setCell (p := ⟨gb,2,none⟩) (.inl (.inr rfl)) (.slice A4 (p2.filter fun x => !hits a1 a2 x).length c4))
 have n5_ : Aside0 ((w3.setCell ⟨gb,2,none⟩ (.slice A4 (p2.filter fun x => !hits a1 a2 x).length c4)).heap[g1]? = some (.cells #[.int .i64 a1] 2 (0,0))) := ⟨blk_far X1.out (Nat.ne_of_gt (Nat.lt_of_lt_of_le LG.out N1.out)) _⟩
 clear BG T2 T3 HB HK X1 hcgb3_0 hcgb3_1 hcgb3_2 hcgb3_3 hfgb3_2
 generalize (w3.setCell ⟨gb,2,none⟩ (.slice A4 (p2.filter fun x => !hits a1 a2 x).length c4)) = w4 at n0_ n1_ n2_ n3_ n4_ n5_ ⊢
 have BG := n0_
 have T2 := n1_
 have T3 := n2_
 have HB := n3_
 have HK := n4_
 have X1 := n5_
 clear n0_ n1_ n2_ n3_ n4_ n5_
 have B : Below w4.heap.size w4 w4.drew := below_drew1 (Below.refl _ _)
 have BG := ak (blk_below BG.out B)
 have T2 := ak (Kd.S_below T2.out B)
 have T3 := ak (Kd.R_below T3.out B)
 have HB := ak (below_step HB.out B)
 have HK := ak (HK.out.below B)
 have X1 := ak (blk_below X1.out B)
 clear B
 refine start_ (n := 11) (S := fun w' => w'.cell? ⟨gb,0,none⟩ = some (.bool b) ∧ w'.cell? ⟨gb,1,none⟩ = some (s1) ∧ w'.cell? ⟨gb,2,none⟩ = some (.slice A4 (p2.filter fun x => !hits a1 a2 x).length c4) ∧ w'.cell? ⟨gb,3,none⟩ = some (.slice A3 p3.length c3) ∧ w'.cell? ⟨g1,0,none⟩ = some (.int .i64 a1)) (ds := []) #[false,false,false,false,false,false,false,false,false,false,false] (by kernel_rfl) rfl rfl ⟨(blk_cell BG.out 0).trans rfl,(blk_cell BG.out 1).trans rfl,(blk_cell BG.out 2).trans rfl,(blk_cell BG.out 3).trans rfl,(blk_cell X1.out 0).trans rfl⟩ (fun hHeld => ?_)
 generalize w4.drew = wc at BG X1 T2 T3 HB HK hHeld ⊢
 refine pure_ (i := 0) (N := some 20) (v := ?_) (a' := ?_) #[true,false,false,false,false,false,false,false,false,false,false] rfl rfl (by kernel_rfl) (fun _ _ _ h => h) (Or.inl ⟨by rfl,?_⟩) ?_ ?_
 rotate_left
 ·intro w'
  go_simp
  with_reducible rfl
 rotate_left
 ·simp only [Act.put,q1,q2,q3,i64_w,i32_w]
  rfl
 refine pure_ (i := 1) (N := some 21) (v := ?_) (a' := ?_) #[true,true,false,false,false,false,false,false,false,false,false] rfl rfl (by kernel_rfl) (fun _ _ _ h => h) (Or.inl ⟨by rfl,?_⟩) ?_ ?_
 rotate_left
 ·intro w'
  go_simp
  with_reducible rfl
 rotate_left
 ·simp only [Act.put,q1,q2,q3,i64_w,i32_w]
  rfl
 refine pure_ (i := 2) (N := some 22) (v := ?_) (a' := ?_) #[true,true,true,false,false,false,false,false,false,false,false] rfl rfl (by kernel_rfl) (fun _ _ _ h => h) (Or.inl ⟨by rfl,?_⟩) ?_ ?_
 rotate_left
 ·intro w'
  go_simp
  with_reducible rfl
 rotate_left
 ·simp only [Act.put,q1,q2,q3,i64_w,i32_w]
  rfl
 refine take_ (i := 3) (N := some 23) (v := ?_) (a' := ?_) #[true,true,true,true,false,false,false,false,false,false,false] rfl rfl (by kernel_rfl) (fun _ _ _ h => h) (Or.inl ⟨by rfl,?_⟩) hHeld ?_ ?_
 rotate_left
 ·rintro w' ⟨s0,s1,s2,s3,s4⟩
  go_simp
  with_reducible rfl
 rotate_left
 ·simp only [Act.put,q1,q2,q3,i64_w,i32_w]
  rfl
 refine take_ (i := 4) (N := some 24) (v := ?_) (a' := ?_) #[true,true,true,true,true,false,false,false,false,false,false] rfl rfl (by kernel_rfl) (fun _ _ _ h => h) (Or.inl ⟨by rfl,?_⟩) hHeld ?_ ?_
 rotate_left
 ·rintro w' ⟨s0,s1,s2,s3,s4⟩
  go_simp
  with_reducible rfl
 rotate_left
 ·simp only [Act.put,q1,q2,q3,i64_w,i32_w]
  rfl
 refine one_ (i := 5) (N := some 25) #[true,true,true,true,true,true,false,false,false,false,false] rfl rfl (by kernel_rfl) (by decide) (fun K hK => ?_)
 refine goes_ Tryz.func85 (by kernel_rfl) rfl #[.slice A3 p3.length c3,.int .i64 a1] (by rfl) rfl rfl (by (try simp only [List.map_toArray,List.map_cons,List.map_nil]);first|done|rfl) ?_
 refine (slices_BinarySearch_int64_int64.calls k A3 c3 p3 a1 t1 t2 _ (Kd.R_reads' T3.out).2.2 (Kd.R_reads' T3.out).2.1 F0.out).mono ?_
 rintro e w5 ⟨rfl,B0⟩
 refine ⟨_,rfl,?_⟩
 have B := B0.below
 have BG := ak (blk_below BG.out B)
 have T2 := ak (Kd.S_below T2.out B)
 have T3 := ak (Kd.R_below T3.out B)
 have HB := ak (below_step HB.out B)
 have HK := ak (HK.out.below B)
 have X1 := ak (blk_below X1.out B)
 clear B B0
 refine hK.out _ _ ⟨(blk_cell BG.out 0).trans rfl,(blk_cell BG.out 1).trans rfl,(blk_cell BG.out 2).trans rfl,(blk_cell BG.out 3).trans rfl,(blk_cell X1.out 0).trans rfl⟩ (fun hHeld => ?_)
 clear hK K
 refine nr_ (some 25) _ ?_
 refine pure_ (i := 6) (N := some 19) (v := ?_) (a' := ?_) #[true,true,true,true,true,true,true,false,false,false,false] rfl rfl (by kernel_rfl) (fun _ _ _ h => h) (Or.inl ⟨by rfl,?_⟩) ?_ ?_
 rotate_left
 ·intro w'
  go_simp
  with_reducible rfl
 rotate_left
 ·simp only [Act.put,q1,q2,q3,i64_w,i32_w]
  rfl
 refine pure_ (i := 7) (N := some 26) (v := ?_) (a' := ?_) #[true,true,true,true,true,true,true,true,false,false,false] rfl rfl (by kernel_rfl) (fun _ _ _ h => h) (Or.inl ⟨by rfl,?_⟩) ?_ ?_
 rotate_left
 ·intro w'
  go_simp
  with_reducible rfl
 rotate_left
 ·simp only [Act.put,q1,q2,q3,i64_w,i32_w]
  rfl
 refine pure_ (i := 8) (N := some 27) (v := ?_) (a' := ?_) #[true,true,true,true,true,true,true,true,true,false,false] rfl rfl (by kernel_rfl) (fun _ _ _ h => h) (Or.inl ⟨by rfl,?_⟩) ?_ ?_
 rotate_left
 ·intro w'
  go_simp
  with_reducible rfl
 rotate_left
 ·simp only [Act.put,q1,q2,q3,i64_w,i32_w]
  rfl
 refine pure_ (i := 9) (N := some 8) (v := ?_) (a' := ?_) #[true,true,true,true,true,true,true,true,true,true,false] rfl rfl (by kernel_rfl) (fun _ _ _ h => h) (Or.inl ⟨by rfl,?_⟩) ?_ ?_
 rotate_left
 ·intro w'
  go_simp
  with_reducible rfl
 rotate_left
 ·simp only [Act.put,q1,q2,q3,i64_w,i32_w]
  rfl
 refine pure_ (i := 10) (N := some 9) (v := ?_) (a' := ?_) #[true,true,true,true,true,true,true,true,true,true,true] rfl rfl (by kernel_rfl) (fun _ _ _ h => h) (Or.inl ⟨by rfl,?_⟩) ?_ ?_
 rotate_left
 ·intro w'
  go_simp
  with_reducible rfl
 rotate_left
 ·simp only [Act.put,q1,q2,q3,i64_w,i32_w]
  rfl
 refine done_ (by kernel_rfl) ?_
 clear hHeld
 cases d with
  | false =>
  have h1 := H1.out
  simp only [Bool.false_eq_true,if_false,Option.some.injEq,Prod.mk.injEq] at h1
  obtain ⟨rfl,rfl⟩ := h1
  go_wp2
  go_end0
  exact ⟨rfl,A4,c4,A3,c3,BG.out,Kd.S_mono T2.out (fun _ h_ => h_.1),Kd.R_mono T3.out (fun _ h_ => .inl h_.1),HB.out,HK.out⟩
  | true =>
 have h1 := H1.out
 rw [if_pos rfl] at h1
 clear H1
 cases t2 with
  | true =>
  simp only [if_true,Option.some.injEq,Prod.mk.injEq] at h1
  obtain ⟨rfl,rfl⟩ := h1
  go_wp2
  go_end0
  exact ⟨rfl,A4,c4,A3,c3,BG.out,Kd.S_mono T2.out (fun _ h_ => h_.1),Kd.R_mono T3.out (fun _ h_ => .inl h_.1),HB.out,HK.out⟩
  | false =>
 rw [if_neg (by simp)] at h1
 by_cases hb : 0 ≤ t1 ∧ t1 ≤ (p3.length : Int) ∧ p3.length < 17592186044415
 rotate_left
 ·rw [if_neg hb] at h1;cases h1
 rw [if_pos hb] at h1
 simp only [Option.some.injEq,Prod.mk.injEq] at h1
 obtain ⟨rfl,rfl⟩ := h1
 obtain ⟨hb1,hb2,hb3⟩ := hb
 obtain ⟨i,rfl⟩ := Int.eq_ofNat_of_zero_le hb1
 have Q2 : Aside0 (i ≤ p3.length) := ⟨by omega⟩
 have Q3 := ak hb3
 clear hb1 hb2 hb3
 go_upto_region 4 with (fail)
 have B : Below w5.heap.size w5 w5.drew := below_drew1 (Below.refl _ _)
 have BG := ak (blk_below BG.out B)
 have T2 := ak (Kd.S_below T2.out B)
 have T3 := ak (Kd.R_below T3.out B)
 have HB := ak (below_step HB.out B)
 have HK := ak (HK.out.below B)
 have X1 := ak (blk_below X1.out B)
 clear B
 refine start_ (n := 12) (S := fun w' => w'.cell? ⟨gb,0,none⟩ = some (.bool b) ∧ w'.cell? ⟨gb,1,none⟩ = some (s1) ∧ w'.cell? ⟨gb,2,none⟩ = some (.slice A4 (p2.filter fun x => !hits a1 a2 x).length c4) ∧ w'.cell? ⟨gb,3,none⟩ = some (.slice A3 p3.length c3) ∧ w'.cell? ⟨g1,0,none⟩ = some (.int .i64 a1)) (ds := [11]) #[false,false,false,false,false,false,false,false,false,false,false,false] (by kernel_rfl) rfl rfl ⟨(blk_cell BG.out 0).trans rfl,(blk_cell BG.out 1).trans rfl,(blk_cell BG.out 2).trans rfl,(blk_cell BG.out 3).trans rfl,(blk_cell X1.out 0).trans rfl⟩ (fun hHeld => ?_)
 generalize w5.drew = wd at BG X1 T2 T3 HB HK hHeld ⊢
 refine pure_ (i := 0) (N := some 33) (v := ?_) (a' := ?_) #[true,false,false,false,false,false,false,false,false,false,false,false] rfl rfl (by kernel_rfl) (fun _ _ _ h => h) (Or.inl ⟨by rfl,?_⟩) ?_ ?_
 rotate_left
 ·intro w'
  go_simp
  with_reducible rfl
 rotate_left
 ·simp only [Act.put,q1,q2,q3,i64_w,i32_w]
  rfl
 refine pure_ (i := 1) (N := some 34) (v := ?_) (a' := ?_) #[true,true,false,false,false,false,false,false,false,false,false,false] rfl rfl (by kernel_rfl) (fun _ _ _ h => h) (Or.inl ⟨by rfl,?_⟩) ?_ ?_
 rotate_left
 ·intro w'
  go_simp
  with_reducible rfl
 rotate_left
 ·simp only [Act.put,q1,q2,q3,i64_w,i32_w]
  rfl
 refine pure_ (i := 2) (N := some 35) (v := ?_) (a' := ?_) #[true,true,true,false,false,false,false,false,false,false,false,false] rfl rfl (by kernel_rfl) (fun _ _ _ h => h) (Or.inl ⟨by rfl,?_⟩) ?_ ?_
 rotate_left
 ·intro w'
  go_simp
  with_reducible rfl
 rotate_left
 ·simp only [Act.put,q1,q2,q3,i64_w,i32_w]
  rfl
 refine pure_ (i := 3) (N := some 36) (v := ?_) (a' := ?_) #[true,true,true,true,false,false,false,false,false,false,false,false] rfl rfl (by kernel_rfl) (fun _ _ _ h => h) (Or.inl ⟨by rfl,?_⟩) ?_ ?_
 rotate_left
 ·intro w'
  go_simp
  with_reducible rfl
 rotate_left
 ·simp only [Act.put,q1,q2,q3,i64_w,i32_w]
  rfl
 refine take_ (i := 4) (N := some 37) (v := ?_) (a' := ?_) #[true,true,true,true,true,false,false,false,false,false,false,false] rfl rfl (by kernel_rfl) (fun _ _ _ h => h) (Or.inl ⟨by rfl,?_⟩) hHeld ?_ ?_
 rotate_left
 ·rintro w' ⟨s0,s1,s2,s3,s4⟩
  go_simp
  with_reducible rfl
 rotate_left
 ·simp only [Act.put,q1,q2,q3,i64_w,i32_w]
  rfl
 refine pure_ (i := 5) (N := some 38) (v := ?_) (a' := ?_) #[true,true,true,true,true,true,false,false,false,false,false,false] rfl rfl (by kernel_rfl) (fun _ _ _ h => h) (Or.inl ⟨by rfl,?_⟩) ?_ ?_
 rotate_left
 ·intro w'
  go_simp
  with_reducible rfl
 rotate_left
 ·simp only [Act.put,q1,q2,q3,i64_w,i32_w]
  rfl
 refine take_ (i := 6) (N := some 39) (v := ?_) (a' := ?_) #[true,true,true,true,true,true,true,false,false,false,false,false] rfl rfl (by kernel_rfl) (fun _ _ _ h => h) (Or.inl ⟨by rfl,?_⟩) hHeld ?_ ?_
 rotate_left
 ·rintro w' ⟨s0,s1,s2,s3,s4⟩
  go_simp
  with_reducible rfl
 rotate_left
 ·simp only [Act.put,q1,q2,q3,i64_w,i32_w]
  rfl
 refine one_ (i := 7) (N := some 40) #[true,true,true,true,true,true,true,true,false,false,false,false] rfl rfl (by kernel_rfl) (by decide) (fun K hK => ?_)
 refine value_ (w1 := ?_) (v := ?_) (by rfl) rfl ?_ ?_
 rotate_left 2
 ·go_simp
  constructor
  ·rfl
  ·rfl
 have BV := ak (blk_new wd (.cells #[.int .i64 a1] 2))
 have B : Below wd.heap.size wd (wd.alloc (.cells #[.int .i64 a1] 2)) := below_alloc (Below.refl _ _) _
 have NV := ak HK.out.1
 have BG := ak (blk_below BG.out B)
 have T2 := ak (Kd.S_below T2.out B)
 have T3 := ak (Kd.R_below T3.out B)
 have HB := ak (below_step HB.out B)
 have HK := ak (HK.out.below B)
 have X1 := ak (blk_below X1.out B)
 clear B
 generalize wd.alloc (.cells #[.int .i64 a1] 2) = we at BV BG X1 T2 T3 HB HK ⊢
 refine hK.out _ _ ⟨(blk_cell BG.out 0).trans rfl,(blk_cell BG.out 1).trans rfl,(blk_cell BG.out 2).trans rfl,(blk_cell BG.out 3).trans rfl,(blk_cell X1.out 0).trans rfl⟩ (fun hHeld => ?_)
 clear hK K
 refine nr_ (some 40) _ ?_
 refine one_ (i := 8) (N := some 41) #[true,true,true,true,true,true,true,true,true,false,false,false] rfl rfl (by kernel_rfl) (by decide) (fun K hK => ?_)
 refine goes_ Tryz.func86 (by kernel_rfl) rfl #[.slice A3 p3.length c3,.int .i64 (i : Int),.slice (some ⟨wd.heap.size,0,none⟩) 1 1] (by rfl) rfl rfl (by (try simp only [List.map_toArray,List.map_cons,List.map_nil]);first|done|rfl) ?_
 refine (slices_Insert_int64.calls (fun k_ => P3_ k_ ∧ k_ < w.heap.size) A3 c3 p3 i a1 wd.heap.size w0 _ HB.out (fun h_ => absurd h_.2 (Nat.not_lt.2 NV.out)) BV.out T3.out Q3.out Q2.out).mono ?_
 rintro e w6 ⟨A5,c5,rfl,S,B,K⟩
 refine ⟨_,rfl,?_⟩
 have T2 := ak (Kd.S_kept T2.out K (fun k_ hk_ hs_ => PD.out k_ hk_.1 hs_.1))
 have BG := ak (blk_kept BG.out K (fun h_ => P3.out h_.1))
 have X1 := ak (blk_kept X1.out K (fun h_ => absurd h_.2 (Nat.not_lt.2 N1.out)))
 have T3 := ak (Kd.R_mono (ok' := fun k_ => (P3_ k_ ∨ w.heap.size ≤ k_) ∧ k_ ≠ gb) S (fun k_ h_ => h_.elim (fun h1_ => ⟨.inl h1_.1,fun e_ => P3.out (e_ ▸ h1_.1)⟩) (fun h1_ => ⟨.inr (Nat.le_trans HK.out.1 h1_),fun e_ => absurd LG.out (Nat.not_lt.2 (e_ ▸ Nat.le_trans HK.out.1 h1_))⟩)))
 have HB := ak B
 have HK := ak (HK.out.then_ K (fun _ h_ => .inl (.inl (.inr h_.1))))
 clear S B K BV
 refine hK.out _ _ ⟨(blk_cell BG.out 0).trans rfl,(blk_cell BG.out 1).trans rfl,(blk_cell BG.out 2).trans rfl,(blk_cell BG.out 3).trans rfl,(blk_cell X1.out 0).trans rfl⟩ (fun hHeld => ?_)
 clear hK K
 refine nr_ (some 41) _ ?_
 refine pure_ (i := 9) (N := some 42) (v := ?_) (a' := ?_) #[true,true,true,true,true,true,true,true,true,true,false,false] rfl rfl (by kernel_rfl) (fun _ _ _ h => h) (Or.inl ⟨by rfl,?_⟩) ?_ ?_
 rotate_left
 ·intro w'
  go_simp
  with_reducible rfl
 rotate_left
 ·simp only [Act.put,q1,q2,q3,i64_w,i32_w]
  rfl
 refine pure_ (i := 10) (N := some 43) (v := ?_) (a' := ?_) #[true,true,true,true,true,true,true,true,true,true,true,false] rfl rfl (by kernel_rfl) (fun _ _ _ h => h) (Or.inl ⟨by rfl,?_⟩) ?_ ?_
 rotate_left
 ·intro w'
  go_simp
  with_reducible rfl
 rotate_left
 ·simp only [Act.put,q1,q2,q3,i64_w,i32_w]
  rfl
 refine last_ (i := 11) (N := none) #[true,true,true,true,true,true,true,true,true,true,true,true] rfl rfl (by kernel_rfl) (by decide) (fun K hK => ?_)
 have hs_ : w6.cell? ⟨gb,3,none⟩ = some (.slice A3 p3.length c3) := (blk_cell BG.out 3).trans rfl
 have hf_ := blk_frozen BG.out 3
 refine skip_ (w1 := (w6.setCell ⟨gb,3,none⟩ (.slice A5 (p3.length + 1) c5))) (by rfl) rfl ?_ ?_
 ·first|(go_simp;done)|(go_simp;rfl)|(go_simp;simp)
 refine hK.out _ _ ?_
 clear hK K
 refine done_ (by kernel_rfl) ?_
 clear hs_ hf_ hHeld
 go_wp2
 go_end0
 try rw [Int.toNat_natCast]
 have e_ : (p3.take i ++ [a1] ++ p3.drop i).length = p3.length + 1 := by have := Q2.out;simp;omega
 refine ⟨rfl,A4,c4,A5,c5,?_,Kd.S_mono (Kd.S_far (p := ⟨gb,3,none⟩) T2.out (fun k_ h_ e_ => P2.out (show P2_ gb from (show k_ = gb from e_) ▸ h_.1)) _) (fun _ h_ => h_.1),?_,below_set HB.out GG.out,HK.out.setCell (p := ⟨gb,3,none⟩) (.inl (.inr rfl)) _⟩
 ·rw [e_];refine blk_put (cs := #[.bool b,s1,.slice A4 (p2.filter fun x => !hits a1 a2 x).length c4,.slice A3 p3.length c3]) ?_ 3 _ rfl;exact BG.out
 ·rw [e_];exact Kd.R_mono (Kd.R_far (p := ⟨gb,3,none⟩) T3.out (fun _ h_ => h_.2) _) (fun _ h_ => h_.1)

end Go.Proofs.YthplaakckfhaaaaGreat.XMs
