/- Proved: of each Go function here that a call comes to what the Lean function of its name tells. Written by a program of this session over the translation. No conditions beyond each theorem's own. -/
import Derived.Test.YthplaakckfhaaaaXRp0
namespace Go.Proofs.Ythplaakckfhaaaa.XRp
open Go.RowKit Go.Proofs.Ythplaakckfhaaaa.Aid Go.Proofs.YthplaakckfhaaaaW.PrintWords Go.Proofs.YthplaakckfhaaaaW.PrintLast Go.Proofs.YthplaakckfhaaaaW.PrintMore
set_option linter.unusedVariables false
set_option linter.unusedSimpArgs false

/-! ### words for slices.DeleteFunc at a struct: a row's cells and its elements' blocks, told apart; a row told anew out of some of its elements -/
theorem S_rows_ {α : Type} {d : Kd α} {e : Nat} {w : World} {base : Nat} {ok : Nat → Prop} {g n cap : Nat} {xs : List α} (h : Kd.S d e w base ok (.slice (some ⟨g, 0, none⟩) n cap) xs) :
  ∃ (f : Nat → Nat) (rows : List (List Value)),rows.length = xs.length ∧ ok g ∧ (Kd.raw d.sz).R e w base (fun _ => True) (.slice (some ⟨g,0,none⟩) n cap) rows ∧ ∀ (j : Nat) (x : α) (c : List Value),xs[j]? = some x → rows[j]? = some c → d.M w base (fun k => (ok k ∧ k ≠ g) ∧ f k = j) x c := by
 obtain ⟨f,h0,inner,ho,hr⟩ := h
 have hl : (Kd.chunks d.sz xs.zipIdx.length inner).length = xs.zipIdx.length := Kd.chunks_length _ _ _
 refine ⟨f,Kd.chunks d.sz xs.zipIdx.length inner,by rw [hl,List.length_zipIdx],h0 g (by simp [Value.ownBlock]),⟨fun _ _ => trivial,inner,by rw [hl];exact ho,Kd.reps_raw hr (fun x c hp => ⟨(Kd.tag f d).K_len ((Kd.tag f d).K_of_M hp),(Kd.tag f d).K_one ((Kd.tag f d).K_of_M hp)⟩)⟩,fun j x c hx hc => ?_⟩
 rw [Kd.chunks_get hc]
 have hm : d.M w base (fun k => (ok k ∧ some k ≠ (Value.slice (some ⟨g,0,none⟩) n cap).ownBlock) ∧ f k = j) x ((inner.drop (j * d.sz)).take d.sz) := hr.2 j (x,j) (Kd.zip_at hx)
 exact d.M_mono (fun k hk => ⟨⟨hk.1.1,fun he => hk.1.2 (by rw [he];simp [Value.ownBlock])⟩,hk.2⟩) hm
theorem S_of_rows_ {α : Type} {d : Kd α} {e : Nat} {w : World} {base : Nat} {ok : Nat → Prop} {g n cap : Nat} {ys : List α} {rows : List (List Value)} (f : Nat → Nat) (hl : rows.length = ys.length) (hg : ok g) (hR : (Kd.raw d.sz).R e w base (fun _ => True) (.slice (some ⟨g, 0, none⟩) n cap) rows)
  (hM : ∀ (j : Nat) (x : α) (c : List Value),ys[j]? = some x → rows[j]? = some c → d.M w base (fun k => (ok k ∧ k ≠ g) ∧ f k = j) x c) : Kd.S d e w base ok (.slice (some ⟨g,0,none⟩) n cap) ys := by
 obtain ⟨_,inner,ho,hr⟩ := hR
 refine ⟨f,fun k hk => ?_,inner,by rw [List.length_zipIdx,← hl];exact ho,by rw [List.length_zipIdx,← hl];exact hr.1,fun j p hj => ?_⟩
 ·have : g = k := by simpa [Value.ownBlock] using hk
  subst this;exact hg
 ·rw [List.getElem?_zipIdx,Nat.zero_add] at hj
  obtain ⟨x,hx,rfl⟩ := Option.map_eq_some_iff.1 hj
  have hjl : j < rows.length := by rw [hl];exact (List.getElem?_eq_some_iff.1 hx).1
  have h1 := hr.2 j _ (List.getElem?_eq_getElem hjl)
  have hm := hM j x _ hx (List.getElem?_eq_getElem hjl)
  show d.M w base (fun k => (ok k ∧ some k ≠ (Value.slice (some ⟨g,0,none⟩) n cap).ownBlock) ∧ f k = j) x ((inner.drop (j * d.sz)).take d.sz)
  rw [show (inner.drop (j * d.sz)).take d.sz = rows[j] from h1.1]
  exact d.M_mono (fun k hk => ⟨⟨hk.1.1,fun he => hk.1.2 (by simpa [Value.ownBlock] using he)⟩,hk.2⟩) hm
/-- Where index i stands in a list of indices. -/
noncomputable def posIn (ix : List Nat) (i : Nat) : Nat := open Classical in if h : ∃ j,ix[j]? = some i then Classical.choose h else 0
theorem posIn_at {ix : List Nat} (hn : ix.Nodup) {j i : Nat} (h : ix[j]? = some i) : posIn ix i = j := by
 have hex : ∃ j,ix[j]? = some i := ⟨j,h⟩
 unfold posIn
 rw [dif_pos hex]
 have hc := Classical.choose_spec hex
 have hlt := (List.getElem?_eq_some_iff.1 hc).1
 exact (List.getElem?_inj hlt hn).1 (hc.trans h.symm)
/-- The indices below j that stay. -/
def stays {α : Type} (p : α → Bool) (z : α) (xs : List α) (j : Nat) : List Nat := (List.range j).filter fun t => !p (xs.getD t z)
theorem stays_succ {α : Type} (p : α → Bool) (z : α) (xs : List α) (j : Nat) : stays p z xs (j + 1) = stays p z xs j ++ (if p (xs.getD j z) = true then [] else [j]) := by
 unfold stays
 rw [List.range_succ,List.filter_append]
 congr 1
 cases h : p (xs.getD j z)
 ·simp only [List.filter_cons,List.filter_nil,h];rfl
 ·simp only [List.filter_cons,List.filter_nil,h];rfl
theorem stays_nodup {α : Type} (p : α → Bool) (z : α) (xs : List α) (j : Nat) : (stays p z xs j).Nodup := List.nodup_range.filter _
theorem stays_lt {α : Type} (p : α → Bool) (z : α) (xs : List α) (j : Nat) {t : Nat} (h : t ∈ stays p z xs j) : t < j := List.mem_range.1 (List.mem_filter.1 h).1
theorem stays_len {α : Type} (p : α → Bool) (z : α) (xs : List α) : ∀ j, (stays p z xs j).length ≤ j
  | 0 => by simp [stays]
  | j + 1 => by
    have := stays_len p z xs j
    rw [stays_succ,List.length_append]
    split <;> simp <;> omega
theorem stays_map {α : Type} (p : α → Bool) (z : α) (xs : List α) : ∀ j, j ≤ xs.length → (stays p z xs j).map (xs.getD · z) = (xs.take j).filter fun x => !p x
  | 0, _ => by simp [stays]
  | j + 1, h => by
    have ih := stays_map p z xs j (by omega)
    have hj : xs.getD j z = xs[j] := by rw [List.getD_eq_getElem?_getD,List.getElem?_eq_getElem (by omega)];rfl
    rw [stays_succ,List.map_append,ih,List.take_succ_eq_append_getElem (by omega),List.filter_append,hj]
    congr 1
    cases hp : p xs[j] with
    | true =>
     rw [if_pos rfl]
     simp only [List.map_nil,List.filter_cons,hp,List.filter_nil]
     rfl
    | false =>
     rw [if_neg (by simp)]
     simp only [List.map_cons,List.map_nil,List.filter_cons,hp,hj,List.filter_nil]
     rfl
theorem stays_all {α : Type} (p : α → Bool) (z : α) (xs : List α) : ∀ j, (∀ t, t < j → p (xs.getD t z) = false) → stays p z xs j = List.range j
  | 0, _ => by simp [stays]
  | j + 1, h => by
    rw [stays_succ,stays_all p z xs j (fun t ht => h t (by omega)),List.range_succ,if_neg (by rw [h j (by omega)];simp)]
theorem idx_first {α : Type} (p : α → Bool) : ∀ (l : List α) (i : Nat), (idxFrom (fun x => some (p x)) l i = some (-1) ∧ ∀ x ∈ l, p x = false) ∨ ∃ j, ∃ h : j < l.length, idxFrom (fun x => some (p x)) l i = some ((i + j : Nat) : Int) ∧ p l[j] = true ∧ ∀ t (ht : t < j), p l[t] = false
  | [], i => .inl ⟨rfl, fun _ h => by cases h⟩
  | x :: l, i => by
    simp only [idxFrom,Option.bind_some]
    cases hx : p x with
    | true => exact .inr ⟨0, by simp, by simp, hx, fun t ht => by omega⟩
    | false =>
     rw [if_neg (by simp)]
     rcases idx_first p l (i + 1) with ⟨h1,h2⟩ | ⟨j,hj,h1,h2,h3⟩
     ·exact .inl ⟨h1,fun y hy => by
       rcases List.mem_cons.1 hy with e | e
       ·rw [e];exact hx
       ·exact h2 y e⟩
     ·refine .inr ⟨j + 1,by simpa using hj,by rw [h1];congr 2;omega,h2,fun t ht => ?_⟩
      cases t with
      | zero => exact hx
      | succ t => exact h3 t (by omega)
/-- Where the deleting of elements stands: element m is written next, element j read. -/
def Del {α : Type} (p : α → Bool) (z : α) (xs : List α) (rows0 rows : List (List Value)) (m j : Nat) : Prop :=
 m = (stays p z xs j).length ∧ rows.length = rows0.length ∧ rows.take m = (stays p z xs j).map (rows0.getD · []) ∧ rows.drop j = rows0.drop j
theorem del_skip {α : Type} {p : α → Bool} {z : α} {xs : List α} {rows0 rows : List (List Value)} {m j : Nat} (h : Del p z xs rows0 rows m j) (hp : p (xs.getD j z) = true) : Del p z xs rows0 rows m (j + 1) := by
 obtain ⟨h1,h2,h3,h4⟩ := h
 have e := stays_succ p z xs j
 rw [if_pos hp,List.append_nil] at e
 refine ⟨by rw [e];exact h1,h2,by rw [e];exact h3,?_⟩
 rw [← List.drop_drop,← List.drop_drop,h4]
theorem del_at {α : Type} {p : α → Bool} {z : α} {xs : List α} {rows0 rows : List (List Value)} {m j : Nat} (h : Del p z xs rows0 rows m j) (hj : j < rows0.length) : rows.getD j [] = rows0.getD j [] := by
 obtain ⟨h1,h2,h3,h4⟩ := h
 have := congrArg (fun l => l[0]?) h4
 simp only [List.getElem?_drop,Nat.add_zero] at this
 rw [List.getD_eq_getElem?_getD,List.getD_eq_getElem?_getD,this]
theorem del_move {α : Type} {p : α → Bool} {z : α} {xs : List α} {rows0 rows : List (List Value)} {m j : Nat} (h : Del p z xs rows0 rows m j) (hp : p (xs.getD j z) = false) (hm : m ≤ j) (hj : j < rows0.length) : Del p z xs rows0 (rows.set m (rows0.getD j [])) (m + 1) (j + 1) := by
 obtain ⟨h1,h2,h3,h4⟩ := h
 have e := stays_succ p z xs j
 rw [if_neg (by rw [hp];simp)] at e
 refine ⟨by rw [e,List.length_append,← h1];rfl,by rw [List.length_set,h2],?_,?_⟩
 ·rw [e,List.map_append,← h3]
  rw [List.take_succ_eq_append_getElem (by rw [List.length_set];omega),List.getElem_set_self,List.take_set_of_le (Nat.le_refl _)]
  rfl
 ·rw [List.drop_set_of_lt (by omega),← List.drop_drop,← List.drop_drop,h4]
/-- The row of what stays. -/
theorem S_kept_ {α : Type} {d : Kd α} {e : Nat} {w w1 : World} {base : Nat} {ok : Nat → Prop} {g m cap : Nat} {p : α → Bool} {z : α} {xs : List α} {rows0 : List (List Value)} {f : Nat → Nat} (hg : ok g) (hl : rows0.length = xs.length)
  (hM : ∀ (j : Nat) (x : α) (c : List Value),xs[j]? = some x → rows0[j]? = some c → d.M w base (fun k => (ok k ∧ k ≠ g) ∧ f k = j) x c) (hk : ∀ k,k ≠ g → k < w.heap.size → w1.heap[k]? = w.heap[k]?)
  (hR : (Kd.raw d.sz).R e w1 base (fun _ => True) (.slice (some ⟨g,0,none⟩) m cap) ((stays p z xs xs.length).map (rows0.getD · []))) : Kd.S d e w1 base ok (.slice (some ⟨g,0,none⟩) m cap) (xs.filter fun x => !p x) := by
 have hys : (xs.filter fun x => !p x) = (stays p z xs xs.length).map (xs.getD · z) := by rw [stays_map p z xs xs.length (Nat.le_refl _),List.take_length]
 rw [hys]
 refine S_of_rows_ (fun k => posIn (stays p z xs xs.length) (f k)) (by rw [List.length_map,List.length_map]) hg hR (fun j x c hx hc => ?_)
 rw [List.getElem?_map] at hx hc
 obtain ⟨t,ht,rfl⟩ := Option.map_eq_some_iff.1 hx
 obtain ⟨t2,ht2,rfl⟩ := Option.map_eq_some_iff.1 hc
 have : t2 = t := Option.some.inj (ht2.symm.trans ht)
 subst this
 have hlt := stays_lt p z xs xs.length (List.mem_of_getElem? ht)
 have hx0 : xs[t2]? = some (xs.getD t2 z) := by rw [List.getD_eq_getElem?_getD,List.getElem?_eq_getElem hlt];rfl
 have hr0 : rows0[t2]? = some (rows0.getD t2 []) := by rw [List.getD_eq_getElem?_getD,List.getElem?_eq_getElem (by omega)];rfl
 have hm := hM t2 _ _ hx0 hr0
 exact d.M_mono (fun k hk => ⟨hk.1,by show posIn _ (f k) = j;rw [hk.2];exact posIn_at (stays_nodup p z xs _) ht⟩) (Kd.M_step hm (fun k hk2 hlt => hk k hk2.1.2 hlt))
theorem run_clear_row {P : Program} (w : World) (t e ty : TypeId) (z : Value) (ht : P.underlying t = some (.slice e)) (hv : ∀ w, (zeroValue e).run P w = .ok z w) (h1 : ∀ v ∈ z.cells.toList, v.oneCell' = true) (hz : 0 < z.cells.size) (b o n c : Nat) (hn : 0 < n)
  (hc : ∀ j,j < n * z.cells.size → (w.cell? ⟨b,o + j,none⟩).isSome = true) (hf : ∀ j,j < n * z.cells.size → w.frozen? ⟨b,o + j,none⟩ = false) :
  (Builtin.clear_ #[t] ty #[.slice (some ⟨b,o,none⟩) n c]).run P w = .ok (.tuple #[]) (w.setCells b o (Builtin.zeroCells z.cells n).toList) := by
 have hl : (Builtin.zeroCells z.cells n).toList.length = n * z.cells.size := by simp [Builtin.zeroCells]
 have hst := run_storeCells_cells (P := P) b o (Builtin.zeroCells z.cells n).toList 0 w (by rw [hl];simpa using hc) (by rw [hl];simpa using hf) (by
  intro v hv'
  simp only [Builtin.zeroCells,Array.toList_map,List.mem_map,Array.mem_toList_iff,Array.mem_range] at hv'
  obtain ⟨i,_,rfl⟩ := hv'
  have : i % z.cells.size < z.cells.size := Nat.mod_lt _ hz
  rw [getElem!_pos z.cells _ this]
  exact h1 _ (by simp))
 simp only [Nat.add_zero] at hst
 obtain ⟨m,rfl⟩ : ∃ m,n = m + 1 := ⟨n - 1,by omega⟩
 simp [Builtin.clear_,run_underlying ht,hv,hst]
theorem keep_set_ {w w1 : World} {g : Nat} (h : KeepBut w w1 g none) (j : Nat) (u : Value) : KeepBut w (w1.setCell ⟨g, j, none⟩ u) g none :=
 ⟨by simpa [World.setCell] using h.1,fun i hi hg hr => (Below.heap_setCell w1 ⟨g,j,none⟩ u i hg).trans (h.2 i hi hg hr)⟩
theorem zero_cells4_ (a b c d : Value) : ∀ n, (Builtin.zeroCells #[a, b, c, d] n).toList = (List.replicate n [a, b, c, d]).flatten
  | 0 => by simp [Builtin.zeroCells]
  | n + 1 => by
    have ih := zero_cells4_ a b c d n
    have e : (Builtin.zeroCells #[a,b,c,d] (n + 1)).toList = (Builtin.zeroCells #[a,b,c,d] n).toList ++ [a,b,c,d] := by
     simp only [Builtin.zeroCells,Array.toList_map,Array.toList_range]
     show (List.range ((n + 1) * 4)).map _ = (List.range (n * 4)).map _ ++ _
     rw [show (n + 1) * 4 = n * 4 + 4 from by omega,List.range_add,List.map_append]
     congr 1
     have h0 : (n * 4 + 0) % 4 = 0 := by omega
     have h1 : (n * 4 + 1) % 4 = 1 := by omega
     have h2 : (n * 4 + 2) % 4 = 2 := by omega
     have h3 : (n * 4 + 3) % 4 = 3 := by omega
     show [(#[a,b,c,d] : Array Value)[(n * 4 + 0) % 4]!,(#[a,b,c,d] : Array Value)[(n * 4 + 1) % 4]!,(#[a,b,c,d] : Array Value)[(n * 4 + 2) % 4]!,(#[a,b,c,d] : Array Value)[(n * 4 + 3) % 4]!] = _
     rw [h0,h1,h2,h3]
     rfl
    rw [e,ih,List.replicate_succ',List.flatten_append]
    simp
theorem blk_put_ {w : World} {g : Nat} {e : TypeId} {cur c2 : Array Value} (h : w.heap[g]? = some (.cells cur e (0, 0))) (j : Nat) (v : Value) (hj : j < cur.size) (h2 : c2 = cur.set j v hj) : (w.setCell ⟨g, j, none⟩ v).heap[g]? = some (.cells c2 e (0, 0)) := by
 subst h2
 exact blk_put (cs := cur) h j v (by simp [Array.set!,Array.setIfInBounds,hj])
theorem addr_at_ (g j : Nat) : (⟨g, 0, none⟩ : Addr).add j = ⟨g, j, none⟩ := by unfold Addr.add; split <;> simp_all
theorem addr_off_ (g o j : Nat) : (⟨g, o, none⟩ : Addr).add j = ⟨g, o + j, none⟩ := by unfold Addr.add; split <;> simp_all
/-! ### words for slices.Insert: cells of a block written one behind the other -/
theorem heap_setCells_ (g : Nat) : ∀ (vs : List Value) (o : Nat) (W : World) (cur : Array Value) (e : TypeId), W.heap[g]? = some (.cells cur e (0, 0)) → o + vs.length ≤ cur.size →
  ∃ cur' : Array Value,(W.setCells g o vs).heap[g]? = some (.cells cur' e (0,0)) ∧ cur'.size = cur.size ∧ (∀ j,j < vs.length → cur'[o + j]? = vs[j]?) ∧ ∀ j,(j < o ∨ o + vs.length ≤ j) → cur'[j]? = cur[j]?
  | [], o, W, cur, e, h, _ => ⟨cur, h, rfl, fun j hj => absurd hj (Nat.not_lt_zero _), fun _ _ => rfl⟩
  | v :: r, o, W, cur, e, h, hl => by
    rw [List.length_cons] at hl
    obtain ⟨c2,h2⟩ : ∃ c2 : Array Value,c2 = cur.set o v (by omega) := ⟨_,rfl⟩
    have hw : (W.setCell ⟨g,o,none⟩ v).heap[g]? = some (.cells c2 e (0,0)) := blk_put_ h o v (by omega) h2
    have hs2 : c2.size = cur.size := by rw [h2,Array.size_set]
    obtain ⟨cur',g1,g2,g3,g4⟩ := heap_setCells_ g r (o + 1) _ c2 e hw (by rw [hs2];omega)
    refine ⟨cur',g1,by rw [g2,hs2],fun j hj => ?_,fun j hj => ?_⟩
    ·cases j with
     | zero =>
      rw [Nat.add_zero,g4 o (.inl (by omega)),h2,Array.getElem?_set_self];rfl
     | succ j =>
      rw [show o + (j + 1) = o + 1 + j from by omega,g3 j (by rw [List.length_cons] at hj;omega)];rfl
    ·rw [List.length_cons] at hj
     rw [g4 j (by omega),h2,Array.getElem?_set_ne (by omega) (by omega)]
theorem keep_setCells_ (g : Nat) {w : World} : ∀ (vs : List Value) (o : Nat) (W : World), KeepBut w W g none → KeepBut w (W.setCells g o vs) g none
  | [], _, _, h => h
  | v :: r, o, W, h => keep_setCells_ g r (o + 1) _ (keep_set_ h o v)
theorem below_setCells_ (g : Nat) {w : World} : ∀ (vs : List Value) (o : Nat) (W : World), Below w.heap.size w W → w.heap.size ≤ g → Below w.heap.size w (W.setCells g o vs)
  | [], _, _, h, _ => h
  | v :: r, o, W, h, hg => below_setCells_ g r (o + 1) _ (below_set h hg) hg
theorem row_head_ {α : Type} {d : Kd α} {e : Nat} {w : World} {base : Nat} {ok : Nat → Prop} {ad : Addr} {n cap : Nat} {xs : List α} (h : d.R e w base ok (.slice (some ad) n cap) xs) : ∃ g, ad = ⟨g, 0, none⟩ := by
 obtain ⟨_,inner,ho,hr⟩ := h
 rcases ho.2 with ⟨hv,_⟩ | ⟨g,cap',cur,hv,_⟩
 ·cases hv
 ·injection hv with ha _ _
  injection ha with ha
  exact ⟨g,ha⟩
/-! ### words for slices.Insert at a struct: a row of rows of cells, laid flat -/
theorem flat_rows_ {s : Nat} : ∀ (rows : List (List Value)) (inner : List Value), inner.length = rows.length * s → (∀ j p, rows[j]? = some p → (inner.drop (j * s)).take s = p) → inner = rows.flatten
  | [], inner, hl, _ => by
    have : inner.length = 0 := by simpa using hl
    rw [List.length_eq_zero_iff.1 this];rfl
  | r :: rows, inner, hl, h => by
    have h0 := h 0 r rfl
    rw [Nat.zero_mul,List.drop_zero] at h0
    rw [List.length_cons,Nat.succ_mul] at hl
    have ih := flat_rows_ (s := s) rows (inner.drop s) (by rw [List.length_drop];omega) (fun j p hp => by
     have := h (j + 1) p (by simpa using hp)
     rwa [Nat.succ_mul,Nat.add_comm,← List.drop_drop] at this)
    rw [List.flatten_cons,← ih,← h0,List.take_append_drop]
theorem flat_at_ {s : Nat} : ∀ (rows : List (List Value)) (j : Nat) (p : List Value), (∀ r ∈ rows, r.length = s) → rows[j]? = some p → (rows.flatten.drop (j * s)).take s = p
  | [], j, p, _, h => by simp at h
  | r :: rows, j, p, hl, h => by
    have hr := hl r List.mem_cons_self
    cases j with
    | zero =>
     obtain rfl : r = p := by simpa using h
     rw [Nat.zero_mul,List.drop_zero,List.flatten_cons,List.take_append_of_le_length (by omega),List.take_of_length_le (by omega)]
    | succ j =>
     have ih := flat_at_ rows j p (fun r hr => hl r (List.mem_cons_of_mem _ hr)) (by simpa using h)
     rw [List.flatten_cons,Nat.succ_mul,Nat.add_comm,← List.drop_drop,List.drop_left' hr]
     exact ih
theorem flat_len_ {s : Nat} : ∀ (rows : List (List Value)), (∀ r ∈ rows, r.length = s) → rows.flatten.length = rows.length * s
  | [], _ => by simp
  | r :: rows, h => by
    rw [List.flatten_cons,List.length_append,flat_len_ rows (fun r hr => h r (List.mem_cons_of_mem _ hr)),h r List.mem_cons_self,List.length_cons,Nat.succ_mul,Nat.add_comm]
theorem flat_take_ {s : Nat} : ∀ (rows : List (List Value)) (i : Nat), (∀ r ∈ rows, r.length = s) → (rows.take i).flatten = rows.flatten.take (i * s)
  | [], i, _ => by simp
  | r :: rows, 0, _ => by simp
  | r :: rows, i + 1, h => by
    rw [List.take_succ_cons,List.flatten_cons,List.flatten_cons,flat_take_ rows i (fun r hr => h r (List.mem_cons_of_mem _ hr)),Nat.succ_mul,show i * s + s = r.length + i * s from by rw [h r List.mem_cons_self];omega,List.take_length_add_append]
theorem flat_drop_ {s : Nat} : ∀ (rows : List (List Value)) (i : Nat), (∀ r ∈ rows, r.length = s) → (rows.drop i).flatten = rows.flatten.drop (i * s)
  | [], i, _ => by simp
  | r :: rows, 0, _ => by simp
  | r :: rows, i + 1, h => by
    rw [List.drop_succ_cons,List.flatten_cons,flat_drop_ rows i (fun r hr => h r (List.mem_cons_of_mem _ hr)),Nat.succ_mul,show i * s + s = s + i * s from Nat.add_comm _ _,← List.drop_drop,List.drop_left' (h r List.mem_cons_self)]
/-- What a raw row's block holds. -/
theorem cells_of_rows_ {W : World} {e base s g n cap : Nat} {ok : Nat → Prop} {rows : List (List Value)} (h : (Kd.raw s).R e W base ok (.slice (some ⟨g, 0, none⟩) n cap) rows) : ∃ cur : Array Value, W.heap[g]? = some (.cells cur e (0, 0)) ∧ base ≤ g ∧ n ≤ cap ∧ cap ≤ maxLen ∧ cur.size = cap * s ∧ rows.length = n ∧ (∀ r ∈ rows, r.length = s ∧ ∀ u ∈ r, u.oneCell' = true) ∧ ∀ j (hj : j < rows.flatten.length), cur[j]? = some rows.flatten[j] := by
 have hn := (Kd.R_reads' h).1
 have hcap := (Kd.R_reads' h).2.1
 obtain ⟨_,inner,ho,hp⟩ := h
 have hrow : ∀ r ∈ rows,r.length = s ∧ ∀ u ∈ r,u.oneCell' = true := fun r hr => by
  obtain ⟨j,hj,rfl⟩ := List.getElem_of_mem hr
  have := hp.2 j _ (List.getElem?_eq_getElem hj)
  have h3 : (inner.drop (j * s)).take s = rows[j] ∧ ((inner.drop (j * s)).take s).length = s ∧ ∀ u ∈ (inner.drop (j * s)).take s,u.oneCell' = true := this
  rw [h3.1] at h3
  exact h3.2
 have hin : inner = rows.flatten := flat_rows_ (s := s) rows inner hp.1 (fun j p hj => (show (inner.drop (j * s)).take s = p ∧ _ from hp.2 j p hj).1)
 rcases ho.2 with ⟨hv,_⟩ | ⟨g',cap',cur,hv,hb,hh,hc1,hc2,hc3,hc4⟩
 ·cases hv
 ·injection hv with hv1 hv2 hv3
  injection hv1 with hv1
  injection hv1 with hv1
  subst hv1
  subst hv3
  refine ⟨cur,hh,hb,by omega,hc2,hc3,hn.symm,hrow,fun j hj => ?_⟩
  have e1 : cur.toList.take (rows.length * s) = inner := hc4
  have hl := flat_len_ rows (fun r hr => (hrow r hr).1)
  subst hin
  have e2 := congrArg (fun l => l[j]?) e1
  rw [List.getElem?_take_of_lt (by omega),List.getElem?_eq_getElem hj,Array.getElem?_toList] at e2
  exact e2
theorem rows_of_cells_ {W : World} {e base s g n cap : Nat} {ok : Nat → Prop} {rows : List (List Value)} {cur : Array Value} (hh : W.heap[g]? = some (.cells cur e (0, 0))) (hb : base ≤ g) (hg : ok g) (hn : n ≤ cap) (hc : cap ≤ maxLen) (hs : cur.size = cap * s) (hl : rows.length = n) (hr : ∀ r ∈ rows, r.length = s ∧ ∀ u ∈ r, u.oneCell' = true)
  (hx : ∀ j (hj : j < rows.flatten.length),cur[j]? = some rows.flatten[j]) : (Kd.raw s).R e W base ok (.slice (some ⟨g,0,none⟩) n cap) rows := by
 have hfl := flat_len_ rows (fun r h => (hr r h).1)
 have hcs : n * s ≤ cap * s := Nat.mul_le_mul_right _ hn
 have ht : cur.toList.take (rows.length * s) = rows.flatten := by
  apply List.ext_getElem
  ·have e1 : cur.toList.length = cap * s := by rw [← hs];simp
   rw [List.length_take,e1,hfl,hl];omega
  ·intro j h1 h2
   have := hx j h2
   rw [Array.getElem?_eq_getElem (by rw [hs];rw [hfl,hl] at h2;omega)] at this
   have e := Option.some.inj this
   rw [List.getElem_take,Array.getElem_toList]
   exact e
 refine ⟨fun k hk => ?_,rows.flatten,⟨by rw [hfl];rfl,.inr ⟨g,cap,cur,by rw [hl],hb,hh,by omega,hc,hs,ht⟩⟩,by rw [hfl];rfl,fun j p hj => ?_⟩
 ·have : g = k := by simpa [Value.ownBlock] using hk
  subst this;exact hg
 ·have hm := List.mem_of_getElem? hj
  have e := flat_at_ (s := s) rows j p (fun r h => (hr r h).1) hj
  show (rows.flatten.drop (j * s)).take s = p ∧ ((rows.flatten.drop (j * s)).take s).length = s ∧ ∀ u ∈ (rows.flatten.drop (j * s)).take s,u.oneCell' = true
  rw [e]
  exact ⟨rfl,hr p hm⟩
/-- The two copies of a row that takes cells in. -/
theorem insg_cells_ {W : World} {g e i : Nat} {cur : Array Value} {cs vs : List Value} (h : W.heap[g]? = some (.cells cur e (0, 0))) (hi : i ≤ cs.length) (hc : cs.length + vs.length ≤ cur.size) (hx : ∀ j (hj : j < cs.length), j < i → cur[j]? = some cs[j]) :
  ∃ cur' : Array Value,((W.setCells g (i + vs.length) (cs.drop i)).setCells g i vs).heap[g]? = some (.cells cur' e (0,0)) ∧ cur'.size = cur.size ∧ ∀ j (hj : j < (cs.take i ++ vs ++ cs.drop i).length),cur'[j]? = some (cs.take i ++ vs ++ cs.drop i)[j] := by
 obtain ⟨c1,a1,a2,a3,a4⟩ := heap_setCells_ g (cs.drop i) (i + vs.length) W cur e h (by rw [List.length_drop];omega)
 obtain ⟨c2,b1,b2,b3,b4⟩ := heap_setCells_ g vs i _ c1 e a1 (by rw [a2];omega)
 refine ⟨c2,b1,by rw [b2,a2],fun j hj => ?_⟩
 rw [← List.getElem?_eq_getElem hj,List.append_assoc]
 have hti : (cs.take i).length = i := by rw [List.length_take];omega
 by_cases h1 : j < i
 ·rw [b4 j (.inl h1),a4 j (.inl (by omega)),hx j (by omega) h1,List.getElem?_append_left (by omega),List.getElem?_take_of_lt h1,List.getElem?_eq_getElem]
 ·rw [List.getElem?_append_right (by omega),hti]
  obtain ⟨t,rfl⟩ : ∃ t,j = i + t := ⟨j - i,by omega⟩
  rw [show i + t - i = t from by omega]
  by_cases h2 : t < vs.length
  ·rw [b3 t h2,List.getElem?_append_left h2]
  ·obtain ⟨u,rfl⟩ : ∃ u,t = vs.length + u := ⟨t - vs.length,by omega⟩
   rw [b4 _ (.inr (by omega)),show i + (vs.length + u) = i + vs.length + u from by omega,a3 u (by rw [List.length_drop];rw [List.length_append,List.length_append,hti,List.length_drop] at hj;omega),List.getElem?_append_right (by omega),show vs.length + u - vs.length = u from by omega]
theorem insg_cells2_ {W : World} {g e i : Nat} {cur : Array Value} {cs vs : List Value} (h : W.heap[g]? = some (.cells cur e (0, 0))) (hi : i ≤ cs.length) (hc : cs.length + vs.length ≤ cur.size) (hx : ∀ j (hj : j < cs.length), j < i → cur[j]? = some cs[j]) :
  ∃ cur' : Array Value,(((W.setCells g i vs).drew).setCells g (i + vs.length) (cs.drop i)).heap[g]? = some (.cells cur' e (0,0)) ∧ cur'.size = cur.size ∧ ∀ j (hj : j < (cs.take i ++ vs ++ cs.drop i).length),cur'[j]? = some (cs.take i ++ vs ++ cs.drop i)[j] := by
 obtain ⟨c1,a1,a2,a3,a4⟩ := heap_setCells_ g vs i W cur e h (by omega)
 obtain ⟨c2,b1,b2,b3,b4⟩ := heap_setCells_ g (cs.drop i) (i + vs.length) ((W.setCells g i vs).drew) c1 e a1 (by rw [a2,List.length_drop];omega)
 refine ⟨c2,b1,by rw [b2,a2],fun j hj => ?_⟩
 rw [← List.getElem?_eq_getElem hj,List.append_assoc]
 have hti : (cs.take i).length = i := by rw [List.length_take];omega
 by_cases h1 : j < i
 ·rw [b4 j (.inl (by omega)),a4 j (.inl h1),hx j (by omega) h1,List.getElem?_append_left (by omega),List.getElem?_take_of_lt h1,List.getElem?_eq_getElem]
 ·rw [List.getElem?_append_right (by omega),hti]
  obtain ⟨t,rfl⟩ : ∃ t,j = i + t := ⟨j - i,by omega⟩
  rw [show i + t - i = t from by omega]
  by_cases h2 : t < vs.length
  ·rw [b4 _ (.inl (by omega)),a3 t h2,List.getElem?_append_left h2]
  ·obtain ⟨u,rfl⟩ : ∃ u,t = vs.length + u := ⟨t - vs.length,by omega⟩
   rw [show i + (vs.length + u) = i + vs.length + u from by omega,b3 u (by rw [List.length_drop];rw [List.length_append,List.length_append,hti,List.length_drop] at hj;omega),List.getElem?_append_right (by omega),show vs.length + u - vs.length = u from by omega]
theorem run_copy_rows_ {P : Program} (w : World) (dT sT ty elem : TypeId) (size b o dLen dCap : Nat) (a : Addr) (sLen sCap : Nat) (cs : List Value)
  (hu : P.underlying dT = some (.slice elem)) (hs : (P.info? elem).map (·.size) = some size) (hn : cs.length = Nat.min sLen dLen * size)
  (hsrc : ∀ j v,cs[j]? = some v → w.cell? (a.add j) = some v) (hc : ∀ j,j < cs.length → (w.cell? ⟨b,o + j,none⟩).isSome = true) (hf : ∀ j,j < cs.length → w.frozen? ⟨b,o + j,none⟩ = false) (h1 : ∀ v ∈ cs,v.oneCell' = true) :
  (Builtin.copy_ #[dT,sT] ty #[.slice (some ⟨b,o,none⟩) dLen dCap,.slice (some a) sLen sCap]).run P w = .ok (goInt (Nat.min sLen dLen : Nat)) (w.setCells b o cs) := by
 have hl := run_loadCells_list (P := P) w a cs hsrc
 have hst := run_storeCells_cells (P := P) b o cs 0 w (by simpa using hc) (by simpa using hf) h1
 cases hq : P.info? elem with
  | none => simp [hq] at hs
  | some i =>
  have hi : i.size = size := by simpa [hq] using hs
  simp only [Nat.add_zero] at hst
  simp [Builtin.copy_,run_underlying hu,Builtin.lenOf,Builtin.firstCells,sizeOf,typeInfo,hq,hi,← hn,hl,hst]
/-- The row with one element put in, out of its cells. -/
theorem ins_fin_ {α : Type} {d : Kd α} {e : Nat} {w w' : World} {base g' n cap' i : Nat} {okm okx ok' : Nat → Prop} {l0 : List α} {rows0 : List (List Value)} {f : Nat → Nat} {x : α} {cx : List Value} (hl : rows0.length = l0.length) (hi : i ≤ l0.length)
  (hM : ∀ j y c,l0[j]? = some y → rows0[j]? = some c → d.M w base (fun k => okm k ∧ f k = j) y c) (hx : d.M w base okx x cx) (hap : ∀ k,okx k → ¬ okm k)
  (hkm : ∀ k,okm k → k < w.heap.size → w'.heap[k]? = w.heap[k]?) (hkx : ∀ k,okx k → k < w.heap.size → w'.heap[k]? = w.heap[k]?)
  (hgm : ∀ k,okm k → ok' k ∧ k ≠ g') (hgx : ∀ k,okx k → ok' k ∧ k ≠ g') (hg : ok' g')
  (hR : (Kd.raw d.sz).R e w' base (fun _ => True) (.slice (some ⟨g',0,none⟩) n cap') (rows0.take i ++ [cx] ++ rows0.drop i)) : Kd.S d e w' base ok' (.slice (some ⟨g',0,none⟩) n cap') (l0.take i ++ [x] ++ l0.drop i) := by
 classical
 refine S_of_rows_ (fun k => if okx k then i else if f k < i then f k else f k + 1) (by simp [hl]) hg hR (fun j y c hy hc => ?_)
 have t1 : (l0.take i).length = i := by rw [List.length_take];omega
 have t2 : (rows0.take i).length = i := by rw [List.length_take];omega
 rw [List.append_assoc] at hy hc
 by_cases h1 : j < i
 ·rw [List.getElem?_append_left (by omega),List.getElem?_take_of_lt h1] at hy hc
  exact d.M_mono (fun k hk => ⟨hgm k hk.1,by
   show (if okx k then i else if f k < i then f k else f k + 1) = j
   rw [if_neg (fun h => hap k h hk.1),if_pos (by rw [hk.2];exact h1)];exact hk.2⟩) (Kd.M_step (hM j y c hy hc) (fun k hk hlt => hkm k hk.1 hlt))
 ·rw [List.getElem?_append_right (by omega),t1] at hy
  rw [List.getElem?_append_right (by omega),t2] at hc
  by_cases h2 : j = i
  ·subst h2
   rw [Nat.sub_self] at hy hc
   obtain rfl : x = y := by simpa using hy
   obtain rfl : cx = c := by simpa using hc
   exact d.M_mono (fun k hk => ⟨hgx k hk,if_pos hk⟩) (Kd.M_step hx (fun k hk hlt => hkx k hk hlt))
  ·obtain ⟨t,rfl⟩ : ∃ t,j = i + 1 + t := ⟨j - i - 1,by omega⟩
   rw [show i + 1 + t - i = t + 1 from by omega] at hy hc
   have hy2 : l0[i + t]? = some y := by simpa [List.getElem?_drop] using hy
   have hc2 : rows0[i + t]? = some c := by simpa [List.getElem?_drop] using hc
   exact d.M_mono (fun k hk => ⟨hgm k hk.1,by
    show (if okx k then i else if f k < i then f k else f k + 1) = i + 1 + t
    rw [if_neg (fun h => hap k h hk.1),hk.2,if_neg (by omega)];omega⟩) (Kd.M_step (hM (i + t) y c hy2 hc2) (fun k hk hlt => hkm k hk.1 hlt))
/-- The row with one element in another's place. -/
theorem set_fin_ {α : Type} {d : Kd α} {e : Nat} {w w' : World} {base g n cap i : Nat} {okm okx ok' : Nat → Prop} {l0 : List α} {rows0 : List (List Value)} {f : Nat → Nat} {x : α} {cx : List Value} (hl : rows0.length = l0.length) (hi : i < l0.length)
  (hM : ∀ j y c,l0[j]? = some y → rows0[j]? = some c → d.M w base (fun k => okm k ∧ f k = j) y c) (hx : d.M w base okx x cx) (hap : ∀ k,okx k → ¬ okm k)
  (hkm : ∀ k,okm k → k < w.heap.size → w'.heap[k]? = w.heap[k]?) (hkx : ∀ k,okx k → k < w.heap.size → w'.heap[k]? = w.heap[k]?)
  (hgm : ∀ k,okm k → ok' k ∧ k ≠ g) (hgx : ∀ k,okx k → ok' k ∧ k ≠ g) (hg : ok' g)
  (hR : (Kd.raw d.sz).R e w' base (fun _ => True) (.slice (some ⟨g,0,none⟩) n cap) (rows0.set i cx)) : Kd.S d e w' base ok' (.slice (some ⟨g,0,none⟩) n cap) (l0.set i x) := by
 classical
 refine S_of_rows_ (fun k => if okx k then i else f k) (by simp [hl]) hg hR (fun j y c hy hc => ?_)
 by_cases h2 : j = i
 ·subst h2
  rw [List.getElem?_set_self (by omega)] at hy hc
  obtain rfl := Option.some.inj hy
  obtain rfl := Option.some.inj hc
  exact d.M_mono (fun k hk => ⟨hgx k hk,if_pos hk⟩) (Kd.M_step hx (fun k hk hlt => hkx k hk hlt))
 ·rw [List.getElem?_set_ne (fun h => h2 h.symm)] at hy hc
  exact d.M_mono (fun k hk => ⟨hgm k hk.1,by
   show (if okx k then i else f k) = j
   rw [if_neg (fun h => hap k h hk.1)];exact hk.2⟩) (Kd.M_step (hM j y c hy hc) (fun k hk hlt => hkm k hk.1 hlt))
/-! ### slices_Insert_Copy: function 129: one element is put in -/
def repPost (P0_ okx : Nat → Prop) (l0 : List S79) (i : Nat) (x : S79) (w0 w : World) (e : Ending) (w' : World) : Prop := ∃ A' c', e = .returned (.slice A' (l0.length + 1) c') ∧ Kd.S k79 79 w' w0.heap.size (fun k_ => (P0_ k_ ∨ okx k_) ∨ w.heap.size ≤ k_) (.slice A' (l0.length + 1) c') (l0.take i ++ [x] ++ l0.drop i) ∧ Below w0.heap.size w0 w' ∧ Kept w w' P0_
theorem valC_ {w : World} {gv : Nat} {x0 x1 : Value} (hv : w.heap[gv]? = some (.cells #[x0, x1] 79 (0, 0))) (h1 : x0.oneCell' = true ∧ x1.oneCell' = true) : (Kd.raw 2).C w (some ⟨gv, 0, none⟩) 1 [[x0, x1]] :=
 (Kd.R_reads' (rows_of_cells_ (base := 0) (ok := fun _ => True) (s := 2) (cap := 1) (rows := [[x0,x1]]) hv (Nat.zero_le _) trivial (Nat.le_refl 1) (by decide) rfl rfl (fun r hr => by
  rw [List.mem_singleton.1 hr]
  exact ⟨rfl,fun u hu => by
   rcases List.mem_cons.1 hu with e | e
   ·rw [e];exact h1.1
   ·rw [List.mem_singleton.1 e];exact h1.2⟩) (by
  intro j hj
  match j,hj with
    | 0, _ => rfl
    | 1, _ => rfl))).2.2
set_option maxHeartbeats 8000000 in
set_option maxRecDepth 100000 in
theorem rep_end_ (P0_ okx : Nat → Prop) (A0 : Option Addr) (c0 : Nat) (l0 : List S79) (i : Nat) (x : S79) (x0 x1 : Value) (gv : Nat) (w0 w : World) (hB : Below w0.heap.size w0 w) (hP : ¬ P0_ gv) (hv : w.heap[gv]? = some (.cells #[x0, x1] 79 (0, 0))) (hx : k79.M w w0.heap.size okx x [x0, x1]) (h1x : x0.oneCell' = true ∧ x1.oneCell' = true) (hxP : ∀ k, okx k → ¬ P0_ k) (hxb : ∀ k, okx k → k < w.heap.size) (hPb : ∀ k, P0_ k → k < w.heap.size) (ho : Kd.S k79 79 w w0.heap.size P0_ (.slice A0 l0.length c0) l0) (hs : l0.length < 4398046511103) (hi : i = l0.length) :
    Calls Try.prog 129 #[.slice A0 l0.length c0, .int .i64 (i : Int), .slice (some ⟨gv, 0, none⟩) 1 1] w (repPost P0_ okx l0 i x w0 w) := by
 subst hi
 have HX := Aside0.mk (valC_ hv h1x)
 have HM := Aside0.mk hx
 have HB := Aside0.mk hB
 have HO := Aside0.mk ho
 have XP := Aside0.mk hxP
 have XB := Aside0.mk hxb
 have PB := Aside0.mk hPb
 have hw0 := hB.size
 clear hx hB hxP hxb hPb h1x
 cases A0 with
  | none =>
  have hnil : l0.length = 0 ∧ c0 = 0 := by
   rcases (Kd.S_R HO.out).2 with ⟨inner,hown,_⟩
   rcases hown.2 with ⟨he,hn⟩ | ⟨g,cap,cur,he,_⟩
   ·injection he with _ h2 h3;exact ⟨h2,h3⟩
   ·cases he
  obtain ⟨h1,rfl⟩ := hnil
  have h0 : l0 = [] := List.length_eq_zero_iff.1 h1
  subst h0
  have hR : (Kd.raw 2).R 79 w w0.heap.size (fun _ => True) (.slice none 0 0) ([] : List (List Value)) := Kd.R_nil _ _ _ _ _
  clear ho
  go_enter Try.func129,Try.ntmps129
  go_wp2_with ((with_reducible refine gblt_ (b := .append) (xs := #[.tmp 23,.tmp 24]) rfl ?_);at_builtin;refine Kd.R_append_rows (Kd.raw 2) (w0 := w0) w0.heap.size rfl (.tmp 23) (.tmp 24) 29 79 (.agg #[.int .i64 0,.slice none 0 0]) 32 rfl Try.underlying29 info79 rfl (by decide) (by omega) (.slice none 0 0) [] [[x0,x1]] _ _ _ (fun _ => True) (fun _ => False) rfl rfl hR HX.out (fun _ _ h => h) (fun _ h => h.elim) (fun _ _ => trivial) HB.out hw0 (by simp) ?_;intro v1 w1 ho hb hg hat)
  obtain ⟨g',c',rfl,hgb,hgl,_⟩ := Kd.R_form ho (by simp)
  have hge : w.heap.size ≤ g' := by
   rcases hat with h | ⟨b_,h,h2⟩
   ·simp [Value.ownBlock] at h
   ·have : g' = b_ := by simpa [Value.ownBlock] using h
    omega
  go_ret
  have hk : ∀ k,k < w.heap.size → w1.heap[k]? = w.heap[k]? := fun k hk => hg.block k hk (by simp [Value.ownBlock])
  exact ⟨some ⟨g',0,none⟩,c',rfl,ins_fin_ (d := k79) (w := w) (l0 := []) (rows0 := []) (i := 0) (f := fun _ => 0) (okm := fun _ => False) (okx := okx) (cx := [x0,x1]) rfl (Nat.le_refl _) (fun j y c h _ => by simp at h) HM.out (fun _ _ h => h) (fun k h _ => h.elim) (fun k _ h => hk k h) (fun _ h => h.elim) (fun k h => ⟨.inl (.inr h),fun e_ => absurd (XB.out k h) (by omega)⟩) (.inr hge) ho,hb,⟨hg.size,fun k h _ => hk k h⟩⟩
  | some ad =>
  obtain ⟨b,rfl⟩ := row_head_ (Kd.S_R ho)
  obtain ⟨f,rows0,hl,hbok,hraw,hM⟩ := S_rows_ ho
  have hb0 : ∀ k,k ≠ b → (Value.slice (some ⟨b,0,none⟩) l0.length c0).ownBlock ≠ some k := fun k hk he => by
   have e_ : b = k := by simpa [Value.ownBlock] using he
   exact hk e_.symm
  have HMM := Aside0.mk hM
  have hR : (Kd.raw 2).R 79 w w0.heap.size (fun _ => True) (.slice (some ⟨b,0,none⟩) l0.length c0) rows0 := hraw
  have hlr := Aside0.mk hl
  clear ho hraw hM hl
  go_enter Try.func129,Try.ntmps129
  go_wp2_with ((with_reducible refine gblt_ (b := .append) (xs := #[.tmp 23,.tmp 24]) rfl ?_);at_builtin;refine Kd.R_append_rows (Kd.raw 2) (w0 := w0) w0.heap.size rfl (.tmp 23) (.tmp 24) 29 79 (.agg #[.int .i64 0,.slice none 0 0]) 32 rfl Try.underlying29 info79 rfl (by decide) (by omega) (.slice (some ⟨b,0,none⟩) l0.length c0) rows0 [[x0,x1]] _ _ _ (fun _ => True) (fun _ => False) rfl rfl hR HX.out (fun _ _ h => h) (fun _ h => h.elim) (fun _ _ => trivial) HB.out hw0 (by have := hlr.out;omega) ?_;intro v1 w1 ho hb hg hat)
  all_goals (
   obtain ⟨g',c',rfl,hgb,hgl,_⟩ := Kd.R_form ho (by simp)
   have hge : g' = b ∨ w.heap.size ≤ g' := by
    rcases hat with h | ⟨b_,h,h2⟩
    ·exact .inl (by simpa [Value.ownBlock] using h)
    ·have : g' = b_ := by simpa [Value.ownBlock] using h
     exact .inr (by omega)
   have e1 : (rows0 ++ [[x0,x1]]).length = l0.length + 1 := by rw [List.length_append,hlr.out];rfl
   rw [e1] at ho
   simp only [e1] at *
   go_ret
   have hk : ∀ k,k ≠ b → k < w.heap.size → w1.heap[k]? = w.heap[k]? := fun k hk1 hk2 => hg.block k hk2 (fun he => hb0 k hk1 he.symm)
   have hbx : ∀ k,okx k → k ≠ b := fun k h e_ => XP.out k h (e_ ▸ hbok)
   exact ⟨some ⟨g',0,none⟩,c',by first|rfl|simp,ins_fin_ (d := k79) (w := w) (f := f) (okm := fun k => P0_ k ∧ k ≠ b) (okx := okx) (cx := [x0,x1]) (rows0 := rows0) hlr.out (Nat.le_refl _) HMM.out HM.out (fun k h h2 => XP.out k h h2.1) (fun k h h2 => hk k h.2 h2) (fun k h h2 => hk k (hbx k h) h2) (fun k h => ⟨.inl (.inl h.1),fun e_ => hge.elim (fun e2 => h.2 (e_.trans e2)) (fun e2 => absurd (PB.out k h.1) (by omega))⟩) (fun k h => ⟨.inl (.inr h),fun e_ => hge.elim (fun e2 => hbx k h (e_.trans e2)) (fun e2 => absurd (XB.out k h) (by omega))⟩) (hge.elim (fun e2 => .inl (.inl (e2 ▸ hbok))) .inr) (by rw [List.take_of_length_le (Nat.le_of_eq hlr.out),List.drop_of_length_le (Nat.le_of_eq hlr.out),List.append_nil];exact ho),hb,⟨hg.size,fun k h h2 => hk k (fun e_ => h2 (e_ ▸ hbok)) h⟩⟩)
set_option maxHeartbeats 8000000 in
set_option maxRecDepth 100000 in
theorem rep_shift_ (P0_ okx : Nat → Prop) (b : Nat) (c0 : Nat) (l0 : List S79) (i : Nat) (x : S79) (x0 x1 : Value) (gv : Nat) (w0 w : World) (hB : Below w0.heap.size w0 w) (hP : ¬ P0_ gv) (hv : w.heap[gv]? = some (.cells #[x0, x1] 79 (0, 0))) (hx : k79.M w w0.heap.size okx x [x0, x1]) (h1x : x0.oneCell' = true ∧ x1.oneCell' = true) (hxP : ∀ k, okx k → ¬ P0_ k) (hxb : ∀ k, okx k → k < w.heap.size) (hPb : ∀ k, P0_ k → k < w.heap.size) (ho : Kd.S k79 79 w w0.heap.size P0_ (.slice (some ⟨b, 0, none⟩) l0.length c0) l0) (hs : l0.length < 4398046511103) (hi : i < l0.length) (hroom : l0.length + 1 ≤ c0) :
    Calls Try.prog 129 #[.slice (some ⟨b, 0, none⟩) l0.length c0, .int .i64 (i : Int), .slice (some ⟨gv, 0, none⟩) 1 1] w (repPost P0_ okx l0 i x w0 w) := by
 obtain ⟨f,rows0,hl,hbok,hraw,hM⟩ := S_rows_ ho
 have hgb : gv ≠ b := fun e_ => hP (e_ ▸ hbok)
 obtain ⟨cur,k1,k2,k3,k4,k5,k6,k7,k8⟩ := cells_of_rows_ (s := 2) hraw
 have hov : ∀ lb cb,(callFunc 145 #[.slice (some ⟨gv,0,none⟩) 1 1,.slice (some ⟨b,(i + 1) * 2,none⟩) lb cb]).run Try.prog w = .ok (.value (.bool false)) w := fun lb cb => by
  rw [run_callFunc_extern Try.func145 (by kernel_rfl) (by kernel_rfl) (by kernel_rfl) (e := Extern.SlicesOverlaps.overlaps #[29,29] #[4]) (by kernel_rfl),
   Lib.run_overlaps_apart w 29 4 79 Try.underlying29 2 (fun w => by rfl) ⟨gv,0,none⟩ ⟨b,(i + 1) * 2,none⟩ 1 1 lb cb hgb 79 79 2 cur.size (by simp [World.shape?,hv]) (by simp [World.shape?,k1]) (by omega) (blk_frozen hv 0) (blk_frozen hv 2)]
  rfl
 obtain ⟨cs,hcs0⟩ : ∃ cs,cs = rows0.flatten := ⟨_,rfl⟩
 rw [← hcs0] at k8
 have hcl : cs.length = l0.length * 2 := by rw [hcs0,flat_len_ rows0 (fun r h => (k7 r h).1),hl]
 have h1c : ∀ v ∈ cs,v.oneCell' = true := fun v hv => by
  rw [hcs0] at hv
  obtain ⟨r,hr,h2⟩ := List.mem_flatten.1 hv
  exact (k7 r hr).2 v h2
 have hcs : ∀ j v,cs[j]? = some v → w.cell? ⟨b,j,none⟩ = some v := fun j v hj => by
  rw [blk_cell k1]
  obtain ⟨h2,h3⟩ := List.getElem?_eq_some_iff.1 hj
  rw [k8 j h2,← h3]
 have hsp : ∀ j,j < (l0.length + 1) * 2 → (w.cell? ⟨b,j,none⟩).isSome = true := fun j hj => by rw [blk_cell k1,Array.getElem?_eq_getElem (by omega)];rfl
 have hsz : (Try.prog.info? 79).map (·.size) = some 2 := by kernel_rfl
 have hdl : (cs.drop (i * 2)).length = (l0.length - i) * 2 := by rw [List.length_drop,hcl];omega
 have hm1 : Nat.min (l0.length + 1 - i) (l0.length - i) = l0.length - i := by simp only [Nat.min_def];split <;> omega
 have hm2 : Nat.min 1 (l0.length + 1 - i) = 1 := by simp only [Nat.min_def];split <;> omega
 have hcp1 : ∀ ty dc sc,(Builtin.copy_ #[29,29] ty #[.slice (some ⟨b,(i + 1) * 2,none⟩) (l0.length - i) dc,.slice (some ⟨b,i * 2,none⟩) (l0.length + 1 - i) sc]).run Try.prog w.drew = .ok (goInt (l0.length - i : Nat)) (w.drew.setCells b ((i + 1) * 2) (cs.drop (i * 2))) := fun ty dc sc => by
  have h := run_copy_rows_ (P := Try.prog) w.drew 29 29 ty 79 2 b ((i + 1) * 2) (l0.length - i) dc ⟨b,i * 2,none⟩ (l0.length + 1 - i) sc (cs.drop (i * 2)) Try.underlying29 hsz (by rw [hm1,hdl])
   (fun j v hj => by rw [addr_off_];exact hcs (i * 2 + j) v (by rwa [List.getElem?_drop] at hj))
   (fun j hj => hsp _ (by omega)) (fun j hj => blk_frozen k1 _) (fun v hv => h1c v (List.mem_of_mem_drop hv))
  rwa [hm1] at h
 obtain ⟨W1,hW1⟩ : ∃ W1,W1 = w.drew.setCells b ((i + 1) * 2) (cs.drop (i * 2)) := ⟨_,rfl⟩
 have hK1 : KeepBut w W1 b none := by rw [hW1];exact keep_setCells_ b _ _ _ (KeepBut.of_below (below_drew1 (Below.refl _ _)) b none)
 obtain ⟨c1,m1,m2,_,_⟩ := heap_setCells_ b (cs.drop (i * 2)) ((i + 1) * 2) w.drew cur 79 k1 (by rw [hdl];omega)
 rw [← hW1] at m1
 have hv1 : W1.heap[gv]? = some (.cells #[x0,x1] 79 (0,0)) := (hK1.2 gv (blk_lt hv) hgb (by simp)).trans hv
 have hcp2 : ∀ (W : World),(∀ x,W.cell? x = W1.cell? x) → (∀ x,W.frozen? x = W1.frozen? x) → ∀ ty dc,(Builtin.copy_ #[29,29] ty #[.slice (some ⟨b,i * 2,none⟩) (l0.length + 1 - i) dc,.slice (some ⟨gv,0,none⟩) 1 1]).run Try.prog W = .ok (goInt 1) (W.setCells b (i * 2) [x0,x1]) := fun W hWc hWf ty dc => by
  have h := run_copy_rows_ (P := Try.prog) W 29 29 ty 79 2 b (i * 2) (l0.length + 1 - i) dc ⟨gv,0,none⟩ 1 1 [x0,x1] Try.underlying29 hsz (by rw [hm2];rfl)
   (fun j v hj => by
    rw [addr_at_,hWc,blk_cell hv1]
    match j,hj with
    | 0,hj => simpa using hj
    | 1,hj => simpa using hj
    | j + 2,hj => simp at hj)
   (fun j hj => by rw [hWc,blk_cell m1,Array.getElem?_eq_getElem (by rw [m2];simp at hj;omega)];rfl) (fun j hj => by rw [hWf];exact blk_frozen m1 _) (fun v hv => by
    rcases List.mem_cons.1 hv with e | e
    ·rw [e];exact h1x.1
    ·rw [List.mem_singleton.1 e];exact h1x.2)
  rw [hm2] at h
  exact h
 rw [← hW1] at hcp1
 have hz2 : ¬ ((i : Int) = (l0.length : Int)) := by omega
 have hw1 : IntKind.i64.wrap ((i : Int) + 1) = (i : Int) + 1 := by rw [IntKind.wrap_i64];omega
 have hb1 : (0 : Int) ≤ (i : Int) + 1 := by omega
 have hin : i ≤ l0.length := by omega
 have htn : ((i : Int) + 1).toNat = i + 1 := by omega
 have hb2 : ¬ (c0 = i + 1) := by omega
 have hb3 : (i : Int) ≤ (l0.length : Int) + 1 := by omega
 have hb4 : ¬ (c0 = i) := by omega
 have hc63 : c0 ≤ 9223372036854775807 := by unfold maxLen at k4;omega
 have mixed : Try.prog.follows .mixedOrders = true := by kernel_rfl
 have HB := Aside0.mk hB
 have HV := Aside0.mk k8
 have HZ := Aside0.mk k5
 have K1 := Aside0.mk k1
 have K7 := Aside0.mk k7
 have GB := Aside0.mk k2
 have HMX := Aside0.mk k4
 have HMM := Aside0.mk hM
 have HM := Aside0.mk hx
 have XP := Aside0.mk hxP
 have hlr := Aside0.mk hl
 have HCS := Aside0.mk hcs0
 clear hB hP hv ho k1 k2 k3 k4 k5 k6 k7 k8 hcs hsp h1c m1 m2 hv1 hK1 hM hx hxP hl hraw hcs0
 go_enter Try.func129,Try.ntmps129
 go_wp2_with (simp only [hov])
 go_region_law_o (refine step_copy_runI rfl _ _ 29 29 rfl _ _ (by simp [Act.eval,Act.put]) (by simp [Act.eval,Act.put]) (hcp1 _ _ _) ?_)
 go_wp2_with (at_builtin;refine wpList_copy_runI _ rfl _ _ 29 29 rfl _ _ rfl rfl (hcp2 _ (fun _ => rfl) (fun _ => rfl) _ _) ?_)
 go_ret
 have e2 : (i + 1) * 2 = i * 2 + [x0,x1].length := by simp only [List.length_cons,List.length_nil];omega
 obtain ⟨cur',f1,f2,f3⟩ := insg_cells_ (W := w.drew) (g := b) (e := 79) (i := i * 2) (cur := cur) (cs := cs) (vs := [x0,x1]) K1.out (by rw [hcl];omega) (by rw [hcl,HZ.out];simp;omega) (fun j hj _ => HV.out j hj)
 have hrl : (rows0.take i ++ [[x0,x1]] ++ rows0.drop i).length = l0.length + 1 := by have := hlr.out;simp;omega
 have hk : ∀ k,k ≠ b → k < w.heap.size → (((w.drew.setCells b ((i + 1) * 2) (cs.drop (i * 2))).drew).setCells b (i * 2) [x0,x1]).heap[k]? = w.heap[k]? := fun k h1 h2 => (keep_setCells_ b [x0,x1] (i * 2) _ (keep_setCells_ b (cs.drop (i * 2)) ((i + 1) * 2) w.drew (KeepBut.of_below (below_drew1 (Below.refl _ w)) b none))).2 k h2 h1 (by simp)
 refine ⟨some ⟨b,0,none⟩,c0,rfl,ins_fin_ (d := k79) (w := w) (f := f) (okm := fun k => P0_ k ∧ k ≠ b) (okx := okx) (cx := [x0,x1]) (rows0 := rows0) hlr.out (Nat.le_of_lt hi) HMM.out HM.out (fun k h h2 => XP.out k h h2.1) (fun k h h2 => hk k h.2 h2) (fun k h h2 => hk k (fun e_ => XP.out k h (e_ ▸ hbok)) h2) (fun k h => ⟨.inl (.inl h.1),h.2⟩) (fun k h => ⟨.inl (.inr h),fun e_ => XP.out k h (e_ ▸ hbok)⟩) (.inl (.inl hbok)) ?_,?_,?_⟩
 ·refine rows_of_cells_ (s := 2) (cur := cur') ?_ GB.out trivial hroom HMX.out (by rw [f2,HZ.out]) hrl (fun r hr => ?_) (fun j hj => ?_)
  ·rw [e2];exact f1
  ·rcases List.mem_append.1 hr with h | h
   ·rcases List.mem_append.1 h with h | h
    ·exact K7.out r (List.mem_of_mem_take h)
    ·rw [List.mem_singleton.1 h]
     exact ⟨rfl,fun u hu => by
      rcases List.mem_cons.1 hu with e | e
      ·rw [e];exact h1x.1
      ·rw [List.mem_singleton.1 e];exact h1x.2⟩
   ·exact K7.out r (List.mem_of_mem_drop h)
  ·have e3 : (rows0.take i ++ [[x0,x1]] ++ rows0.drop i).flatten = cs.take (i * 2) ++ [x0,x1] ++ cs.drop (i * 2) := by
    rw [HCS.out,List.flatten_append,List.flatten_append,flat_take_ rows0 i (fun r h => (K7.out r h).1),flat_drop_ rows0 i (fun r h => (K7.out r h).1)]
    simp
   have hj2 : j < (cs.take (i * 2) ++ [x0,x1] ++ cs.drop (i * 2)).length := by rw [← e3];exact hj
   rw [f3 j hj2]
   simp only [e3]
 ·exact below_setCells_ b _ _ _ (below_setCells_ b _ _ _ (below_drew1 HB.out) GB.out) GB.out
 ·exact ⟨(keep_setCells_ b [x0,x1] (i * 2) _ (keep_setCells_ b (cs.drop (i * 2)) ((i + 1) * 2) w.drew (KeepBut.of_below (below_drew1 (Below.refl _ w)) b none))).1,fun k h1 h2 => hk k (fun e_ => h2 (e_ ▸ hbok)) h1⟩
set_option maxHeartbeats 8000000 in
set_option maxRecDepth 100000 in
theorem rep_grow_ (P0_ okx : Nat → Prop) (b : Nat) (c0 : Nat) (l0 : List S79) (i : Nat) (x : S79) (x0 x1 : Value) (gv : Nat) (w0 w : World) (hB : Below w0.heap.size w0 w) (hP : ¬ P0_ gv) (hv : w.heap[gv]? = some (.cells #[x0, x1] 79 (0, 0))) (hx : k79.M w w0.heap.size okx x [x0, x1]) (h1x : x0.oneCell' = true ∧ x1.oneCell' = true) (hxP : ∀ k, okx k → ¬ P0_ k) (hxb : ∀ k, okx k → k < w.heap.size) (hPb : ∀ k, P0_ k → k < w.heap.size) (ho : Kd.S k79 79 w w0.heap.size P0_ (.slice (some ⟨b, 0, none⟩) l0.length c0) l0) (hs : l0.length < 4398046511103) (hi : i < l0.length) (hroom : c0 < l0.length + 1) :
    Calls Try.prog 129 #[.slice (some ⟨b, 0, none⟩) l0.length c0, .int .i64 (i : Int), .slice (some ⟨gv, 0, none⟩) 1 1] w (repPost P0_ okx l0 i x w0 w) := by
 obtain ⟨f,rows0,hl,hbok,hraw,hM⟩ := S_rows_ ho
 obtain ⟨cur,k1,k2,k3,k4,k5,k6,k7,k8⟩ := cells_of_rows_ (s := 2) hraw
 obtain ⟨i0,hi0,hz0,hzs,hzb⟩ := info_parts info79
 obtain ⟨cs,hcs0⟩ : ∃ cs,cs = rows0.flatten := ⟨_,rfl⟩
 rw [← hcs0] at k8
 have hcl : cs.length = l0.length * 2 := by rw [hcs0,flat_len_ rows0 (fun r h => (k7 r h).1),hl]
 have h1c : ∀ v ∈ cs,v.oneCell' = true := fun v hv => by
  rw [hcs0] at hv
  obtain ⟨r,hr,h2⟩ := List.mem_flatten.1 hv
  exact (k7 r hr).2 v h2
 have hcs : ∀ j v,cs[j]? = some v → w.cell? ⟨b,j,none⟩ = some v := fun j v hj => by
  rw [blk_cell k1]
  obtain ⟨h2,h3⟩ := List.getElem?_eq_some_iff.1 hj
  rw [k8 j h2,← h3]
 have hsz : (Try.prog.info? 79).map (·.size) = some 2 := by kernel_rfl
 have hbw : b < w.heap.size := blk_lt k1
 have hvw : gv < w.heap.size := blk_lt hv
 have hkk : (l0.length : Int) + 1 - (i : Int) = ((l0.length + 1 - i : Nat) : Int) := by omega
 have hik : i + (l0.length + 1 - i) = l0.length + 1 := by omega
 have hold : (Builtin.firstCells i0.size i (.slice (some ⟨b,0,none⟩) i c0)).run Try.prog w.drew = .ok (cs.take (i * 2)).toArray w.drew := by
  rw [hzs]
  exact run_firstCells_some w.drew 2 i ⟨b,0,none⟩ i c0 (cs.take (i * 2)) (by rw [List.length_take];omega) (fun j v hj => by
   rw [addr_at_]
   rw [List.getElem?_take] at hj
   split at hj
   ·exact hcs j v hj
   ·cases hj)
 obtain ⟨G,hG⟩ : ∃ G,G = grownCap w (l0.length + 1) c0 79 := ⟨_,rfl⟩
 obtain ⟨ROW,hROW⟩ : ∃ ROW : Array Value,ROW = (cs.take (i * 2)).toArray ++ Builtin.zeroCells (Value.agg #[.int .i64 0,.slice none 0 0]).cells (l0.length + 1 - i) ++ Builtin.zeroCells (Value.agg #[.int .i64 0,.slice none 0 0]).cells (G - (l0.length + 1)) := ⟨_,rfl⟩
 have hrz : ∀ ty,(Builtin.append_ #[29,3] ty #[.slice (some ⟨b,0,none⟩) i c0,.int .i64 ((l0.length : Int) + 1 - (i : Int))]).run Try.prog w = .ok (.slice (some ⟨w.heap.size,0,none⟩) (l0.length + 1) G) (w.drew.alloc (.cells ROW 79)) := fun ty => by
  have h := Lib.run_append_grow_zeros w 29 3 ty 79 i0 _ .i64 .i64 Try.underlying29 Try.underlying3 hi0 hz0 (some ⟨b,0,none⟩) i c0 (cs.take (i * 2)) hold (l0.length + 1 - i) (by omega) (by omega) (by omega) (by omega) (by rw [hzb];omega) (by rw [hzb,hik];exact growslice_fits hroom (by omega))
  rw [hik] at h
  rw [hkk,hROW,hG]
  exact h
 have hGn : l0.length + 1 ≤ G := by rw [hG];exact grownCap_ge w _ _ _
 have hGm : G ≤ maxLen := by rw [hG];exact grownCap_le_maxLen w (l0.length + 1) c0 79 (by unfold maxLen;omega)
 have hRs : ROW.size = G * 2 := by
  rw [hROW]
  simp [Builtin.zeroCells,Value.cells]
  omega
 have hRx : ∀ j (hj : j < cs.length),j < i * 2 → ROW[j]? = some cs[j] := fun j hj hji => by
  rw [hROW,Array.getElem?_append_left (by simp [Builtin.zeroCells];omega),Array.getElem?_append_left (by simp;omega)]
  rw [List.getElem?_toArray,List.getElem?_take_of_lt hji,List.getElem?_eq_getElem hj]
 obtain ⟨W1,hW1⟩ : ∃ W1,W1 = w.drew.alloc (.cells ROW 79) := ⟨_,rfl⟩
 have hN : W1.heap[w.heap.size]? = some (.cells ROW 79 (0,0)) := by rw [hW1];exact blk_new w.drew _
 have hO : ∀ k,k < w.heap.size → W1.heap[k]? = w.heap[k]? := fun k hk => by rw [hW1];exact (below_alloc (below_drew1 (Below.refl _ w)) _).block k hk
 have hb1 : W1.heap[b]? = some (.cells cur 79 (0,0)) := (hO b hbw).trans k1
 have hv1 : W1.heap[gv]? = some (.cells #[x0,x1] 79 (0,0)) := (hO gv hvw).trans hv
 have hm2 : Nat.min 1 (l0.length + 1 - i) = 1 := by simp only [Nat.min_def];split <;> omega
 have hcpA : ∀ (W : World),(∀ x,W.cell? x = W1.cell? x) → (∀ x,W.frozen? x = W1.frozen? x) → ∀ ty dc,(Builtin.copy_ #[29,29] ty #[.slice (some ⟨w.heap.size,i * 2,none⟩) (l0.length + 1 - i) dc,.slice (some ⟨gv,0,none⟩) 1 1]).run Try.prog W = .ok (goInt 1) (W.setCells w.heap.size (i * 2) [x0,x1]) := fun W hWc hWf ty dc => by
  have h := run_copy_rows_ (P := Try.prog) W 29 29 ty 79 2 w.heap.size (i * 2) (l0.length + 1 - i) dc ⟨gv,0,none⟩ 1 1 [x0,x1] Try.underlying29 hsz (by rw [hm2];rfl)
   (fun j v hj => by
    rw [addr_at_,hWc,blk_cell hv1]
    match j,hj with
    | 0,hj => simpa using hj
    | 1,hj => simpa using hj
    | j + 2,hj => simp at hj)
   (fun j hj => by rw [hWc,blk_cell hN,Array.getElem?_eq_getElem (by rw [hRs];simp at hj;omega)];rfl) (fun j hj => by rw [hWf];exact blk_frozen hN _) (fun v hv => by
    rcases List.mem_cons.1 hv with e | e
    ·rw [e];exact h1x.1
    ·rw [List.mem_singleton.1 e];exact h1x.2)
  rw [hm2] at h
  exact h
 have hbN : b ≠ w.heap.size := by omega
 have hdl : (cs.drop (i * 2)).length = (l0.length - i) * 2 := by rw [List.length_drop,hcl];omega
 have hm3 : Nat.min (l0.length - i) (l0.length - i) = l0.length - i := by simp only [Nat.min_def];split <;> omega
 obtain ⟨c1,m1,m2,_,_⟩ := heap_setCells_ w.heap.size [x0,x1] (i * 2) W1 ROW 79 hN (by rw [hRs];simp;omega)
 have hK1 : KeepBut W1 (W1.setCells w.heap.size (i * 2) [x0,x1]) w.heap.size none := keep_setCells_ _ _ _ _ (KeepBut.refl _ _ _)
 have hb2 : (W1.setCells w.heap.size (i * 2) [x0,x1]).heap[b]? = some (.cells cur 79 (0,0)) := (hK1.2 b (blk_lt hb1) hbN (by simp)).trans hb1
 have hcpB : ∀ (W : World),(∀ y,W.cell? y = (W1.setCells w.heap.size (i * 2) [x0,x1]).cell? y) → (∀ y,W.frozen? y = (W1.setCells w.heap.size (i * 2) [x0,x1]).frozen? y) → ∀ ty dc sc,(Builtin.copy_ #[29,29] ty #[.slice (some ⟨w.heap.size,(i + 1) * 2,none⟩) (l0.length - i) dc,.slice (some ⟨b,i * 2,none⟩) (l0.length - i) sc]).run Try.prog W = .ok (goInt (l0.length - i : Nat)) (W.setCells w.heap.size ((i + 1) * 2) (cs.drop (i * 2))) := fun W hWc hWf ty dc sc => by
  have h := run_copy_rows_ (P := Try.prog) W 29 29 ty 79 2 w.heap.size ((i + 1) * 2) (l0.length - i) dc ⟨b,i * 2,none⟩ (l0.length - i) sc (cs.drop (i * 2)) Try.underlying29 hsz (by rw [hm3,hdl])
   (fun j v hj => by
    rw [addr_off_,hWc,blk_cell hb2,← blk_cell k1]
    exact hcs (i * 2 + j) v (by rwa [List.getElem?_drop] at hj))
   (fun j hj => by rw [hWc,blk_cell m1,Array.getElem?_eq_getElem (by rw [m2,hRs];omega)];rfl) (fun j hj => by rw [hWf];exact blk_frozen m1 _) (fun v hv => h1c v (List.mem_of_mem_drop hv))
  rwa [hm3] at h
 subst hW1
 have hE1 : ∀ y,((w.alloc (.cells ROW 79)).drew).cell? y = (w.drew.alloc (.cells ROW 79)).cell? y := fun y => rfl
 have hE2 : ∀ y,((w.alloc (.cells ROW 79)).drew).frozen? y = (w.drew.alloc (.cells ROW 79)).frozen? y := fun y => rfl
 have hF1 : ∀ y,(((w.alloc (.cells ROW 79)).drew.setCells w.heap.size (i * 2) [x0,x1]).drew).cell? y = ((w.drew.alloc (.cells ROW 79)).setCells w.heap.size (i * 2) [x0,x1]).cell? y := fun y => rfl
 have hF2 : ∀ y,(((w.alloc (.cells ROW 79)).drew.setCells w.heap.size (i * 2) [x0,x1]).drew).frozen? y = ((w.drew.alloc (.cells ROW 79)).setCells w.heap.size (i * 2) [x0,x1]).frozen? y := fun y => rfl
 have hz2 : ¬ ((i : Int) = (l0.length : Int)) := by omega
 have hz3 : (c0 : Int) < (l0.length : Int) + 1 := by omega
 have hw1 : IntKind.i64.wrap ((i : Int) + 1) = (i : Int) + 1 := by rw [IntKind.wrap_i64];omega
 have hbb1 : (0 : Int) ≤ (i : Int) + 1 := by omega
 have hin : i ≤ l0.length := by omega
 have htn : ((i : Int) + 1).toNat = i + 1 := by omega
 have hb3 : (i : Int) ≤ (l0.length : Int) := by omega
 have hG63 : G ≤ 9223372036854775807 := by unfold maxLen at hGm;omega
 have hGi : ¬ (G = i) := by omega
 have hGim : ¬ (G = i + 1) := by omega
 have hci : ¬ (c0 = i) := by omega
 have hnc : l0.length ≤ c0 := k3
 have hic : (i : Int) ≤ (c0 : Int) := by omega
 have mixed : Try.prog.follows .mixedOrders = true := by kernel_rfl
 have HB := Aside0.mk hB
 have HNN := Aside0.mk hN
 have HRS := Aside0.mk hRs
 have HRX := Aside0.mk hRx
 have HGM := Aside0.mk hGm
 have HGN := Aside0.mk hGn
 have HCS := Aside0.mk hcs0
 have K7 := Aside0.mk k7
 have HMM := Aside0.mk hM
 have HM := Aside0.mk hx
 have XP := Aside0.mk hxP
 have XB := Aside0.mk hxb
 have PB := Aside0.mk hPb
 have hlr := Aside0.mk hl
 clear hB hP hv ho k1 k2 k3 k4 k5 k6 k7 k8 hcs h1c hkk hik hold hN hO hb1 hv1 hK1 hb2 m1 m2 hROW hG hRs hRx hbw hvw hM hx hxP hxb hPb hl hraw hcs0
 go_enter Try.func129,Try.ntmps129
 go_wp2_with (first
    | (at_builtin; refine Lib.wpList_append_run _ rfl _ _ _ _ rfl _ _ rfl rfl _ _ (hrz _) ?_)
    | (at_builtin; refine wpList_copy_runI _ rfl _ _ 29 29 rfl _ _ rfl rfl (hcpA _ hE1 hE2 _ _) ?_)
    | (at_builtin; refine wpList_copy_runI _ rfl _ _ 29 29 rfl _ _ rfl rfl (hcpB _ (fun _ => rfl) (fun _ => rfl) _ _ _) ?_))
 go_region_law_o (refine step_copy_runI rfl _ _ 29 29 rfl (.slice (some ⟨w.heap.size,(i + 1) * 2,none⟩) (l0.length - i) (G - (i + 1))) (.slice (some ⟨b,i * 2,none⟩) (l0.length - i) (c0 - i)) (by simp [Act.eval,Act.put]) (by simp [Act.eval,Act.put]) (hcpB _ hF1 hF2 3 (G - (i + 1)) (c0 - i)) ?_)
 go_wp2
 go_ret
 have e2 : (i + 1) * 2 = i * 2 + [x0,x1].length := by simp only [List.length_cons,List.length_nil];omega
 obtain ⟨cur',f1,f2,f3⟩ := insg_cells2_ (W := (w.alloc (.cells ROW 79)).drew) (g := w.heap.size) (e := 79) (i := i * 2) (cur := ROW) (cs := cs) (vs := [x0,x1]) HNN.out (by rw [hcl];omega) (by rw [hcl,HRS.out];simp;have := HGN.out;omega) HRX.out
 have hrl : (rows0.take i ++ [[x0,x1]] ++ rows0.drop i).length = l0.length + 1 := by have := hlr.out;simp;omega
 have hbase : w0.heap.size ≤ w.heap.size := HB.out.size
 have hkb : Below w.heap.size w ((((w.alloc (.cells ROW 79)).drew.setCells w.heap.size (i * 2) [x0,x1]).drew).setCells w.heap.size ((i + 1) * 2) (cs.drop (i * 2))) := below_setCells_ w.heap.size _ _ _ (below_drew1 (below_setCells_ w.heap.size _ _ _ (below_drew1 (below_alloc (Below.refl _ _) _)) (Nat.le_refl _))) (Nat.le_refl _)
 refine ⟨some ⟨w.heap.size,0,none⟩,G,rfl,ins_fin_ (d := k79) (w := w) (f := f) (okm := fun k => P0_ k ∧ k ≠ b) (okx := okx) (cx := [x0,x1]) (rows0 := rows0) hlr.out (Nat.le_of_lt hi) HMM.out HM.out (fun k h h2 => XP.out k h h2.1) (fun k _ h2 => hkb.block k h2) (fun k _ h2 => hkb.block k h2) (fun k h => ⟨.inl (.inl h.1),fun e_ => absurd (PB.out k h.1) (by omega)⟩) (fun k h => ⟨.inl (.inr h),fun e_ => absurd (XB.out k h) (by omega)⟩) (.inr (Nat.le_refl _)) ?_,?_,?_⟩
 ·refine rows_of_cells_ (s := 2) (cur := cur') ?_ hbase trivial HGN.out HGM.out (by rw [f2,HRS.out]) hrl (fun r hr => ?_) (fun j hj => ?_)
  ·rw [e2];exact f1
  ·rcases List.mem_append.1 hr with h | h
   ·rcases List.mem_append.1 h with h | h
    ·exact K7.out r (List.mem_of_mem_take h)
    ·rw [List.mem_singleton.1 h]
     exact ⟨rfl,fun u hu => by
      rcases List.mem_cons.1 hu with e | e
      ·rw [e];exact h1x.1
      ·rw [List.mem_singleton.1 e];exact h1x.2⟩
   ·exact K7.out r (List.mem_of_mem_drop h)
  ·have e3 : (rows0.take i ++ [[x0,x1]] ++ rows0.drop i).flatten = cs.take (i * 2) ++ [x0,x1] ++ cs.drop (i * 2) := by
    rw [HCS.out,List.flatten_append,List.flatten_append,flat_take_ rows0 i (fun r h => (K7.out r h).1),flat_drop_ rows0 i (fun r h => (K7.out r h).1)]
    simp
   have hj2 : j < (cs.take (i * 2) ++ [x0,x1] ++ cs.drop (i * 2)).length := by rw [← e3];exact hj
   rw [f3 j hj2]
   simp only [e3]
 ·exact below_setCells_ w.heap.size _ _ _ (below_drew1 (below_setCells_ w.heap.size _ _ _ (below_drew1 (below_alloc HB.out _)) hbase)) hbase
 ·exact ⟨hkb.size,fun k hk1 _ => hkb.block k hk1⟩
/-! ### slices_Insert_Copy: all roads -/
theorem slices_Insert_Copy.calls (P0_ okx : Nat → Prop) (A0 : Option Addr) (c0 : Nat) (l0 : List S79) (i : Nat) (x : S79) (x0 x1 : Value) (gv : Nat) (w0 w : World) (hB : Below w0.heap.size w0 w) (hP : ¬ P0_ gv) (hv : w.heap[gv]? = some (.cells #[x0, x1] 79 (0, 0))) (hx : k79.M w w0.heap.size okx x [x0, x1]) (h1x : x0.oneCell' = true ∧ x1.oneCell' = true) (hxP : ∀ k, okx k → ¬ P0_ k) (hxb : ∀ k, okx k → k < w.heap.size) (hPb : ∀ k, P0_ k → k < w.heap.size) (ho : Kd.S k79 79 w w0.heap.size P0_ (.slice A0 l0.length c0) l0) (hs : l0.length < 4398046511103) (hi : i ≤ l0.length) :
    Calls Try.prog 129 #[.slice A0 l0.length c0, .int .i64 (i : Int), .slice (some ⟨gv, 0, none⟩) 1 1] w (repPost P0_ okx l0 i x w0 w) := by
 by_cases h : i = l0.length
 ·exact rep_end_ P0_ okx A0 c0 l0 i x x0 x1 gv w0 w hB hP hv hx h1x hxP hxb hPb ho hs h
 ·obtain ⟨b,c,e,_⟩ := Kd.S_form ho (by omega)
  injection e with e1 e2 e3
  subst e1
  subst e3
  by_cases hr : l0.length + 1 ≤ c0
  ·exact rep_shift_ P0_ okx b c0 l0 i x x0 x1 gv w0 w hB hP hv hx h1x hxP hxb hPb ho hs (by omega) hr
  ·exact rep_grow_ P0_ okx b c0 l0 i x x0 x1 gv w0 w hB hP hv hx h1x hxP hxb hPb ho hs (by omega) (by omega)

end Go.Proofs.Ythplaakckfhaaaa.XRp
