/- Proved: of each Go function here that a call comes to what the Lean function of its name tells. Written by a program of this session over the translation. No conditions beyond each theorem's own. -/
import Derived.Test.YthplaakckfhaaaaXCd0
import Derived.Test.YthplaakckfhaaaaXCd22
namespace Go.Proofs.Ythplaakckfhaaaa.XCd
open Go.RowKit Go.Proofs.Ythplaakckfhaaaa.Aid Go.Proofs.YthplaakckfhaaaaW.PrintWords Go.Proofs.YthplaakckfhaaaaW.PrintLast Go.Proofs.YthplaakckfhaaaaW.PrintMore
set_option linter.unusedVariables false
set_option linter.unusedSimpArgs false

/-! ### words for slices.Insert: cells of a block written one behind the other -/
theorem heap_setCells_ (g : Nat) : ∀ (vs : List Value) (o : Nat) (W : World) (cur : Array Value) (e : TypeId), W.heap[g]? = some (.cells cur e (0, 0)) → o + vs.length ≤ cur.size →
  ∃ cur' : Array Value,(W.setCells g o vs).heap[g]? = some (.cells cur' e (0,0)) ∧ cur'.size = cur.size ∧ (∀ j,j < vs.length → cur'[o + j]? = vs[j]?) ∧ ∀ j,(j < o ∨ o + vs.length ≤ j) → cur'[j]? = cur[j]?
  | [], o, W, cur, e, h, _ => ⟨cur, h, rfl, fun j hj => absurd hj (Nat.not_lt_zero _), fun _ _ => rfl⟩
  | v :: r, o, W, cur, e, h, hl => by
    rw [List.length_cons] at hl
    obtain ⟨c2,h2⟩ : ∃ c2 : Array Value,c2 = cur.set o v (by omega) := ⟨_,rfl⟩
    have hw : (W.setCell ⟨g,o,none⟩ v).heap[g]? = some (.cells c2 e (0,0)) := blk_put_ h o v (by omega) h2
    have hs2 : c2.size = cur.size := by rw [h2,Array.size_set]
    obtain ⟨cur',g1,g2,g3,g4⟩ := heap_setCells_ g r (o + 1) _ c2 e hw (by rw [hs2];omega)
    refine ⟨cur',g1,by rw [g2,hs2],fun j hj => ?_,fun j hj => ?_⟩
    ·cases j with
     | zero =>
      rw [Nat.add_zero,g4 o (.inl (by omega)),h2,Array.getElem?_set_self];rfl
     | succ j =>
      rw [show o + (j + 1) = o + 1 + j from by omega,g3 j (by rw [List.length_cons] at hj;omega)];rfl
    ·rw [List.length_cons] at hj
     rw [g4 j (by omega),h2,Array.getElem?_set_ne (by omega) (by omega)]
theorem keep_setCells_ (g : Nat) {w : World} : ∀ (vs : List Value) (o : Nat) (W : World), KeepBut w W g none → KeepBut w (W.setCells g o vs) g none
  | [], _, _, h => h
  | v :: r, o, W, h => keep_setCells_ g r (o + 1) _ (keep_set_ h o v)
theorem below_setCells_ (g : Nat) {w : World} : ∀ (vs : List Value) (o : Nat) (W : World), Below w.heap.size w W → w.heap.size ≤ g → Below w.heap.size w (W.setCells g o vs)
  | [], _, _, h, _ => h
  | v :: r, o, W, h, hg => below_setCells_ g r (o + 1) _ (below_set h hg) hg
theorem row_head_ {α : Type} {d : Kd α} {e : Nat} {w : World} {base : Nat} {ok : Nat → Prop} {ad : Addr} {n cap : Nat} {xs : List α} (h : d.R e w base ok (.slice (some ad) n cap) xs) : ∃ g, ad = ⟨g, 0, none⟩ := by
 obtain ⟨_,inner,ho,hr⟩ := h
 rcases ho.2 with ⟨hv,_⟩ | ⟨g,cap',cur,hv,_⟩
 ·cases hv
 ·injection hv with ha _ _
  injection ha with ha
  exact ⟨g,ha⟩
/-! ### slices_Insert_int64: function 137: one number is put in -/
theorem ints_of_cells_ {W : World} {base : Nat} {ok : Nat → Prop} {g n cap : Nat} {cur : Array Value} {xs : List Int} (hh : W.heap[g]? = some (.cells cur 2 (0, 0))) (hb : base ≤ g) (hg : ok g) (hn : n ≤ cap) (hc : cap ≤ maxLen) (hs : cur.size = cap) (hl : xs.length = n) (hx : ∀ j (h : j < xs.length), cur[j]? = some (.int .i64 xs[j])) : (Kd.int .i64).R 2 W base ok (.slice (some ⟨g, 0, none⟩) n cap) xs := by
 have ht : cur.toList.take n = xs.map (Value.int .i64) := by
  apply List.ext_getElem
  ·simp;omega
  ·intro j h1 h2
   have hj : j < xs.length := by simpa using h2
   have := hx j hj
   rw [Array.getElem?_eq_getElem (by omega)] at this
   have e := Option.some.inj this
   simp only [List.getElem_take,List.getElem_map,Array.getElem_toList]
   exact e
 refine ⟨fun k hk => ?_,xs.map (Value.int .i64),⟨by rw [List.length_map];show xs.length = xs.length * 1;omega,.inr ⟨g,cap,cur,by rw [hl],hb,hh,by omega,hc,by show cur.size = cap * 1;omega,?_⟩⟩,by rw [List.length_map];show xs.length = xs.length * 1;omega,fun j p hj => ?_⟩
 ·have : g = k := by simpa [Value.ownBlock] using hk
  subst this;exact hg
 ·show cur.toList.take (xs.length * 1) = _
  rw [Nat.mul_one,hl];exact ht
 ·show (((xs.map (Value.int .i64)).drop (j * 1)).take 1) = [Value.int .i64 p]
  have hjl := (List.getElem?_eq_some_iff.1 hj).1
  have hp := (List.getElem?_eq_some_iff.1 hj).2
  rw [Nat.mul_one,List.drop_eq_getElem_cons (by simpa using hjl)]
  simp [hp]
theorem cells_of_ints_ {W : World} {base : Nat} {ok : Nat → Prop} {g n cap : Nat} {xs : List Int} (h : (Kd.int .i64).R 2 W base ok (.slice (some ⟨g, 0, none⟩) n cap) xs) : ∃ cur : Array Value, W.heap[g]? = some (.cells cur 2 (0, 0)) ∧ base ≤ g ∧ n ≤ cap ∧ cap ≤ maxLen ∧ cur.size = cap ∧ xs.length = n ∧ ∀ j (hj : j < xs.length), cur[j]? = some (.int .i64 xs[j]) := by
 have hr := Kd.R_reads' h
 obtain ⟨_,inner,ho,hp⟩ := h
 rcases ho.2 with ⟨hv,_⟩ | ⟨g',cap',cur,hv,hb,hh,hc1,hc2,hc3,hc4⟩
 ·cases hv
 ·injection hv with hv1 hv2 hv3
  injection hv1 with hv1
  injection hv1 with hv1
  subst hv1
  subst hv3
  have hs : cur.size = cap := by have : cur.size = cap * 1 := hc3;omega
  refine ⟨cur,hh,hb,by omega,hc2,hs,hr.1.symm,fun j hj => ?_⟩
  obtain ⟨ad,e1,e2⟩ := Kd.at_int hr.2.2 (j : Int) (by omega) (by omega)
  injection e1 with e1
  subst e1
  rw [Int.toNat_natCast,addr_at_,blk_cell hh] at e2
  rw [e2]
  unfold rd
  rw [Int.toNat_natCast,List.getD_eq_getElem?_getD,List.getElem?_eq_getElem hj];rfl
def insPost (P0_ : Nat → Prop) (l0 : List Int) (i : Nat) (x : Int) (w0 w : World) (e : Ending) (w' : World) : Prop := ∃ A' c', e = .returned (.slice A' (l0.length + 1) c') ∧ (Kd.int .i64).R 2 w' w0.heap.size (fun k_ => P0_ k_ ∨ w.heap.size ≤ k_) (.slice A' (l0.length + 1) c') (l0.take i ++ [x] ++ l0.drop i) ∧ Below w0.heap.size w0 w' ∧ Kept w w' P0_
set_option maxHeartbeats 8000000 in
set_option maxRecDepth 100000 in
theorem ins_end_ (P0_ : Nat → Prop) (A0 : Option Addr) (c0 : Nat) (l0 : List Int) (x : Int) (gv : Nat) (w0 w : World) (hB : Below w0.heap.size w0 w) (hv : w.heap[gv]? = some (.cells #[.int .i64 x] 2 (0, 0))) (ho : (Kd.int .i64).R 2 w w0.heap.size P0_ (.slice A0 l0.length c0) l0) (hs : l0.length < 17592186044415) :
    Calls Try.prog 137 #[.slice A0 l0.length c0, .int .i64 (l0.length : Int), .slice (some ⟨gv, 0, none⟩) 1 1] w (insPost P0_ l0 l0.length x w0 w) := by
 have hx : (Kd.int .i64).C w (some ⟨gv,0,none⟩) 1 [x] := (Kd.R_reads' (ints_of_cells_ (base := 0) (ok := fun _ => True) hv (Nat.zero_le _) trivial (Nat.le_refl 1) (by decide) rfl rfl (by intro j hj;cases j with|zero => rfl|succ j => simp at hj))).2.2
 have hcap := (Kd.R_reads' ho).2.1
 have HO := ak ho
 have HX := ak hx
 have HB := ak hB
 have hw0 := hB.size
 clear ho hx hB
 have hR : Kd.R (Kd.int .i64) 2 w w0.heap.size (fun k_ => P0_ k_ ∨ w.heap.size ≤ k_) (.slice A0 l0.length c0) l0 := Kd.R_mono HO.out (fun _ h => .inl h)
 cases A0 with
  | none =>
  have hnil : l0.length = 0 ∧ c0 = 0 := by
   obtain ⟨A,c,e,_⟩ := Kd.R_reads HO.out
   rcases HO.out.2 with ⟨inner,hown,_⟩
   rcases hown.2 with ⟨he,hn⟩ | ⟨g,cap,cur,he,_⟩
   ·injection he with _ h2 h3;exact ⟨h2,h3⟩
   ·cases he
  obtain ⟨h1,rfl⟩ := hnil
  have h0 : l0 = [] := List.length_eq_zero_iff.1 h1
  subst h0
  go_enter Try.func137,Try.ntmps137
  go_wp2_with ((with_reducible refine gblt_ (b := .append) (xs := #[.tmp 23,.tmp 24]) rfl ?_);at_builtin;refine Kd.R_append_rows (Kd.int .i64) (w0 := w0) w0.heap.size rfl (.tmp 23) (.tmp 24) 24 2 (.int .i64 0) 8 rfl Try.underlying24 info2 rfl (by decide) (by omega) (.slice none 0 0) [] [x] _ _ _ (fun k_ => P0_ k_ ∨ w.heap.size ≤ k_) (fun _ => False) rfl rfl hR HX.out (fun _ _ h => h) (fun _ h => h.elim) (fun k_ h => .inr h) HB.out hw0 (by simp) ?_;intro v1 w1 ho hb hg hat)
  obtain ⟨A1,c1,e1⟩ := Kd.R_slice ho
  subst e1
  go_ret
  exact ⟨A1,c1,rfl,by simpa using ho,hb,⟨hg.size,fun k hk _ => hg.block k hk (by simp [Value.ownBlock])⟩⟩
  | some ad =>
  obtain ⟨b,rfl⟩ := row_head_ HO.out
  have hPb : P0_ b := HO.out.1 b (by simp [Value.ownBlock])
  go_enter Try.func137,Try.ntmps137
  go_wp2_with ((with_reducible refine gblt_ (b := .append) (xs := #[.tmp 23,.tmp 24]) rfl ?_);at_builtin;refine Kd.R_append_rows (Kd.int .i64) (w0 := w0) w0.heap.size rfl (.tmp 23) (.tmp 24) 24 2 (.int .i64 0) 8 rfl Try.underlying24 info2 rfl (by decide) (by omega) (.slice (some ⟨b,0,none⟩) l0.length c0) l0 [x] _ _ _ (fun k_ => P0_ k_ ∨ w.heap.size ≤ k_) (fun _ => False) rfl rfl hR HX.out (fun _ _ h => h) (fun _ h => h.elim) (fun k_ h => .inr h) HB.out hw0 (by omega) ?_;intro v1 w1 ho hb hg hat)
  all_goals (
   obtain ⟨A1,c1,e1⟩ := Kd.R_slice ho
   subst e1
   rw [List.length_append,List.length_singleton] at *
   go_ret
   exact ⟨A1,c1,rfl,by simpa using ho,hb,⟨hg.size,fun k hk hn => hg.block k hk (fun he => hn (by injection he with he;rw [he];exact hPb))⟩⟩)
/-- The two copies of a row that takes a number in. -/
theorem ins_cells_ {W : World} {g e i : Nat} {cur : Array Value} {cs : List Value} {v : Value} (h : W.heap[g]? = some (.cells cur e (0, 0))) (hi : i ≤ cs.length) (hc : cs.length < cur.size) (hx : ∀ j (hj : j < cs.length), j < i → cur[j]? = some cs[j]) :
  ∃ cur' : Array Value,((W.setCells g (i + 1) (cs.drop i)).setCells g i [v]).heap[g]? = some (.cells cur' e (0,0)) ∧ cur'.size = cur.size ∧ ∀ j (hj : j < (cs.take i ++ [v] ++ cs.drop i).length),cur'[j]? = some (cs.take i ++ [v] ++ cs.drop i)[j] := by
 obtain ⟨c1,a1,a2,a3,a4⟩ := heap_setCells_ g (cs.drop i) (i + 1) W cur e h (by rw [List.length_drop];omega)
 obtain ⟨c2,b1,b2,b3,b4⟩ := heap_setCells_ g [v] i _ c1 e a1 (by rw [a2];simp;omega)
 refine ⟨c2,b1,by rw [b2,a2],fun j hj => ?_⟩
 rw [← List.getElem?_eq_getElem hj,List.append_assoc]
 by_cases h1 : j < i
 ·rw [b4 j (.inl h1),a4 j (.inl (by omega)),hx j (by omega) h1,List.getElem?_append_left (by rw [List.length_take];omega),List.getElem?_take_of_lt h1,List.getElem?_eq_getElem]
 ·have hti : (cs.take i).length = i := by rw [List.length_take];omega
  rw [List.getElem?_append_right (by omega),hti]
  by_cases h2 : j = i
  ·subst h2
   have := b3 0 (by simp)
   rw [Nat.add_zero] at this
   rw [this,Nat.sub_self];rfl
  ·rw [b4 j (.inr (by simp;omega))]
   obtain ⟨t,rfl⟩ : ∃ t,j = i + 1 + t := ⟨j - i - 1,by omega⟩
   rw [a3 t (by rw [List.length_drop];rw [List.length_append,List.length_append,hti,List.length_drop] at hj;simp at hj;omega),show i + 1 + t - i = t + 1 from by omega]
   rfl
set_option maxHeartbeats 8000000 in
set_option maxRecDepth 100000 in
theorem ins_shift_ (P0_ : Nat → Prop) (b : Nat) (c0 : Nat) (l0 : List Int) (i : Nat) (x : Int) (gv : Nat) (w0 w : World) (hB : Below w0.heap.size w0 w) (hP : ¬ P0_ gv) (hv : w.heap[gv]? = some (.cells #[.int .i64 x] 2 (0, 0))) (ho : (Kd.int .i64).R 2 w w0.heap.size P0_ (.slice (some ⟨b, 0, none⟩) l0.length c0) l0) (hs : l0.length < 17592186044415) (hi : i < l0.length) (hroom : l0.length + 1 ≤ c0) :
    Calls Try.prog 137 #[.slice (some ⟨b, 0, none⟩) l0.length c0, .int .i64 (i : Int), .slice (some ⟨gv, 0, none⟩) 1 1] w (insPost P0_ l0 i x w0 w) := by
 have hPb : P0_ b := ho.1 b (by simp [Value.ownBlock])
 have hgb : gv ≠ b := fun e_ => hP (e_ ▸ hPb)
 obtain ⟨cur,k1,k2,k3,k4,k5,k6,k7⟩ := cells_of_ints_ ho
 have hov : ∀ lb cb,(callFunc 153 #[.slice (some ⟨gv,0,none⟩) 1 1,.slice (some ⟨b,i + 1,none⟩) lb cb]).run Try.prog w = .ok (.value (.bool false)) w := fun lb cb => by
  rw [run_callFunc_extern Try.func153 (by kernel_rfl) (by kernel_rfl) (by kernel_rfl) (e := Extern.SlicesOverlaps.overlaps #[24,24] #[4]) (by kernel_rfl),
   Lib.run_overlaps_apart w 24 4 2 Try.underlying24 1 (fun w => by rfl) ⟨gv,0,none⟩ ⟨b,i + 1,none⟩ 1 1 lb cb hgb 2 2 1 cur.size (by simp [World.shape?,hv]) (by simp [World.shape?,k1]) (by omega) (blk_frozen hv 0) (blk_frozen hv 1)]
  rfl
 have hcl : (l0.map (Value.int .i64)).length = l0.length := List.length_map ..
 have h1c : ∀ v ∈ (l0.map (Value.int .i64)),v.oneCell' = true := fun v hv => by
  obtain ⟨y,_,rfl⟩ := List.mem_map.1 hv
  rfl
 have hcs : ∀ j v,(l0.map (Value.int .i64))[j]? = some v → w.cell? ⟨b,j,none⟩ = some v := fun j v hj => by
  rw [blk_cell k1]
  obtain ⟨h2,h3⟩ := List.getElem?_eq_some_iff.1 hj
  rw [hcl] at h2
  rw [k7 j h2,← h3]
  simp
 have hsp : ∀ j,j < l0.length + 1 → (w.cell? ⟨b,j,none⟩).isSome = true := fun j hj => by rw [blk_cell k1,Array.getElem?_eq_getElem (by omega)];rfl
 have hsz : (Try.prog.info? 2).map (·.size) = some 1 := by kernel_rfl
 have hdl : ((l0.map (Value.int .i64)).drop i).length = l0.length - i := by rw [List.length_drop,hcl]
 have hcp1 : ∀ ty dc sc,(Builtin.copy_ #[24,24] ty #[.slice (some ⟨b,i + 1,none⟩) (l0.length - i) dc,.slice (some ⟨b,i,none⟩) (l0.length + 1 - i) sc]).run Try.prog w.drew = .ok (goInt ((l0.map (Value.int .i64)).drop i).length) (w.drew.setCells b (i + 1) ((l0.map (Value.int .i64)).drop i)) := fun ty dc sc =>
  run_copy_cells w.drew _ _ ty 2 b (i + 1) (l0.length - i) dc ⟨b,i,none⟩ (l0.length + 1 - i) sc ((l0.map (Value.int .i64)).drop i) Try.underlying24 hsz (by rw [hdl];simp only [Nat.min_def];split <;> omega)
   (fun j v hj => by rw [addr_off_];exact hcs (i + j) v (by rwa [List.getElem?_drop] at hj))
   (fun j hj => hsp _ (by omega)) (fun j hj => blk_frozen k1 _) (fun v hv => h1c v (List.mem_of_mem_drop hv))
 obtain ⟨W1,hW1⟩ : ∃ W1,W1 = w.drew.setCells b (i + 1) ((l0.map (Value.int .i64)).drop i) := ⟨_,rfl⟩
 have hK1 : KeepBut w W1 b none := by rw [hW1];exact keep_setCells_ b _ _ _ (KeepBut.of_below (below_drew1 (Below.refl _ _)) b none)
 obtain ⟨c1,m1,m2,_,_⟩ := heap_setCells_ b ((l0.map (Value.int .i64)).drop i) (i + 1) w.drew cur 2 k1 (by rw [hdl];omega)
 rw [← hW1] at m1
 have hv1 : W1.heap[gv]? = some (.cells #[.int .i64 x] 2 (0,0)) := (hK1.2 gv (blk_lt hv) hgb (by simp)).trans hv
 have hcp2 : ∀ (W : World),(∀ x,W.cell? x = W1.cell? x) → (∀ x,W.frozen? x = W1.frozen? x) → ∀ ty dc,(Builtin.copy_ #[24,24] ty #[.slice (some ⟨b,i,none⟩) (l0.length + 1 - i) dc,.slice (some ⟨gv,0,none⟩) 1 1]).run Try.prog W = .ok (goInt 1) (W.setCells b i [.int .i64 x]) := fun W hWc hWf ty dc =>
  run_copy_cells W _ _ ty 2 b i (l0.length + 1 - i) dc ⟨gv,0,none⟩ 1 1 [.int .i64 x] Try.underlying24 hsz (by simp only [List.length_singleton,Nat.min_def];split <;> omega)
   (fun j v hj => by
    rw [addr_at_,hWc,blk_cell hv1]
    cases j with
    | zero => simpa using hj
    | succ j => simp at hj)
   (fun j hj => by rw [hWc,blk_cell m1,Array.getElem?_eq_getElem (by rw [m2];simp at hj;omega)];rfl) (fun j hj => by rw [hWf];exact blk_frozen m1 _) (fun v hv => by rw [List.mem_singleton.1 hv];rfl)
 rw [← hW1] at hcp1
 have hz2 : ¬ ((i : Int) = (l0.length : Int)) := by omega
 have hw1 : IntKind.i64.wrap ((i : Int) + 1) = (i : Int) + 1 := by rw [IntKind.wrap_i64];omega
 have hb1 : (0 : Int) ≤ (i : Int) + 1 := by omega
 have hin : i ≤ l0.length := by omega
 have htn : ((i : Int) + 1).toNat = i + 1 := by omega
 have hb2 : ¬ (c0 = i + 1) := by omega
 have hb3 : (i : Int) ≤ (l0.length : Int) + 1 := by omega
 have hb4 : ¬ (c0 = i) := by omega
 have hc63 : c0 ≤ 9223372036854775807 := by unfold maxLen at k4;omega
 have mixed : Try.prog.follows .mixedOrders = true := by kernel_rfl
 have HB := ak hB
 have HV := ak k7
 have HZ := ak k5
 have K1 := ak k1
 have GB := ak k2
 have HM := ak k4
 clear hB hP hv ho k1 k2 k3 k4 k5 k6 k7 hcs hsp h1c m1 m2 hv1 hK1
 go_enter Try.func137,Try.ntmps137
 go_wp2_with (simp only [hov])
 go_region_law_o (refine step_copy_runI rfl _ _ 24 24 rfl _ _ (by simp [Act.eval,Act.put]) (by simp [Act.eval,Act.put]) (hcp1 _ _ _) ?_)
 go_wp2_with (at_builtin;refine wpList_copy_runI _ rfl _ _ 24 24 rfl _ _ rfl rfl (hcp2 _ (fun _ => rfl) (fun _ => rfl) _ _) ?_)
 go_ret
 obtain ⟨cur',f1,f2,f3⟩ := ins_cells_ (W := w.drew) (g := b) (e := 2) (i := i) (cur := cur) (cs := l0.map (Value.int .i64)) (v := .int .i64 x) K1.out (by rw [hcl];omega) (by rw [hcl,HZ.out];omega) (fun j hj _ => by
  have hj' : j < l0.length := by rwa [hcl] at hj
  rw [HV.out j hj'];simp)
 have hnew : ((l0.take i ++ [x] ++ l0.drop i).map (Value.int .i64)) = (l0.map (Value.int .i64)).take i ++ [Value.int .i64 x] ++ (l0.map (Value.int .i64)).drop i := by simp
 have hlen : (l0.take i ++ [x] ++ l0.drop i).length = l0.length + 1 := by simp;omega
 refine ⟨some ⟨b,0,none⟩,c0,rfl,ints_of_cells_ (cur := cur') ?_ GB.out (.inl hPb) hroom HM.out (by rw [f2,HZ.out]) hlen (fun j hj => ?_),?_,?_⟩
 ·exact f1
 ·have hj2 : j < ((l0.map (Value.int .i64)).take i ++ [Value.int .i64 x] ++ (l0.map (Value.int .i64)).drop i).length := by rw [← hnew,List.length_map];exact hj
  have e1 : ((l0.take i ++ [x] ++ l0.drop i).map (Value.int .i64))[j]? = some (.int .i64 (l0.take i ++ [x] ++ l0.drop i)[j]) := by rw [List.getElem?_map,List.getElem?_eq_getElem hj];rfl
  rw [hnew,List.getElem?_eq_getElem hj2] at e1
  rw [f3 j hj2]
  exact e1
 ·exact below_setCells_ b _ _ _ (below_setCells_ b _ _ _ (below_drew1 HB.out) GB.out) GB.out
 ·have hk := keep_setCells_ b [Value.int .i64 x] i _ (keep_setCells_ b ((l0.map (Value.int .i64)).drop i) (i + 1) w.drew (KeepBut.of_below (below_drew1 (Below.refl _ w)) b none))
  exact ⟨hk.1,fun k hk1 hk2 => hk.2 k hk1 (fun e_ => hk2 (e_ ▸ hPb)) (by simp)⟩
theorem ins_cells2_ {W : World} {g e i : Nat} {cur : Array Value} {cs : List Value} {v : Value} (h : W.heap[g]? = some (.cells cur e (0, 0))) (hi : i ≤ cs.length) (hc : cs.length < cur.size) (hx : ∀ j (hj : j < cs.length), j < i → cur[j]? = some cs[j]) :
  ∃ cur' : Array Value,(((W.setCells g i [v]).drew).setCells g (i + 1) (cs.drop i)).heap[g]? = some (.cells cur' e (0,0)) ∧ cur'.size = cur.size ∧ ∀ j (hj : j < (cs.take i ++ [v] ++ cs.drop i).length),cur'[j]? = some (cs.take i ++ [v] ++ cs.drop i)[j] := by
 obtain ⟨c1,a1,a2,a3,a4⟩ := heap_setCells_ g [v] i W cur e h (by simp;omega)
 obtain ⟨c2,b1,b2,b3,b4⟩ := heap_setCells_ g (cs.drop i) (i + 1) ((W.setCells g i [v]).drew) c1 e a1 (by rw [a2,List.length_drop];omega)
 refine ⟨c2,b1,by rw [b2,a2],fun j hj => ?_⟩
 rw [← List.getElem?_eq_getElem hj,List.append_assoc]
 have hti : (cs.take i).length = i := by rw [List.length_take];omega
 by_cases h1 : j < i
 ·rw [b4 j (.inl (by omega)),a4 j (.inl h1),hx j (by omega) h1,List.getElem?_append_left (by omega),List.getElem?_take_of_lt h1,List.getElem?_eq_getElem]
 ·rw [List.getElem?_append_right (by omega),hti]
  by_cases h2 : j = i
  ·subst h2
   have := a3 0 (by simp)
   rw [Nat.add_zero] at this
   rw [b4 j (.inl (by omega)),this,Nat.sub_self];rfl
  ·obtain ⟨t,rfl⟩ : ∃ t,j = i + 1 + t := ⟨j - i - 1,by omega⟩
   rw [b3 t (by rw [List.length_drop];rw [List.length_append,List.length_append,hti,List.length_drop] at hj;simp at hj;omega),show i + 1 + t - i = t + 1 from by omega]
   rfl
set_option maxHeartbeats 8000000 in
set_option maxRecDepth 100000 in
theorem ins_grow_ (P0_ : Nat → Prop) (b : Nat) (c0 : Nat) (l0 : List Int) (i : Nat) (x : Int) (gv : Nat) (w0 w : World) (hB : Below w0.heap.size w0 w) (hv : w.heap[gv]? = some (.cells #[.int .i64 x] 2 (0, 0))) (ho : (Kd.int .i64).R 2 w w0.heap.size P0_ (.slice (some ⟨b, 0, none⟩) l0.length c0) l0) (hs : l0.length < 17592186044415) (hi : i < l0.length) (hroom : c0 < l0.length + 1) :
    Calls Try.prog 137 #[.slice (some ⟨b, 0, none⟩) l0.length c0, .int .i64 (i : Int), .slice (some ⟨gv, 0, none⟩) 1 1] w (insPost P0_ l0 i x w0 w) := by
 obtain ⟨cur,k1,k2,k3,k4,k5,k6,k7⟩ := cells_of_ints_ ho
 obtain ⟨i0,hi0,hz0,hzs,hzb⟩ := info_parts info2
 obtain ⟨cs,hcs0⟩ : ∃ cs,cs = l0.map (Value.int .i64) := ⟨_,rfl⟩
 have hcl : cs.length = l0.length := by rw [hcs0];exact List.length_map ..
 have h1c : ∀ v ∈ cs,v.oneCell' = true := fun v hv => by
  rw [hcs0] at hv
  obtain ⟨y,_,rfl⟩ := List.mem_map.1 hv
  rfl
 have hcs : ∀ j v,cs[j]? = some v → w.cell? ⟨b,j,none⟩ = some v := fun j v hj => by
  rw [blk_cell k1]
  rw [hcs0] at hj
  obtain ⟨h2,h3⟩ := List.getElem?_eq_some_iff.1 hj
  rw [List.length_map] at h2
  rw [k7 j h2,← h3]
  simp
 have hsz : (Try.prog.info? 2).map (·.size) = some 1 := by kernel_rfl
 have hbw : b < w.heap.size := blk_lt k1
 have hvw : gv < w.heap.size := blk_lt hv
 have hkk : (l0.length : Int) + 1 - (i : Int) = ((l0.length + 1 - i : Nat) : Int) := by omega
 have hik : i + (l0.length + 1 - i) = l0.length + 1 := by omega
 have hold : (Builtin.firstCells i0.size i (.slice (some ⟨b,0,none⟩) i c0)).run Try.prog w.drew = .ok (cs.take i).toArray w.drew := by
  rw [hzs]
  exact run_firstCells_some w.drew 1 i ⟨b,0,none⟩ i c0 (cs.take i) (by rw [List.length_take];omega) (fun j v hj => by
   rw [addr_at_]
   rw [List.getElem?_take] at hj
   split at hj
   ·exact hcs j v hj
   ·cases hj)
 obtain ⟨G,hG⟩ : ∃ G,G = grownCap w (l0.length + 1) c0 2 := ⟨_,rfl⟩
 obtain ⟨ROW,hROW⟩ : ∃ ROW : Array Value,ROW = (cs.take i).toArray ++ Builtin.zeroCells (Value.int .i64 0).cells (l0.length + 1 - i) ++ Builtin.zeroCells (Value.int .i64 0).cells (G - (l0.length + 1)) := ⟨_,rfl⟩
 have hrz : ∀ ty,(Builtin.append_ #[24,3] ty #[.slice (some ⟨b,0,none⟩) i c0,.int .i64 ((l0.length : Int) + 1 - (i : Int))]).run Try.prog w = .ok (.slice (some ⟨w.heap.size,0,none⟩) (l0.length + 1) G) (w.drew.alloc (.cells ROW 2)) := fun ty => by
  have h := Lib.run_append_grow_zeros w 24 3 ty 2 i0 _ .i64 .i64 Try.underlying24 Try.underlying3 hi0 hz0 (some ⟨b,0,none⟩) i c0 (cs.take i) hold (l0.length + 1 - i) (by omega) (by omega) (by omega) (by omega) (by rw [hzb];omega) (by rw [hzb,hik];exact growslice_fits hroom (by omega))
  rw [hik] at h
  rw [hkk,hROW,hG]
  exact h
 have hGn : l0.length + 1 ≤ G := by rw [hG];exact grownCap_ge w _ _ _
 have hGm : G ≤ maxLen := by rw [hG];exact grownCap_le_maxLen w (l0.length + 1) c0 2 (by unfold maxLen;omega)
 have hRs : ROW.size = G := by
  rw [hROW]
  simp [Builtin.zeroCells,Value.cells]
  omega
 have hRx : ∀ j (hj : j < cs.length),j < i → ROW[j]? = some cs[j] := fun j hj hji => by
  rw [hROW,Array.getElem?_append_left (by simp [Builtin.zeroCells];omega),Array.getElem?_append_left (by simp;omega)]
  rw [List.getElem?_toArray,List.getElem?_take_of_lt hji,List.getElem?_eq_getElem hj]
 obtain ⟨W1,hW1⟩ : ∃ W1,W1 = w.drew.alloc (.cells ROW 2) := ⟨_,rfl⟩
 have hN : W1.heap[w.heap.size]? = some (.cells ROW 2 (0,0)) := by rw [hW1];exact blk_new w.drew _
 have hO : ∀ k,k < w.heap.size → W1.heap[k]? = w.heap[k]? := fun k hk => by rw [hW1];exact (below_alloc (below_drew1 (Below.refl _ w)) _).block k hk
 have hb1 : W1.heap[b]? = some (.cells cur 2 (0,0)) := (hO b hbw).trans k1
 have hv1 : W1.heap[gv]? = some (.cells #[.int .i64 x] 2 (0,0)) := (hO gv hvw).trans hv
 have hcpA : ∀ (W : World),(∀ x,W.cell? x = W1.cell? x) → (∀ x,W.frozen? x = W1.frozen? x) → ∀ ty dc,(Builtin.copy_ #[24,24] ty #[.slice (some ⟨w.heap.size,i,none⟩) (l0.length + 1 - i) dc,.slice (some ⟨gv,0,none⟩) 1 1]).run Try.prog W = .ok (goInt 1) (W.setCells w.heap.size i [.int .i64 x]) := fun W hWc hWf ty dc =>
  run_copy_cells W _ _ ty 2 w.heap.size i (l0.length + 1 - i) dc ⟨gv,0,none⟩ 1 1 [.int .i64 x] Try.underlying24 hsz (by simp only [List.length_singleton,Nat.min_def];split <;> omega)
   (fun j v hj => by
    rw [addr_at_,hWc,blk_cell hv1]
    cases j with
    | zero => simpa using hj
    | succ j => simp at hj)
   (fun j hj => by rw [hWc,blk_cell hN,Array.getElem?_eq_getElem (by rw [hRs];simp at hj;omega)];rfl) (fun j hj => by rw [hWf];exact blk_frozen hN _) (fun v hv => by rw [List.mem_singleton.1 hv];rfl)
 have hbN : b ≠ w.heap.size := by omega
 have hdl : (cs.drop i).length = l0.length - i := by rw [List.length_drop,hcl]
 obtain ⟨c1,m1,m2,_,_⟩ := heap_setCells_ w.heap.size [.int .i64 x] i W1 ROW 2 hN (by rw [hRs];simp;omega)
 have hK1 : KeepBut W1 (W1.setCells w.heap.size i [.int .i64 x]) w.heap.size none := keep_setCells_ _ _ _ _ (KeepBut.refl _ _ _)
 have hb2 : (W1.setCells w.heap.size i [.int .i64 x]).heap[b]? = some (.cells cur 2 (0,0)) := (hK1.2 b (blk_lt hb1) hbN (by simp)).trans hb1
 have hcpB : ∀ (W : World),(∀ y,W.cell? y = (W1.setCells w.heap.size i [.int .i64 x]).cell? y) → (∀ y,W.frozen? y = (W1.setCells w.heap.size i [.int .i64 x]).frozen? y) → ∀ ty dc sc,(Builtin.copy_ #[24,24] ty #[.slice (some ⟨w.heap.size,i + 1,none⟩) (l0.length - i) dc,.slice (some ⟨b,i,none⟩) (l0.length - i) sc]).run Try.prog W = .ok (goInt (cs.drop i).length) (W.setCells w.heap.size (i + 1) (cs.drop i)) := fun W hWc hWf ty dc sc =>
  run_copy_cells W _ _ ty 2 w.heap.size (i + 1) (l0.length - i) dc ⟨b,i,none⟩ (l0.length - i) sc (cs.drop i) Try.underlying24 hsz (by rw [hdl];simp only [Nat.min_def];split <;> omega)
   (fun j v hj => by
    rw [addr_off_,hWc,blk_cell hb2,← blk_cell k1]
    exact hcs (i + j) v (by rwa [List.getElem?_drop] at hj))
   (fun j hj => by rw [hWc,blk_cell m1,Array.getElem?_eq_getElem (by rw [m2,hRs];omega)];rfl) (fun j hj => by rw [hWf];exact blk_frozen m1 _) (fun v hv => h1c v (List.mem_of_mem_drop hv))
 subst hW1
 have hE1 : ∀ y,((w.alloc (.cells ROW 2)).drew).cell? y = (w.drew.alloc (.cells ROW 2)).cell? y := fun y => rfl
 have hE2 : ∀ y,((w.alloc (.cells ROW 2)).drew).frozen? y = (w.drew.alloc (.cells ROW 2)).frozen? y := fun y => rfl
 have hF1 : ∀ y,(((w.alloc (.cells ROW 2)).drew.setCells w.heap.size i [.int .i64 x]).drew).cell? y = ((w.drew.alloc (.cells ROW 2)).setCells w.heap.size i [.int .i64 x]).cell? y := fun y => rfl
 have hF2 : ∀ y,(((w.alloc (.cells ROW 2)).drew.setCells w.heap.size i [.int .i64 x]).drew).frozen? y = ((w.drew.alloc (.cells ROW 2)).setCells w.heap.size i [.int .i64 x]).frozen? y := fun y => rfl
 have hz2 : ¬ ((i : Int) = (l0.length : Int)) := by omega
 have hz3 : (c0 : Int) < (l0.length : Int) + 1 := by omega
 have hw1 : IntKind.i64.wrap ((i : Int) + 1) = (i : Int) + 1 := by rw [IntKind.wrap_i64];omega
 have hbb1 : (0 : Int) ≤ (i : Int) + 1 := by omega
 have hin : i ≤ l0.length := by omega
 have htn : ((i : Int) + 1).toNat = i + 1 := by omega
 have hb3 : (i : Int) ≤ (l0.length : Int) := by omega
 have hG63 : G ≤ 9223372036854775807 := by unfold maxLen at hGm;omega
 have hGi : ¬ (G = i) := by omega
 have hGim : ¬ (G = i + 1) := by omega
 have hci : ¬ (c0 = i) := by omega
 have hnc : l0.length ≤ c0 := k3
 have hic : (i : Int) ≤ (c0 : Int) := by omega
 have mixed : Try.prog.follows .mixedOrders = true := by kernel_rfl
 have HB := ak hB
 have HNN := ak hN
 have HRS := ak hRs
 have HRX := ak hRx
 have HGM := ak hGm
 have HGN := ak hGn
 have HCS := ak hcs0
 clear hB hv ho k1 k2 k3 k4 k5 k6 k7 hcs h1c hkk hik hold hN hO hb1 hv1 hK1 hb2 m1 m2 hROW hG hRs hRx hbw hvw
 go_enter Try.func137,Try.ntmps137
 go_wp2_with (first
    | (at_builtin; refine Lib.wpList_append_run _ rfl _ _ _ _ rfl _ _ rfl rfl _ _ (hrz _) ?_)
    | (at_builtin; refine wpList_copy_runI _ rfl _ _ 24 24 rfl _ _ rfl rfl (hcpA _ hE1 hE2 _ _) ?_)
    | (at_builtin; refine wpList_copy_runI _ rfl _ _ 24 24 rfl _ _ rfl rfl (hcpB _ (fun _ => rfl) (fun _ => rfl) _ _ _) ?_))
 go_region_law_o (refine step_copy_runI rfl _ _ 24 24 rfl (.slice (some ⟨w.heap.size,i + 1,none⟩) (l0.length - i) (G - (i + 1))) (.slice (some ⟨b,i,none⟩) (l0.length - i) (c0 - i)) (by simp [Act.eval,Act.put]) (by simp [Act.eval,Act.put]) (hcpB _ hF1 hF2 3 (G - (i + 1)) (c0 - i)) ?_)
 go_wp2
 go_ret
 subst hcs0
 obtain ⟨cur',f1,f2,f3⟩ := ins_cells2_ (W := (w.alloc (.cells ROW 2)).drew) (g := w.heap.size) (e := 2) (i := i) (cur := ROW) (cs := l0.map (Value.int .i64)) (v := .int .i64 x) HNN.out (by rw [List.length_map];omega) (by rw [List.length_map,HRS.out];omega) HRX.out
 have hnew : ((l0.take i ++ [x] ++ l0.drop i).map (Value.int .i64)) = (l0.map (Value.int .i64)).take i ++ [Value.int .i64 x] ++ (l0.map (Value.int .i64)).drop i := by simp
 have hlen : (l0.take i ++ [x] ++ l0.drop i).length = l0.length + 1 := by simp;omega
 have hbase : w0.heap.size ≤ w.heap.size := HB.out.size
 refine ⟨some ⟨w.heap.size,0,none⟩,G,rfl,ints_of_cells_ (cur := cur') f1 hbase (.inr (Nat.le_refl _)) HGN.out HGM.out (by rw [f2,HRS.out]) hlen (fun j hj => ?_),?_,?_⟩
 ·have hj2 : j < ((l0.map (Value.int .i64)).take i ++ [Value.int .i64 x] ++ (l0.map (Value.int .i64)).drop i).length := by rw [← hnew,List.length_map];exact hj
  have e1 : ((l0.take i ++ [x] ++ l0.drop i).map (Value.int .i64))[j]? = some (.int .i64 (l0.take i ++ [x] ++ l0.drop i)[j]) := by rw [List.getElem?_map,List.getElem?_eq_getElem hj];rfl
  rw [hnew,List.getElem?_eq_getElem hj2] at e1
  rw [f3 j hj2]
  exact e1
 ·exact below_setCells_ w.heap.size _ _ _ (below_drew1 (below_setCells_ w.heap.size _ _ _ (below_drew1 (below_alloc HB.out _)) hbase)) hbase
 ·have hk : Below w.heap.size w ((((w.alloc (.cells ROW 2)).drew.setCells w.heap.size i [.int .i64 x]).drew).setCells w.heap.size (i + 1) ((l0.map (Value.int .i64)).drop i)) := below_setCells_ w.heap.size _ _ _ (below_drew1 (below_setCells_ w.heap.size _ _ _ (below_drew1 (below_alloc (Below.refl _ _) _)) (Nat.le_refl _))) (Nat.le_refl _)
  exact ⟨hk.size,fun k hk1 _ => hk.block k hk1⟩
/-! ### slices_Insert_int64: all roads -/
theorem slices_Insert_int64.calls (P0_ : Nat → Prop) (A0 : Option Addr) (c0 : Nat) (l0 : List Int) (i : Nat) (x : Int) (gv : Nat) (w0 w : World) (hB : Below w0.heap.size w0 w) (hP : ¬ P0_ gv) (hv : w.heap[gv]? = some (.cells #[.int .i64 x] 2 (0, 0))) (ho : (Kd.int .i64).R 2 w w0.heap.size P0_ (.slice A0 l0.length c0) l0) (hs : l0.length < 17592186044415) (hi : i ≤ l0.length) :
    Calls Try.prog 137 #[.slice A0 l0.length c0, .int .i64 (i : Int), .slice (some ⟨gv, 0, none⟩) 1 1] w (insPost P0_ l0 i x w0 w) := by
 by_cases h : i = l0.length
 ·subst h
  exact ins_end_ P0_ A0 c0 l0 x gv w0 w hB hv ho hs
 ·obtain ⟨b,c,e,_⟩ := Kd.R_form ho (by omega)
  injection e with e1 e2 e3
  subst e1
  subst e3
  by_cases hr : l0.length + 1 ≤ c0
  ·exact ins_shift_ P0_ b c0 l0 i x gv w0 w hB hP hv ho hs (by omega) hr
  ·exact ins_grow_ P0_ b c0 l0 i x gv w0 w hB hv ho hs (by omega) (by omega)

end Go.Proofs.Ythplaakckfhaaaa.XCd
