/- Proved: of each Go function here that a call comes to what the Lean function of its name tells. Written by a program of this session over the translation. No conditions beyond each theorem's own. -/
import Derived.Test.YthplaakckfhaaaaGreatXCr0
import Derived.Test.YthplaakckfhaaaaGreatXCr8
import Derived.Test.YthplaakckfhaaaaGreatXCr9
import Derived.Test.YthplaakckfhaaaaGreatXCr17
namespace Go.Proofs.YthplaakckfhaaaaGreat.XCr
open Go.RowKit Go.Proofs.YthplaakckfhaaaaGreat.Aid Go.Proofs.YthplaakckfhaaaaGreatW.PrintWords Go.Proofs.YthplaakckfhaaaaGreatW.PrintLast Go.Proofs.YthplaakckfhaaaaGreatW.PrintMore
set_option linter.unusedVariables false
set_option linter.unusedSimpArgs false

/-! ### slices_Insert_int64: function 86: one number is put in -/
theorem ints_of_cells_ {W : World} {base : Nat} {ok : Nat → Prop} {g n cap : Nat} {cur : Array Value} {xs : List Int} (hh : W.heap[g]? = some (.cells cur 2 (0, 0))) (hb : base ≤ g) (hg : ok g) (hn : n ≤ cap) (hc : cap ≤ maxLen) (hs : cur.size = cap) (hl : xs.length = n) (hx : ∀ j (h : j < xs.length), cur[j]? = some (.int .i64 xs[j])) : (Kd.int .i64).R 2 W base ok (.slice (some ⟨g, 0, none⟩) n cap) xs := by
 have ht : cur.toList.take n = xs.map (Value.int .i64) := by
  apply List.ext_getElem
  ·simp;omega
  ·intro j h1 h2
   have hj : j < xs.length := by simpa using h2
   have := hx j hj
   rw [Array.getElem?_eq_getElem (by omega)] at this
   have e := Option.some.inj this
   simp only [List.getElem_take,List.getElem_map,Array.getElem_toList]
   exact e
 refine ⟨fun k hk => ?_,xs.map (Value.int .i64),⟨by rw [List.length_map];show xs.length = xs.length * 1;omega,.inr ⟨g,cap,cur,by rw [hl],hb,hh,by omega,hc,by show cur.size = cap * 1;omega,?_⟩⟩,by rw [List.length_map];show xs.length = xs.length * 1;omega,fun j p hj => ?_⟩
 ·have : g = k := by simpa [Value.ownBlock] using hk
  subst this;exact hg
 ·show cur.toList.take (xs.length * 1) = _
  rw [Nat.mul_one,hl];exact ht
 ·show (((xs.map (Value.int .i64)).drop (j * 1)).take 1) = [Value.int .i64 p]
  have hjl := (List.getElem?_eq_some_iff.1 hj).1
  have hp := (List.getElem?_eq_some_iff.1 hj).2
  rw [Nat.mul_one,List.drop_eq_getElem_cons (by simpa using hjl)]
  simp [hp]
theorem cells_of_ints_ {W : World} {base : Nat} {ok : Nat → Prop} {g n cap : Nat} {xs : List Int} (h : (Kd.int .i64).R 2 W base ok (.slice (some ⟨g, 0, none⟩) n cap) xs) : ∃ cur : Array Value, W.heap[g]? = some (.cells cur 2 (0, 0)) ∧ base ≤ g ∧ n ≤ cap ∧ cap ≤ maxLen ∧ cur.size = cap ∧ xs.length = n ∧ ∀ j (hj : j < xs.length), cur[j]? = some (.int .i64 xs[j]) := by
 have hr := Kd.R_reads' h
 obtain ⟨_,inner,ho,hp⟩ := h
 rcases ho.2 with ⟨hv,_⟩ | ⟨g',cap',cur,hv,hb,hh,hc1,hc2,hc3,hc4⟩
 ·cases hv
 ·injection hv with hv1 hv2 hv3
  injection hv1 with hv1
  injection hv1 with hv1
  subst hv1
  subst hv3
  have hs : cur.size = cap := by have : cur.size = cap * 1 := hc3;omega
  refine ⟨cur,hh,hb,by omega,hc2,hs,hr.1.symm,fun j hj => ?_⟩
  obtain ⟨ad,e1,e2⟩ := Kd.at_int hr.2.2 (j : Int) (by omega) (by omega)
  injection e1 with e1
  subst e1
  rw [Int.toNat_natCast,addr_at_,blk_cell hh] at e2
  rw [e2]
  unfold rd
  rw [Int.toNat_natCast,List.getD_eq_getElem?_getD,List.getElem?_eq_getElem hj];rfl
theorem heap_setCells_ (g : Nat) : ∀ (vs : List Value) (o : Nat) (W : World) (cur : Array Value) (e : TypeId), W.heap[g]? = some (.cells cur e (0, 0)) → o + vs.length ≤ cur.size →
  ∃ cur' : Array Value,(W.setCells g o vs).heap[g]? = some (.cells cur' e (0,0)) ∧ cur'.size = cur.size ∧ (∀ j,j < vs.length → cur'[o + j]? = vs[j]?) ∧ ∀ j,(j < o ∨ o + vs.length ≤ j) → cur'[j]? = cur[j]?
  | [], o, W, cur, e, h, _ => ⟨cur, h, rfl, fun j hj => absurd hj (Nat.not_lt_zero _), fun _ _ => rfl⟩
  | v :: r, o, W, cur, e, h, hl => by
    rw [List.length_cons] at hl
    obtain ⟨c2,h2⟩ : ∃ c2 : Array Value,c2 = cur.set o v (by omega) := ⟨_,rfl⟩
    have hw : (W.setCell ⟨g,o,none⟩ v).heap[g]? = some (.cells c2 e (0,0)) := blk_put_ h o v (by omega) h2
    have hs2 : c2.size = cur.size := by rw [h2,Array.size_set]
    obtain ⟨cur',g1,g2,g3,g4⟩ := heap_setCells_ g r (o + 1) _ c2 e hw (by rw [hs2];omega)
    refine ⟨cur',g1,by rw [g2,hs2],fun j hj => ?_,fun j hj => ?_⟩
    ·cases j with
     | zero =>
      rw [Nat.add_zero,g4 o (.inl (by omega)),h2,Array.getElem?_set_self];rfl
     | succ j =>
      rw [show o + (j + 1) = o + 1 + j from by omega,g3 j (by rw [List.length_cons] at hj;omega)];rfl
    ·rw [List.length_cons] at hj
     rw [g4 j (by omega),h2,Array.getElem?_set_ne (by omega) (by omega)]
theorem keep_setCells_ (g : Nat) {w : World} : ∀ (vs : List Value) (o : Nat) (W : World), KeepBut w W g none → KeepBut w (W.setCells g o vs) g none
  | [], _, _, h => h
  | v :: r, o, W, h => keep_setCells_ g r (o + 1) _ (keep_set_ h o v)
theorem below_setCells_ (g : Nat) {w : World} : ∀ (vs : List Value) (o : Nat) (W : World), Below w.heap.size w W → w.heap.size ≤ g → Below w.heap.size w (W.setCells g o vs)
  | [], _, _, h, _ => h
  | v :: r, o, W, h, hg => below_setCells_ g r (o + 1) _ (below_set h hg) hg
theorem row_head_ {α : Type} {d : Kd α} {e : Nat} {w : World} {base : Nat} {ok : Nat → Prop} {ad : Addr} {n cap : Nat} {xs : List α} (h : d.R e w base ok (.slice (some ad) n cap) xs) : ∃ g, ad = ⟨g, 0, none⟩ := by
 obtain ⟨_,inner,ho,hr⟩ := h
 rcases ho.2 with ⟨hv,_⟩ | ⟨g,cap',cur,hv,_⟩
 ·cases hv
 ·injection hv with ha _ _
  injection ha with ha
  exact ⟨g,ha⟩
def insPost (P0_ : Nat → Prop) (l0 : List Int) (i : Nat) (x : Int) (w0 w : World) (e : Ending) (w' : World) : Prop := ∃ A' c', e = .returned (.slice A' (l0.length + 1) c') ∧ (Kd.int .i64).R 2 w' w0.heap.size (fun k_ => P0_ k_ ∨ w.heap.size ≤ k_) (.slice A' (l0.length + 1) c') (l0.take i ++ [x] ++ l0.drop i) ∧ Below w0.heap.size w0 w' ∧ Kept w w' P0_
set_option maxHeartbeats 8000000 in
set_option maxRecDepth 100000 in
theorem ins_end_ (P0_ : Nat → Prop) (A0 : Option Addr) (c0 : Nat) (l0 : List Int) (x : Int) (gv : Nat) (w0 w : World) (hB : Below w0.heap.size w0 w) (hv : w.heap[gv]? = some (.cells #[.int .i64 x] 2 (0, 0))) (ho : (Kd.int .i64).R 2 w w0.heap.size P0_ (.slice A0 l0.length c0) l0) (hs : l0.length < 17592186044415) :
    Calls Tryz.prog 86 #[.slice A0 l0.length c0, .int .i64 (l0.length : Int), .slice (some ⟨gv, 0, none⟩) 1 1] w (insPost P0_ l0 l0.length x w0 w) := by
 have hx : (Kd.int .i64).C w (some ⟨gv,0,none⟩) 1 [x] := (Kd.R_reads' (ints_of_cells_ (base := 0) (ok := fun _ => True) hv (Nat.zero_le _) trivial (Nat.le_refl 1) (by decide) rfl rfl (by intro j hj;cases j with|zero => rfl|succ j => simp at hj))).2.2
 have hcap := (Kd.R_reads' ho).2.1
 have HO := Aside0.mk ho
 have HX := Aside0.mk hx
 have HB := Aside0.mk hB
 have hw0 := hB.size
 clear ho hx hB
 have hR : Kd.R (Kd.int .i64) 2 w w0.heap.size (fun k_ => P0_ k_ ∨ w.heap.size ≤ k_) (.slice A0 l0.length c0) l0 := Kd.R_mono HO.out (fun _ h => .inl h)
 cases A0 with
  | none =>
  have hnil : l0.length = 0 ∧ c0 = 0 := by
   obtain ⟨A,c,e,_⟩ := Kd.R_reads HO.out
   rcases HO.out.2 with ⟨inner,hown,_⟩
   rcases hown.2 with ⟨he,hn⟩ | ⟨g,cap,cur,he,_⟩
   ·injection he with _ h2 h3;exact ⟨h2,h3⟩
   ·cases he
  obtain ⟨h1,rfl⟩ := hnil
  have h0 : l0 = [] := List.length_eq_zero_iff.1 h1
  subst h0
  go_enter Tryz.func86,Tryz.ntmps86
  go_wp2_with ((with_reducible refine gblt_ (b := .append) (xs := #[.tmp 23,.tmp 24]) rfl ?_);at_builtin;refine Kd.R_append_rows (Kd.int .i64) (w0 := w0) w0.heap.size rfl (.tmp 23) (.tmp 24) 24 2 (.int .i64 0) 8 rfl Tryz.underlying24 info2 rfl (by decide) (by omega) (.slice none 0 0) [] [x] _ _ _ (fun k_ => P0_ k_ ∨ w.heap.size ≤ k_) (fun _ => False) rfl rfl hR HX.out (fun _ _ h => h) (fun _ h => h.elim) (fun k_ h => .inr h) HB.out hw0 (by simp) ?_;intro v1 w1 ho hb hg hat)
  obtain ⟨A1,c1,e1⟩ := Kd.R_slice ho
  subst e1
  go_ret
  exact ⟨A1,c1,rfl,by simpa using ho,hb,⟨hg.size,fun k hk _ => hg.block k hk (by simp [Value.ownBlock])⟩⟩
  | some ad =>
  obtain ⟨b,rfl⟩ := row_head_ HO.out
  have hPb : P0_ b := HO.out.1 b (by simp [Value.ownBlock])
  go_enter Tryz.func86,Tryz.ntmps86
  go_wp2_with ((with_reducible refine gblt_ (b := .append) (xs := #[.tmp 23,.tmp 24]) rfl ?_);at_builtin;refine Kd.R_append_rows (Kd.int .i64) (w0 := w0) w0.heap.size rfl (.tmp 23) (.tmp 24) 24 2 (.int .i64 0) 8 rfl Tryz.underlying24 info2 rfl (by decide) (by omega) (.slice (some ⟨b,0,none⟩) l0.length c0) l0 [x] _ _ _ (fun k_ => P0_ k_ ∨ w.heap.size ≤ k_) (fun _ => False) rfl rfl hR HX.out (fun _ _ h => h) (fun _ h => h.elim) (fun k_ h => .inr h) HB.out hw0 (by omega) ?_;intro v1 w1 ho hb hg hat)
  all_goals (
   obtain ⟨A1,c1,e1⟩ := Kd.R_slice ho
   subst e1
   rw [List.length_append,List.length_singleton] at *
   go_ret
   exact ⟨A1,c1,rfl,by simpa using ho,hb,⟨hg.size,fun k hk hn => hg.block k hk (fun he => hn (by injection he with he;rw [he];exact hPb))⟩⟩)
/-- The two copies of a row that takes a number in. -/
theorem ins_cells_ {W : World} {g e i : Nat} {cur : Array Value} {cs : List Value} {v : Value} (h : W.heap[g]? = some (.cells cur e (0, 0))) (hi : i ≤ cs.length) (hc : cs.length < cur.size) (hx : ∀ j (hj : j < cs.length), j < i → cur[j]? = some cs[j]) :
  ∃ cur' : Array Value,((W.setCells g (i + 1) (cs.drop i)).setCells g i [v]).heap[g]? = some (.cells cur' e (0,0)) ∧ cur'.size = cur.size ∧ ∀ j (hj : j < (cs.take i ++ [v] ++ cs.drop i).length),cur'[j]? = some (cs.take i ++ [v] ++ cs.drop i)[j] := by
 obtain ⟨c1,a1,a2,a3,a4⟩ := heap_setCells_ g (cs.drop i) (i + 1) W cur e h (by rw [List.length_drop];omega)
 obtain ⟨c2,b1,b2,b3,b4⟩ := heap_setCells_ g [v] i _ c1 e a1 (by rw [a2];simp;omega)
 refine ⟨c2,b1,by rw [b2,a2],fun j hj => ?_⟩
 rw [← List.getElem?_eq_getElem hj,List.append_assoc]
 by_cases h1 : j < i
 ·rw [b4 j (.inl h1),a4 j (.inl (by omega)),hx j (by omega) h1,List.getElem?_append_left (by rw [List.length_take];omega),List.getElem?_take_of_lt h1,List.getElem?_eq_getElem]
 ·have hti : (cs.take i).length = i := by rw [List.length_take];omega
  rw [List.getElem?_append_right (by omega),hti]
  by_cases h2 : j = i
  ·subst h2
   have := b3 0 (by simp)
   rw [Nat.add_zero] at this
   rw [this,Nat.sub_self];rfl
  ·rw [b4 j (.inr (by simp;omega))]
   obtain ⟨t,rfl⟩ : ∃ t,j = i + 1 + t := ⟨j - i - 1,by omega⟩
   rw [a3 t (by rw [List.length_drop];rw [List.length_append,List.length_append,hti,List.length_drop] at hj;simp at hj;omega),show i + 1 + t - i = t + 1 from by omega]
   rfl
set_option maxHeartbeats 8000000 in
set_option maxRecDepth 100000 in
theorem ins_shift_ (P0_ : Nat → Prop) (b : Nat) (c0 : Nat) (l0 : List Int) (i : Nat) (x : Int) (gv : Nat) (w0 w : World) (hB : Below w0.heap.size w0 w) (hP : ¬ P0_ gv) (hv : w.heap[gv]? = some (.cells #[.int .i64 x] 2 (0, 0))) (ho : (Kd.int .i64).R 2 w w0.heap.size P0_ (.slice (some ⟨b, 0, none⟩) l0.length c0) l0) (hs : l0.length < 17592186044415) (hi : i < l0.length) (hroom : l0.length + 1 ≤ c0) :
    Calls Tryz.prog 86 #[.slice (some ⟨b, 0, none⟩) l0.length c0, .int .i64 (i : Int), .slice (some ⟨gv, 0, none⟩) 1 1] w (insPost P0_ l0 i x w0 w) := by
 have hPb : P0_ b := ho.1 b (by simp [Value.ownBlock])
 have hgb : gv ≠ b := fun e_ => hP (e_ ▸ hPb)
 obtain ⟨cur,k1,k2,k3,k4,k5,k6,k7⟩ := cells_of_ints_ ho
 have hov : ∀ lb cb,(callFunc 126 #[.slice (some ⟨gv,0,none⟩) 1 1,.slice (some ⟨b,i + 1,none⟩) lb cb]).run Tryz.prog w = .ok (.value (.bool false)) w := fun lb cb => by
  rw [run_callFunc_extern Tryz.func126 (by kernel_rfl) (by kernel_rfl) (by kernel_rfl) (e := Extern.SlicesOverlaps.overlaps #[24,24] #[4]) (by kernel_rfl),
   Lib.run_overlaps_apart w 24 4 2 Tryz.underlying24 1 (fun w => by rfl) ⟨gv,0,none⟩ ⟨b,i + 1,none⟩ 1 1 lb cb hgb 2 2 1 cur.size (by simp [World.shape?,hv]) (by simp [World.shape?,k1]) (by omega) (blk_frozen hv 0) (blk_frozen hv 1)]
  rfl
 have hcl : (l0.map (Value.int .i64)).length = l0.length := List.length_map ..
 have h1c : ∀ v ∈ (l0.map (Value.int .i64)),v.oneCell' = true := fun v hv => by
  obtain ⟨y,_,rfl⟩ := List.mem_map.1 hv
  rfl
 have hcs : ∀ j v,(l0.map (Value.int .i64))[j]? = some v → w.cell? ⟨b,j,none⟩ = some v := fun j v hj => by
  rw [blk_cell k1]
  obtain ⟨h2,h3⟩ := List.getElem?_eq_some_iff.1 hj
  rw [hcl] at h2
  rw [k7 j h2,← h3]
  simp
 have hsp : ∀ j,j < l0.length + 1 → (w.cell? ⟨b,j,none⟩).isSome = true := fun j hj => by rw [blk_cell k1,Array.getElem?_eq_getElem (by omega)];rfl
 have hsz : (Tryz.prog.info? 2).map (·.size) = some 1 := by kernel_rfl
 have hdl : ((l0.map (Value.int .i64)).drop i).length = l0.length - i := by rw [List.length_drop,hcl]
 have hcp1 : ∀ ty dc sc,(Builtin.copy_ #[24,24] ty #[.slice (some ⟨b,i + 1,none⟩) (l0.length - i) dc,.slice (some ⟨b,i,none⟩) (l0.length + 1 - i) sc]).run Tryz.prog w.drew = .ok (goInt ((l0.map (Value.int .i64)).drop i).length) (w.drew.setCells b (i + 1) ((l0.map (Value.int .i64)).drop i)) := fun ty dc sc =>
  run_copy_cells w.drew _ _ ty 2 b (i + 1) (l0.length - i) dc ⟨b,i,none⟩ (l0.length + 1 - i) sc ((l0.map (Value.int .i64)).drop i) Tryz.underlying24 hsz (by rw [hdl];simp only [Nat.min_def];split <;> omega)
   (fun j v hj => by rw [addr_off_];exact hcs (i + j) v (by rwa [List.getElem?_drop] at hj))
   (fun j hj => hsp _ (by omega)) (fun j hj => blk_frozen k1 _) (fun v hv => h1c v (List.mem_of_mem_drop hv))
 obtain ⟨W1,hW1⟩ : ∃ W1,W1 = w.drew.setCells b (i + 1) ((l0.map (Value.int .i64)).drop i) := ⟨_,rfl⟩
 have hK1 : KeepBut w W1 b none := by rw [hW1];exact keep_setCells_ b _ _ _ (KeepBut.of_below (below_drew1 (Below.refl _ _)) b none)
 obtain ⟨c1,m1,m2,_,_⟩ := heap_setCells_ b ((l0.map (Value.int .i64)).drop i) (i + 1) w.drew cur 2 k1 (by rw [hdl];omega)
 rw [← hW1] at m1
 have hv1 : W1.heap[gv]? = some (.cells #[.int .i64 x] 2 (0,0)) := (hK1.2 gv (blk_lt hv) hgb (by simp)).trans hv
 have hcp2 : ∀ (W : World),(∀ x,W.cell? x = W1.cell? x) → (∀ x,W.frozen? x = W1.frozen? x) → ∀ ty dc,(Builtin.copy_ #[24,24] ty #[.slice (some ⟨b,i,none⟩) (l0.length + 1 - i) dc,.slice (some ⟨gv,0,none⟩) 1 1]).run Tryz.prog W = .ok (goInt 1) (W.setCells b i [.int .i64 x]) := fun W hWc hWf ty dc =>
  run_copy_cells W _ _ ty 2 b i (l0.length + 1 - i) dc ⟨gv,0,none⟩ 1 1 [.int .i64 x] Tryz.underlying24 hsz (by simp only [List.length_singleton,Nat.min_def];split <;> omega)
   (fun j v hj => by
    rw [addr_at_,hWc,blk_cell hv1]
    cases j with
    | zero => simpa using hj
    | succ j => simp at hj)
   (fun j hj => by rw [hWc,blk_cell m1,Array.getElem?_eq_getElem (by rw [m2];simp at hj;omega)];rfl) (fun j hj => by rw [hWf];exact blk_frozen m1 _) (fun v hv => by rw [List.mem_singleton.1 hv];rfl)
 rw [← hW1] at hcp1
 have hz2 : ¬ ((i : Int) = (l0.length : Int)) := by omega
 have hw1 : IntKind.i64.wrap ((i : Int) + 1) = (i : Int) + 1 := by rw [IntKind.wrap_i64];omega
 have hb1 : (0 : Int) ≤ (i : Int) + 1 := by omega
 have hin : i ≤ l0.length := by omega
 have htn : ((i : Int) + 1).toNat = i + 1 := by omega
 have hb2 : ¬ (c0 = i + 1) := by omega
 have hb3 : (i : Int) ≤ (l0.length : Int) + 1 := by omega
 have hb4 : ¬ (c0 = i) := by omega
 have hc63 : c0 ≤ 9223372036854775807 := by unfold maxLen at k4;omega
 have mixed : Tryz.prog.follows .mixedOrders = true := by kernel_rfl
 have HB := Aside0.mk hB
 have HV := Aside0.mk k7
 have HZ := Aside0.mk k5
 have K1 := Aside0.mk k1
 have GB := Aside0.mk k2
 have HM := Aside0.mk k4
 clear hB hP hv ho k1 k2 k3 k4 k5 k6 k7 hcs hsp h1c m1 m2 hv1 hK1
 go_enter Tryz.func86,Tryz.ntmps86
 go_wp2_with (simp only [hov])
 go_region_law_o (refine step_copy_runI rfl _ _ 24 24 rfl _ _ (by simp [Act.eval,Act.put]) (by simp [Act.eval,Act.put]) (hcp1 _ _ _) ?_)
 go_wp2_with (at_builtin;refine wpList_copy_runI _ rfl _ _ 24 24 rfl _ _ rfl rfl (hcp2 _ (fun _ => rfl) (fun _ => rfl) _ _) ?_)
 go_ret
 obtain ⟨cur',f1,f2,f3⟩ := ins_cells_ (W := w.drew) (g := b) (e := 2) (i := i) (cur := cur) (cs := l0.map (Value.int .i64)) (v := .int .i64 x) K1.out (by rw [hcl];omega) (by rw [hcl,HZ.out];omega) (fun j hj _ => by
  have hj' : j < l0.length := by rwa [hcl] at hj
  rw [HV.out j hj'];simp)
 have hnew : ((l0.take i ++ [x] ++ l0.drop i).map (Value.int .i64)) = (l0.map (Value.int .i64)).take i ++ [Value.int .i64 x] ++ (l0.map (Value.int .i64)).drop i := by simp
 have hlen : (l0.take i ++ [x] ++ l0.drop i).length = l0.length + 1 := by simp;omega
 refine ⟨some ⟨b,0,none⟩,c0,rfl,ints_of_cells_ (cur := cur') ?_ GB.out (.inl hPb) hroom HM.out (by rw [f2,HZ.out]) hlen (fun j hj => ?_),?_,?_⟩
 ·exact f1
 ·have hj2 : j < ((l0.map (Value.int .i64)).take i ++ [Value.int .i64 x] ++ (l0.map (Value.int .i64)).drop i).length := by rw [← hnew,List.length_map];exact hj
  have e1 : ((l0.take i ++ [x] ++ l0.drop i).map (Value.int .i64))[j]? = some (.int .i64 (l0.take i ++ [x] ++ l0.drop i)[j]) := by rw [List.getElem?_map,List.getElem?_eq_getElem hj];rfl
  rw [hnew,List.getElem?_eq_getElem hj2] at e1
  rw [f3 j hj2]
  exact e1
 ·exact below_setCells_ b _ _ _ (below_setCells_ b _ _ _ (below_drew1 HB.out) GB.out) GB.out
 ·have hk := keep_setCells_ b [Value.int .i64 x] i _ (keep_setCells_ b ((l0.map (Value.int .i64)).drop i) (i + 1) w.drew (KeepBut.of_below (below_drew1 (Below.refl _ w)) b none))
  exact ⟨hk.1,fun k hk1 hk2 => hk.2 k hk1 (fun e_ => hk2 (e_ ▸ hPb)) (by simp)⟩
theorem ins_cells2_ {W : World} {g e i : Nat} {cur : Array Value} {cs : List Value} {v : Value} (h : W.heap[g]? = some (.cells cur e (0, 0))) (hi : i ≤ cs.length) (hc : cs.length < cur.size) (hx : ∀ j (hj : j < cs.length), j < i → cur[j]? = some cs[j]) :
  ∃ cur' : Array Value,(((W.setCells g i [v]).drew).setCells g (i + 1) (cs.drop i)).heap[g]? = some (.cells cur' e (0,0)) ∧ cur'.size = cur.size ∧ ∀ j (hj : j < (cs.take i ++ [v] ++ cs.drop i).length),cur'[j]? = some (cs.take i ++ [v] ++ cs.drop i)[j] := by
 obtain ⟨c1,a1,a2,a3,a4⟩ := heap_setCells_ g [v] i W cur e h (by simp;omega)
 obtain ⟨c2,b1,b2,b3,b4⟩ := heap_setCells_ g (cs.drop i) (i + 1) ((W.setCells g i [v]).drew) c1 e a1 (by rw [a2,List.length_drop];omega)
 refine ⟨c2,b1,by rw [b2,a2],fun j hj => ?_⟩
 rw [← List.getElem?_eq_getElem hj,List.append_assoc]
 have hti : (cs.take i).length = i := by rw [List.length_take];omega
 by_cases h1 : j < i
 ·rw [b4 j (.inl (by omega)),a4 j (.inl h1),hx j (by omega) h1,List.getElem?_append_left (by omega),List.getElem?_take_of_lt h1,List.getElem?_eq_getElem]
 ·rw [List.getElem?_append_right (by omega),hti]
  by_cases h2 : j = i
  ·subst h2
   have := a3 0 (by simp)
   rw [Nat.add_zero] at this
   rw [b4 j (.inl (by omega)),this,Nat.sub_self];rfl
  ·obtain ⟨t,rfl⟩ : ∃ t,j = i + 1 + t := ⟨j - i - 1,by omega⟩
   rw [b3 t (by rw [List.length_drop];rw [List.length_append,List.length_append,hti,List.length_drop] at hj;simp at hj;omega),show i + 1 + t - i = t + 1 from by omega]
   rfl
set_option maxHeartbeats 8000000 in
set_option maxRecDepth 100000 in
theorem ins_grow_ (P0_ : Nat → Prop) (b : Nat) (c0 : Nat) (l0 : List Int) (i : Nat) (x : Int) (gv : Nat) (w0 w : World) (hB : Below w0.heap.size w0 w) (hv : w.heap[gv]? = some (.cells #[.int .i64 x] 2 (0, 0))) (ho : (Kd.int .i64).R 2 w w0.heap.size P0_ (.slice (some ⟨b, 0, none⟩) l0.length c0) l0) (hs : l0.length < 17592186044415) (hi : i < l0.length) (hroom : c0 < l0.length + 1) :
    Calls Tryz.prog 86 #[.slice (some ⟨b, 0, none⟩) l0.length c0, .int .i64 (i : Int), .slice (some ⟨gv, 0, none⟩) 1 1] w (insPost P0_ l0 i x w0 w) := by
 obtain ⟨cur,k1,k2,k3,k4,k5,k6,k7⟩ := cells_of_ints_ ho
 obtain ⟨i0,hi0,hz0,hzs,hzb⟩ := info_parts info2
 obtain ⟨cs,hcs0⟩ : ∃ cs,cs = l0.map (Value.int .i64) := ⟨_,rfl⟩
 have hcl : cs.length = l0.length := by rw [hcs0];exact List.length_map ..
 have h1c : ∀ v ∈ cs,v.oneCell' = true := fun v hv => by
  rw [hcs0] at hv
  obtain ⟨y,_,rfl⟩ := List.mem_map.1 hv
  rfl
 have hcs : ∀ j v,cs[j]? = some v → w.cell? ⟨b,j,none⟩ = some v := fun j v hj => by
  rw [blk_cell k1]
  rw [hcs0] at hj
  obtain ⟨h2,h3⟩ := List.getElem?_eq_some_iff.1 hj
  rw [List.length_map] at h2
  rw [k7 j h2,← h3]
  simp
 have hsz : (Tryz.prog.info? 2).map (·.size) = some 1 := by kernel_rfl
 have hbw : b < w.heap.size := blk_lt k1
 have hvw : gv < w.heap.size := blk_lt hv
 have hkk : (l0.length : Int) + 1 - (i : Int) = ((l0.length + 1 - i : Nat) : Int) := by omega
 have hik : i + (l0.length + 1 - i) = l0.length + 1 := by omega
 have hold : (Builtin.firstCells i0.size i (.slice (some ⟨b,0,none⟩) i c0)).run Tryz.prog w.drew = .ok (cs.take i).toArray w.drew := by
  rw [hzs]
  exact run_firstCells_some w.drew 1 i ⟨b,0,none⟩ i c0 (cs.take i) (by rw [List.length_take];omega) (fun j v hj => by
   rw [addr_at_]
   rw [List.getElem?_take] at hj
   split at hj
   ·exact hcs j v hj
   ·cases hj)
 obtain ⟨G,hG⟩ : ∃ G,G = grownCap w (l0.length + 1) c0 2 := ⟨_,rfl⟩
 obtain ⟨ROW,hROW⟩ : ∃ ROW : Array Value,ROW = (cs.take i).toArray ++ Builtin.zeroCells (Value.int .i64 0).cells (l0.length + 1 - i) ++ Builtin.zeroCells (Value.int .i64 0).cells (G - (l0.length + 1)) := ⟨_,rfl⟩
 have hrz : ∀ ty,(Builtin.append_ #[24,3] ty #[.slice (some ⟨b,0,none⟩) i c0,.int .i64 ((l0.length : Int) + 1 - (i : Int))]).run Tryz.prog w = .ok (.slice (some ⟨w.heap.size,0,none⟩) (l0.length + 1) G) (w.drew.alloc (.cells ROW 2)) := fun ty => by
  have h := Lib.run_append_grow_zeros w 24 3 ty 2 i0 _ .i64 .i64 Tryz.underlying24 Tryz.underlying3 hi0 hz0 (some ⟨b,0,none⟩) i c0 (cs.take i) hold (l0.length + 1 - i) (by omega) (by omega) (by omega) (by omega) (by rw [hzb];omega) (by rw [hzb,hik];exact growslice_fits hroom (by omega))
  rw [hik] at h
  rw [hkk,hROW,hG]
  exact h
 have hGn : l0.length + 1 ≤ G := by rw [hG];exact grownCap_ge w _ _ _
 have hGm : G ≤ maxLen := by rw [hG];exact grownCap_le_maxLen w (l0.length + 1) c0 2 (by unfold maxLen;omega)
 have hRs : ROW.size = G := by
  rw [hROW]
  simp [Builtin.zeroCells,Value.cells]
  omega
 have hRx : ∀ j (hj : j < cs.length),j < i → ROW[j]? = some cs[j] := fun j hj hji => by
  rw [hROW,Array.getElem?_append_left (by simp [Builtin.zeroCells];omega),Array.getElem?_append_left (by simp;omega)]
  rw [List.getElem?_toArray,List.getElem?_take_of_lt hji,List.getElem?_eq_getElem hj]
 obtain ⟨W1,hW1⟩ : ∃ W1,W1 = w.drew.alloc (.cells ROW 2) := ⟨_,rfl⟩
 have hN : W1.heap[w.heap.size]? = some (.cells ROW 2 (0,0)) := by rw [hW1];exact blk_new w.drew _
 have hO : ∀ k,k < w.heap.size → W1.heap[k]? = w.heap[k]? := fun k hk => by rw [hW1];exact (below_alloc (below_drew1 (Below.refl _ w)) _).block k hk
 have hb1 : W1.heap[b]? = some (.cells cur 2 (0,0)) := (hO b hbw).trans k1
 have hv1 : W1.heap[gv]? = some (.cells #[.int .i64 x] 2 (0,0)) := (hO gv hvw).trans hv
 have hcpA : ∀ (W : World),(∀ x,W.cell? x = W1.cell? x) → (∀ x,W.frozen? x = W1.frozen? x) → ∀ ty dc,(Builtin.copy_ #[24,24] ty #[.slice (some ⟨w.heap.size,i,none⟩) (l0.length + 1 - i) dc,.slice (some ⟨gv,0,none⟩) 1 1]).run Tryz.prog W = .ok (goInt 1) (W.setCells w.heap.size i [.int .i64 x]) := fun W hWc hWf ty dc =>
  run_copy_cells W _ _ ty 2 w.heap.size i (l0.length + 1 - i) dc ⟨gv,0,none⟩ 1 1 [.int .i64 x] Tryz.underlying24 hsz (by simp only [List.length_singleton,Nat.min_def];split <;> omega)
   (fun j v hj => by
    rw [addr_at_,hWc,blk_cell hv1]
    cases j with
    | zero => simpa using hj
    | succ j => simp at hj)
   (fun j hj => by rw [hWc,blk_cell hN,Array.getElem?_eq_getElem (by rw [hRs];simp at hj;omega)];rfl) (fun j hj => by rw [hWf];exact blk_frozen hN _) (fun v hv => by rw [List.mem_singleton.1 hv];rfl)
 have hbN : b ≠ w.heap.size := by omega
 have hdl : (cs.drop i).length = l0.length - i := by rw [List.length_drop,hcl]
 obtain ⟨c1,m1,m2,_,_⟩ := heap_setCells_ w.heap.size [.int .i64 x] i W1 ROW 2 hN (by rw [hRs];simp;omega)
 have hK1 : KeepBut W1 (W1.setCells w.heap.size i [.int .i64 x]) w.heap.size none := keep_setCells_ _ _ _ _ (KeepBut.refl _ _ _)
 have hb2 : (W1.setCells w.heap.size i [.int .i64 x]).heap[b]? = some (.cells cur 2 (0,0)) := (hK1.2 b (blk_lt hb1) hbN (by simp)).trans hb1
 have hcpB : ∀ (W : World),(∀ y,W.cell? y = (W1.setCells w.heap.size i [.int .i64 x]).cell? y) → (∀ y,W.frozen? y = (W1.setCells w.heap.size i [.int .i64 x]).frozen? y) → ∀ ty dc sc,(Builtin.copy_ #[24,24] ty #[.slice (some ⟨w.heap.size,i + 1,none⟩) (l0.length - i) dc,.slice (some ⟨b,i,none⟩) (l0.length - i) sc]).run Tryz.prog W = .ok (goInt (cs.drop i).length) (W.setCells w.heap.size (i + 1) (cs.drop i)) := fun W hWc hWf ty dc sc =>
  run_copy_cells W _ _ ty 2 w.heap.size (i + 1) (l0.length - i) dc ⟨b,i,none⟩ (l0.length - i) sc (cs.drop i) Tryz.underlying24 hsz (by rw [hdl];simp only [Nat.min_def];split <;> omega)
   (fun j v hj => by
    rw [addr_off_,hWc,blk_cell hb2,← blk_cell k1]
    exact hcs (i + j) v (by rwa [List.getElem?_drop] at hj))
   (fun j hj => by rw [hWc,blk_cell m1,Array.getElem?_eq_getElem (by rw [m2,hRs];omega)];rfl) (fun j hj => by rw [hWf];exact blk_frozen m1 _) (fun v hv => h1c v (List.mem_of_mem_drop hv))
 subst hW1
 have hE1 : ∀ y,((w.alloc (.cells ROW 2)).drew).cell? y = (w.drew.alloc (.cells ROW 2)).cell? y := fun y => rfl
 have hE2 : ∀ y,((w.alloc (.cells ROW 2)).drew).frozen? y = (w.drew.alloc (.cells ROW 2)).frozen? y := fun y => rfl
 have hF1 : ∀ y,(((w.alloc (.cells ROW 2)).drew.setCells w.heap.size i [.int .i64 x]).drew).cell? y = ((w.drew.alloc (.cells ROW 2)).setCells w.heap.size i [.int .i64 x]).cell? y := fun y => rfl
 have hF2 : ∀ y,(((w.alloc (.cells ROW 2)).drew.setCells w.heap.size i [.int .i64 x]).drew).frozen? y = ((w.drew.alloc (.cells ROW 2)).setCells w.heap.size i [.int .i64 x]).frozen? y := fun y => rfl
 have hz2 : ¬ ((i : Int) = (l0.length : Int)) := by omega
 have hz3 : (c0 : Int) < (l0.length : Int) + 1 := by omega
 have hw1 : IntKind.i64.wrap ((i : Int) + 1) = (i : Int) + 1 := by rw [IntKind.wrap_i64];omega
 have hbb1 : (0 : Int) ≤ (i : Int) + 1 := by omega
 have hin : i ≤ l0.length := by omega
 have htn : ((i : Int) + 1).toNat = i + 1 := by omega
 have hb3 : (i : Int) ≤ (l0.length : Int) := by omega
 have hG63 : G ≤ 9223372036854775807 := by unfold maxLen at hGm;omega
 have hGi : ¬ (G = i) := by omega
 have hGim : ¬ (G = i + 1) := by omega
 have hci : ¬ (c0 = i) := by omega
 have hnc : l0.length ≤ c0 := k3
 have hic : (i : Int) ≤ (c0 : Int) := by omega
 have mixed : Tryz.prog.follows .mixedOrders = true := by kernel_rfl
 have HB := Aside0.mk hB
 have HNN := Aside0.mk hN
 have HRS := Aside0.mk hRs
 have HRX := Aside0.mk hRx
 have HGM := Aside0.mk hGm
 have HGN := Aside0.mk hGn
 have HCS := Aside0.mk hcs0
 clear hB hv ho k1 k2 k3 k4 k5 k6 k7 hcs h1c hkk hik hold hN hO hb1 hv1 hK1 hb2 m1 m2 hROW hG hRs hRx hbw hvw
 go_enter Tryz.func86,Tryz.ntmps86
 go_wp2_with (first
    | (at_builtin; refine Lib.wpList_append_run _ rfl _ _ _ _ rfl _ _ rfl rfl _ _ (hrz _) ?_)
    | (at_builtin; refine wpList_copy_runI _ rfl _ _ 24 24 rfl _ _ rfl rfl (hcpA _ hE1 hE2 _ _) ?_)
    | (at_builtin; refine wpList_copy_runI _ rfl _ _ 24 24 rfl _ _ rfl rfl (hcpB _ (fun _ => rfl) (fun _ => rfl) _ _ _) ?_))
 go_region_law_o (refine step_copy_runI rfl _ _ 24 24 rfl (.slice (some ⟨w.heap.size,i + 1,none⟩) (l0.length - i) (G - (i + 1))) (.slice (some ⟨b,i,none⟩) (l0.length - i) (c0 - i)) (by simp [Act.eval,Act.put]) (by simp [Act.eval,Act.put]) (hcpB _ hF1 hF2 3 (G - (i + 1)) (c0 - i)) ?_)
 go_wp2
 go_ret
 subst hcs0
 obtain ⟨cur',f1,f2,f3⟩ := ins_cells2_ (W := (w.alloc (.cells ROW 2)).drew) (g := w.heap.size) (e := 2) (i := i) (cur := ROW) (cs := l0.map (Value.int .i64)) (v := .int .i64 x) HNN.out (by rw [List.length_map];omega) (by rw [List.length_map,HRS.out];omega) HRX.out
 have hnew : ((l0.take i ++ [x] ++ l0.drop i).map (Value.int .i64)) = (l0.map (Value.int .i64)).take i ++ [Value.int .i64 x] ++ (l0.map (Value.int .i64)).drop i := by simp
 have hlen : (l0.take i ++ [x] ++ l0.drop i).length = l0.length + 1 := by simp;omega
 have hbase : w0.heap.size ≤ w.heap.size := HB.out.size
 refine ⟨some ⟨w.heap.size,0,none⟩,G,rfl,ints_of_cells_ (cur := cur') f1 hbase (.inr (Nat.le_refl _)) HGN.out HGM.out (by rw [f2,HRS.out]) hlen (fun j hj => ?_),?_,?_⟩
 ·have hj2 : j < ((l0.map (Value.int .i64)).take i ++ [Value.int .i64 x] ++ (l0.map (Value.int .i64)).drop i).length := by rw [← hnew,List.length_map];exact hj
  have e1 : ((l0.take i ++ [x] ++ l0.drop i).map (Value.int .i64))[j]? = some (.int .i64 (l0.take i ++ [x] ++ l0.drop i)[j]) := by rw [List.getElem?_map,List.getElem?_eq_getElem hj];rfl
  rw [hnew,List.getElem?_eq_getElem hj2] at e1
  rw [f3 j hj2]
  exact e1
 ·exact below_setCells_ w.heap.size _ _ _ (below_drew1 (below_setCells_ w.heap.size _ _ _ (below_drew1 (below_alloc HB.out _)) hbase)) hbase
 ·have hk : Below w.heap.size w ((((w.alloc (.cells ROW 2)).drew.setCells w.heap.size i [.int .i64 x]).drew).setCells w.heap.size (i + 1) ((l0.map (Value.int .i64)).drop i)) := below_setCells_ w.heap.size _ _ _ (below_drew1 (below_setCells_ w.heap.size _ _ _ (below_drew1 (below_alloc (Below.refl _ _) _)) (Nat.le_refl _))) (Nat.le_refl _)
  exact ⟨hk.size,fun k hk1 _ => hk.block k hk1⟩
/-! ### slices_Insert_int64: all roads -/
theorem slices_Insert_int64.calls (P0_ : Nat → Prop) (A0 : Option Addr) (c0 : Nat) (l0 : List Int) (i : Nat) (x : Int) (gv : Nat) (w0 w : World) (hB : Below w0.heap.size w0 w) (hP : ¬ P0_ gv) (hv : w.heap[gv]? = some (.cells #[.int .i64 x] 2 (0, 0))) (ho : (Kd.int .i64).R 2 w w0.heap.size P0_ (.slice A0 l0.length c0) l0) (hs : l0.length < 17592186044415) (hi : i ≤ l0.length) :
    Calls Tryz.prog 86 #[.slice A0 l0.length c0, .int .i64 (i : Int), .slice (some ⟨gv, 0, none⟩) 1 1] w (insPost P0_ l0 i x w0 w) := by
 by_cases h : i = l0.length
 ·subst h
  exact ins_end_ P0_ A0 c0 l0 x gv w0 w hB hv ho hs
 ·obtain ⟨b,c,e,_⟩ := Kd.R_form ho (by omega)
  injection e with e1 e2 e3
  subst e1
  subst e3
  by_cases hr : l0.length + 1 ≤ c0
  ·exact ins_shift_ P0_ b c0 l0 i x gv w0 w hB hP hv ho hs (by omega) hr
  ·exact ins_grow_ P0_ b c0 l0 i x gv w0 w hB hv ho hs (by omega) (by omega)

/-! ### impl_Machine_clear: function 40 -/
theorem hold_40 {p : Prop} (h : Aside0 p) : p := h.out
def impl_Machine_clear.f (k : Nat) (p2 : List S50) (p3 : List Int) (a1 a2 : Int) (d : Bool) : Option (List S50 × List Int) := (slices_BinarySearch_int64_int64.f k p3 a1).bind fun t => if d = true then (if t.2 = true then some ((p2.filter fun x => !hits a1 a2 x), p3) else if 0 ≤ t.1 ∧ t.1 ≤ (p3.length : Int) ∧ p3.length < 17592186044415 then some ((p2.filter fun x => !hits a1 a2 x), p3.take t.1.toNat ++ [a1] ++ p3.drop t.1.toNat) else none) else some ((p2.filter fun x => !hits a1 a2 x), p3)
set_option maxHeartbeats 8000000 in
set_option maxRecDepth 100000 in
theorem impl_Machine_clear.calls (k : Nat) (P2_ P3_ : Nat → Prop) (gb : Nat) (b : Bool) (s1 : Value) (A2 : Option Addr) (c2 : Nat) (p2 : List S50) (A3 : Option Addr) (c3 : Nat) (p3 : List Int) (a1 a2 : Int) (d : Bool) (r2 : List S50) (r3 : List Int) (w0 w : World) (hB : Below w0.heap.size w0 w) (hg0 : w0.heap.size ≤ gb) (hx : w.heap[gb]? = some (.cells #[.bool b, s1, .slice A2 p2.length c2, .slice A3 p3.length c3] 31 (0, 0))) (hP2 : ¬ P2_ gb) (hP3 : ¬ P3_ gb) (h23 : ∀ k, P2_ k → P3_ k → False) (ho2 : Kd.S k50 50 w w0.heap.size P2_ (.slice A2 p2.length c2) p2) (ho3 : (Kd.int .i64).R 2 w w0.heap.size P3_ (.slice A3 p3.length c3) p3) (h : impl_Machine_clear.f k p2 p3 a1 a2 d = some (r2, r3)) :
    Calls Tryz.prog 40 #[.pointer (some ⟨gb, 0, none⟩), .int .i64 a1, .int .i64 a2, .bool d] w fun e w' => e = .returned (.tuple #[]) ∧ ∃ (A4 : Option Addr) (c4 : Nat) (A5 : Option Addr) (c5 : Nat), w'.heap[gb]? = some (.cells #[.bool b, s1, .slice A4 r2.length c4, .slice A5 r3.length c5] 31 (0, 0)) ∧ Kd.S k50 50 w' w0.heap.size P2_ (.slice A4 r2.length c4) r2 ∧ (Kd.int .i64).R 2 w' w0.heap.size (fun k_ => P3_ k_ ∨ w.heap.size ≤ k_) (.slice A5 r3.length c5) r3 ∧ Below w0.heap.size w0 w' ∧ Kept w w' (fun k_ => (P2_ k_ ∨ P3_ k_) ∨ k_ = gb) := by
 have hu := Tryz.underlying31
 have hu2 := Tryz.underlying50
 obtain ⟨⟨t1,t2⟩,E0,h1⟩ := Option.bind_eq_some_iff.1 h
 clear h
 have F0 := Aside0.mk E0
 have H1 := Aside0.mk h1
 clear E0 h1
 have BG := Aside0.mk hx
 have GG := Aside0.mk hg0
 have HB := Aside0.mk hB
 have P2 := Aside0.mk hP2
 have P3 := Aside0.mk hP3
 have PD := Aside0.mk h23
 have T2 := Aside0.mk (Kd.S_mono (ok' := fun k_ => P2_ k_ ∧ k_ < w.heap.size) (Kd.S_bound ho2) (fun _ h_ => ⟨h_.1,h_.2.2.1⟩))
 have T3 := Aside0.mk (Kd.R_mono (ok' := fun k_ => P3_ k_ ∧ k_ < w.heap.size) (Kd.R_bound ho3) (fun _ h_ => ⟨h_.1,h_.2.2.1⟩))
 have HK := Aside0.mk (Kept.refl w (fun k_ => (P2_ k_ ∨ P3_ k_) ∨ k_ = gb))
 have LG := Aside0.mk (blk_lt hx)
 clear hx hg0 hB hP2 hP3 h23 ho2 ho3
 go_enter Tryz.func40,Tryz.ntmps40
 go_wp2_with ((with_reducible refine gate_dst (N := 5) rfl ?_);refine bx_ 5 #[.int .i64 a1] 2 ?_;intro g1 hg w1 hbox hb;have hge := Aside0.mk (Nat.le_of_eq hg.symm);clear hg;refine hold_40 ?_)
 refine ⟨?_⟩
 have BG := Aside0.mk (blk_below BG.out hb)
 have T2 := Aside0.mk (Kd.S_below T2.out hb)
 have T3 := Aside0.mk (Kd.R_below T3.out hb)
 have HB := Aside0.mk (below_step HB.out hb)
 have HK := Aside0.mk (HK.out.below hb)
 have X1 := Aside0.mk hbox
 have N1 := hge
 clear hbox hb hge
 go_wp2_with ((with_reducible refine gate_dst (N := 6) rfl ?_);refine bx_ 6 #[.int .i64 a2] 2 ?_;intro g2 hg w2 hbox hb;have hge := Aside0.mk (Nat.le_of_eq hg.symm);clear hg;refine hold_40 ?_)
 refine ⟨?_⟩
 have N2 := Aside0.mk (Nat.le_trans HK.out.1 hge.out)
 have BG := Aside0.mk (blk_below BG.out hb)
 have T2 := Aside0.mk (Kd.S_below T2.out hb)
 have T3 := Aside0.mk (Kd.R_below T3.out hb)
 have HB := Aside0.mk (below_step HB.out hb)
 have HK := Aside0.mk (HK.out.below hb)
 have X1 := Aside0.mk (blk_below X1.out hb)
 have X2 := Aside0.mk hbox
 clear hbox hb hge
 have hcgb2_0 : w2.cell? ⟨gb,0,none⟩ = some (.bool b) := (blk_cell BG.out 0).trans rfl
 have hcgb2_1 : w2.cell? ⟨gb,1,none⟩ = some (s1) := (blk_cell BG.out 1).trans rfl
 have hcgb2_2 : w2.cell? ⟨gb,2,none⟩ = some (.slice A2 p2.length c2) := (blk_cell BG.out 2).trans rfl
 have hcgb2_3 : w2.cell? ⟨gb,3,none⟩ = some (.slice A3 p3.length c3) := (blk_cell BG.out 3).trans rfl
 go_wp2_with ((with_reducible refine gcal_ (f := 83) rfl ?_);refine goesL_ (some 16) rfl rfl Tryz.func83 (by kernel_rfl) rfl #[.slice A2 p2.length c2,.func (.func 84) #[] #[.pointer (some ⟨g1,0,none⟩),.pointer (some ⟨g2,0,none⟩)]] rfl (by (try simp only [List.map_toArray,List.map_cons,List.map_nil]);first|done|rfl) ?_;refine (slices_DeleteFunc_Record.calls (fun k_ => P2_ k_ ∧ k_ < w.heap.size) A2 c2 p2 g1 g2 a1 a2 w0 _ HB.out (fun h_ => absurd h_.2 (Nat.not_lt.2 N1.out)) (fun h_ => absurd h_.2 (Nat.not_lt.2 N2.out)) ((blk_cell X1.out 0).trans rfl) ((blk_cell X2.out 0).trans rfl) T2.out).mono ?_;rintro e w3 ⟨A4,c4,rfl,S,B,K⟩;refine ⟨_,rfl,?_⟩;refine hold_40 ?_)
 refine ⟨?_⟩
 have T2 := Aside0.mk S
 have T3 := Aside0.mk (Kd.R_kept T3.out K (fun k_ hk_ hs_ => PD.out k_ hs_.1 hk_.1))
 have HB := Aside0.mk B
 have HK := Aside0.mk (HK.out.then_ K (fun _ h_ => .inl (.inl (.inl h_.1))))
 have X1 := Aside0.mk (blk_kept X1.out K (fun h_ => absurd h_.2 (Nat.not_lt.2 N1.out)))
 have BG := Aside0.mk (blk_kept BG.out K (fun h_ => P2.out h_.1))
 clear S B K X2 N2 hcgb2_0 hcgb2_1 hcgb2_2 hcgb2_3
 have hcgb3_0 : w3.cell? ⟨gb,0,none⟩ = some (.bool b) := (blk_cell BG.out 0).trans rfl
 have hcgb3_1 : w3.cell? ⟨gb,1,none⟩ = some (s1) := (blk_cell BG.out 1).trans rfl
 have hcgb3_2 : w3.cell? ⟨gb,2,none⟩ = some (.slice A2 p2.length c2) := (blk_cell BG.out 2).trans rfl
 have hcgb3_3 : w3.cell? ⟨gb,3,none⟩ = some (.slice A3 p3.length c3) := (blk_cell BG.out 3).trans rfl
 have hfgb3_2 := blk_frozen BG.out 2
 go_upto_region 2 with (fail)
 have n0_ : Aside0 ((w3.setCell ⟨gb,2,none⟩ (.slice A4 (p2.filter fun x => !hits a1 a2 x).length c4)).heap[gb]? = some (.cells #[.bool b,s1,.slice A4 (p2.filter fun x => !hits a1 a2 x).length c4,.slice A3 p3.length c3] 31 (0,0))) := ⟨by refine blk_put (cs := #[.bool b,s1,.slice A2 p2.length c2,.slice A3 p3.length c3]) ?_ 2 _ rfl;exact BG.out⟩
 have n1_ := Aside0.mk (Kd.S_far (p := ⟨gb,2,none⟩) T2.out (fun k_ h_ e_ => P2.out (show P2_ gb from (show k_ = gb from e_) ▸ h_.1)) (.slice A4 (p2.filter fun x => !hits a1 a2 x).length c4))
 have n2_ := Aside0.mk (Kd.R_far (p := ⟨gb,2,none⟩) T3.out (fun k_ h_ e_ => P3.out (show P3_ gb from (show k_ = gb from e_) ▸ h_.1)) (.slice A4 (p2.filter fun x => !hits a1 a2 x).length c4))
 have n3_ : Aside0 (Below w0.heap.size w0 (w3.setCell ⟨gb,2,none⟩ (.slice A4 (p2.filter fun x => !hits a1 a2 x).length c4))) := ⟨below_set HB.out GG.out⟩
 have n4_ := Aside0.mk (HK.out.setCell (p := ⟨gb,2,none⟩) (.inl (.inr rfl)) (.slice A4 (p2.filter fun x => !hits a1 a2 x).length c4))
 have n5_ : Aside0 ((w3.setCell ⟨gb,2,none⟩ (.slice A4 (p2.filter fun x => !hits a1 a2 x).length c4)).heap[g1]? = some (.cells #[.int .i64 a1] 2 (0,0))) := ⟨blk_far X1.out (Nat.ne_of_gt (Nat.lt_of_lt_of_le LG.out N1.out)) _⟩
 clear BG T2 T3 HB HK X1 hcgb3_0 hcgb3_1 hcgb3_2 hcgb3_3 hfgb3_2
 generalize (w3.setCell ⟨gb,2,none⟩ (.slice A4 (p2.filter fun x => !hits a1 a2 x).length c4)) = w4 at n0_ n1_ n2_ n3_ n4_ n5_ ⊢
 have BG := n0_
 have T2 := n1_
 have T3 := n2_
 have HB := n3_
 have HK := n4_
 have X1 := n5_
 clear n0_ n1_ n2_ n3_ n4_ n5_
 have B : Below w4.heap.size w4 w4.drew := below_drew1 (Below.refl _ _)
 have BG := Aside0.mk (blk_below BG.out B)
 have T2 := Aside0.mk (Kd.S_below T2.out B)
 have T3 := Aside0.mk (Kd.R_below T3.out B)
 have HB := Aside0.mk (below_step HB.out B)
 have HK := Aside0.mk (HK.out.below B)
 have X1 := Aside0.mk (blk_below X1.out B)
 clear B
 refine start_ (n := 11) (S := fun w' => w'.cell? ⟨gb,0,none⟩ = some (.bool b) ∧ w'.cell? ⟨gb,1,none⟩ = some (s1) ∧ w'.cell? ⟨gb,2,none⟩ = some (.slice A4 (p2.filter fun x => !hits a1 a2 x).length c4) ∧ w'.cell? ⟨gb,3,none⟩ = some (.slice A3 p3.length c3) ∧ w'.cell? ⟨g1,0,none⟩ = some (.int .i64 a1)) (ds := []) #[false,false,false,false,false,false,false,false,false,false,false] (by kernel_rfl) rfl rfl ⟨(blk_cell BG.out 0).trans rfl,(blk_cell BG.out 1).trans rfl,(blk_cell BG.out 2).trans rfl,(blk_cell BG.out 3).trans rfl,(blk_cell X1.out 0).trans rfl⟩ (fun hHeld => ?_)
 generalize w4.drew = wc at BG X1 T2 T3 HB HK hHeld ⊢
 refine pure_ (i := 0) (N := some 20) (v := ?_) (a' := ?_) #[true,false,false,false,false,false,false,false,false,false,false] rfl rfl (by kernel_rfl) (fun _ _ _ h => h) (Or.inl ⟨by rfl,?_⟩) ?_ ?_
 rotate_left
 ·intro w'
  go_simp
  with_reducible rfl
 rotate_left
 ·simp only [Act.put,q1,q2,q3,i64_w,i32_w]
  rfl
 refine pure_ (i := 1) (N := some 21) (v := ?_) (a' := ?_) #[true,true,false,false,false,false,false,false,false,false,false] rfl rfl (by kernel_rfl) (fun _ _ _ h => h) (Or.inl ⟨by rfl,?_⟩) ?_ ?_
 rotate_left
 ·intro w'
  go_simp
  with_reducible rfl
 rotate_left
 ·simp only [Act.put,q1,q2,q3,i64_w,i32_w]
  rfl
 refine pure_ (i := 2) (N := some 22) (v := ?_) (a' := ?_) #[true,true,true,false,false,false,false,false,false,false,false] rfl rfl (by kernel_rfl) (fun _ _ _ h => h) (Or.inl ⟨by rfl,?_⟩) ?_ ?_
 rotate_left
 ·intro w'
  go_simp
  with_reducible rfl
 rotate_left
 ·simp only [Act.put,q1,q2,q3,i64_w,i32_w]
  rfl
 refine take_ (i := 3) (N := some 23) (v := ?_) (a' := ?_) #[true,true,true,true,false,false,false,false,false,false,false] rfl rfl (by kernel_rfl) (fun _ _ _ h => h) (Or.inl ⟨by rfl,?_⟩) hHeld ?_ ?_
 rotate_left
 ·rintro w' ⟨s0,s1,s2,s3,s4⟩
  go_simp
  with_reducible rfl
 rotate_left
 ·simp only [Act.put,q1,q2,q3,i64_w,i32_w]
  rfl
 refine take_ (i := 4) (N := some 24) (v := ?_) (a' := ?_) #[true,true,true,true,true,false,false,false,false,false,false] rfl rfl (by kernel_rfl) (fun _ _ _ h => h) (Or.inl ⟨by rfl,?_⟩) hHeld ?_ ?_
 rotate_left
 ·rintro w' ⟨s0,s1,s2,s3,s4⟩
  go_simp
  with_reducible rfl
 rotate_left
 ·simp only [Act.put,q1,q2,q3,i64_w,i32_w]
  rfl
 refine one_ (i := 5) (N := some 25) #[true,true,true,true,true,true,false,false,false,false,false] rfl rfl (by kernel_rfl) (by decide) (fun K hK => ?_)
 refine goes_ Tryz.func85 (by kernel_rfl) rfl #[.slice A3 p3.length c3,.int .i64 a1] (by rfl) rfl rfl (by (try simp only [List.map_toArray,List.map_cons,List.map_nil]);first|done|rfl) ?_
 refine (slices_BinarySearch_int64_int64.calls k A3 c3 p3 a1 t1 t2 _ (Kd.R_reads' T3.out).2.2 (Kd.R_reads' T3.out).2.1 F0.out).mono ?_
 rintro e w5 ⟨rfl,B0⟩
 refine ⟨_,rfl,?_⟩
 have B := B0.below
 have BG := Aside0.mk (blk_below BG.out B)
 have T2 := Aside0.mk (Kd.S_below T2.out B)
 have T3 := Aside0.mk (Kd.R_below T3.out B)
 have HB := Aside0.mk (below_step HB.out B)
 have HK := Aside0.mk (HK.out.below B)
 have X1 := Aside0.mk (blk_below X1.out B)
 clear B B0
 refine hK.out _ _ ⟨(blk_cell BG.out 0).trans rfl,(blk_cell BG.out 1).trans rfl,(blk_cell BG.out 2).trans rfl,(blk_cell BG.out 3).trans rfl,(blk_cell X1.out 0).trans rfl⟩ (fun hHeld => ?_)
 clear hK K
 refine nr_ (some 25) _ ?_
 refine pure_ (i := 6) (N := some 19) (v := ?_) (a' := ?_) #[true,true,true,true,true,true,true,false,false,false,false] rfl rfl (by kernel_rfl) (fun _ _ _ h => h) (Or.inl ⟨by rfl,?_⟩) ?_ ?_
 rotate_left
 ·intro w'
  go_simp
  with_reducible rfl
 rotate_left
 ·simp only [Act.put,q1,q2,q3,i64_w,i32_w]
  rfl
 refine pure_ (i := 7) (N := some 26) (v := ?_) (a' := ?_) #[true,true,true,true,true,true,true,true,false,false,false] rfl rfl (by kernel_rfl) (fun _ _ _ h => h) (Or.inl ⟨by rfl,?_⟩) ?_ ?_
 rotate_left
 ·intro w'
  go_simp
  with_reducible rfl
 rotate_left
 ·simp only [Act.put,q1,q2,q3,i64_w,i32_w]
  rfl
 refine pure_ (i := 8) (N := some 27) (v := ?_) (a' := ?_) #[true,true,true,true,true,true,true,true,true,false,false] rfl rfl (by kernel_rfl) (fun _ _ _ h => h) (Or.inl ⟨by rfl,?_⟩) ?_ ?_
 rotate_left
 ·intro w'
  go_simp
  with_reducible rfl
 rotate_left
 ·simp only [Act.put,q1,q2,q3,i64_w,i32_w]
  rfl
 refine pure_ (i := 9) (N := some 8) (v := ?_) (a' := ?_) #[true,true,true,true,true,true,true,true,true,true,false] rfl rfl (by kernel_rfl) (fun _ _ _ h => h) (Or.inl ⟨by rfl,?_⟩) ?_ ?_
 rotate_left
 ·intro w'
  go_simp
  with_reducible rfl
 rotate_left
 ·simp only [Act.put,q1,q2,q3,i64_w,i32_w]
  rfl
 refine pure_ (i := 10) (N := some 9) (v := ?_) (a' := ?_) #[true,true,true,true,true,true,true,true,true,true,true] rfl rfl (by kernel_rfl) (fun _ _ _ h => h) (Or.inl ⟨by rfl,?_⟩) ?_ ?_
 rotate_left
 ·intro w'
  go_simp
  with_reducible rfl
 rotate_left
 ·simp only [Act.put,q1,q2,q3,i64_w,i32_w]
  rfl
 refine done_ (by kernel_rfl) ?_
 clear hHeld
 cases d with
  | false =>
  have h1 := H1.out
  simp only [Bool.false_eq_true,if_false,Option.some.injEq,Prod.mk.injEq] at h1
  obtain ⟨rfl,rfl⟩ := h1
  go_wp2
  go_end0
  exact ⟨rfl,A4,c4,A3,c3,BG.out,Kd.S_mono T2.out (fun _ h_ => h_.1),Kd.R_mono T3.out (fun _ h_ => .inl h_.1),HB.out,HK.out⟩
  | true =>
 have h1 := H1.out
 rw [if_pos rfl] at h1
 clear H1
 cases t2 with
  | true =>
  simp only [if_true,Option.some.injEq,Prod.mk.injEq] at h1
  obtain ⟨rfl,rfl⟩ := h1
  go_wp2
  go_end0
  exact ⟨rfl,A4,c4,A3,c3,BG.out,Kd.S_mono T2.out (fun _ h_ => h_.1),Kd.R_mono T3.out (fun _ h_ => .inl h_.1),HB.out,HK.out⟩
  | false =>
 rw [if_neg (by simp)] at h1
 by_cases hb : 0 ≤ t1 ∧ t1 ≤ (p3.length : Int) ∧ p3.length < 17592186044415
 rotate_left
 ·rw [if_neg hb] at h1;cases h1
 rw [if_pos hb] at h1
 simp only [Option.some.injEq,Prod.mk.injEq] at h1
 obtain ⟨rfl,rfl⟩ := h1
 obtain ⟨hb1,hb2,hb3⟩ := hb
 obtain ⟨i,rfl⟩ := Int.eq_ofNat_of_zero_le hb1
 have Q2 : Aside0 (i ≤ p3.length) := ⟨by omega⟩
 have Q3 := Aside0.mk hb3
 clear hb1 hb2 hb3
 go_upto_region 4 with (fail)
 have B : Below w5.heap.size w5 w5.drew := below_drew1 (Below.refl _ _)
 have BG := Aside0.mk (blk_below BG.out B)
 have T2 := Aside0.mk (Kd.S_below T2.out B)
 have T3 := Aside0.mk (Kd.R_below T3.out B)
 have HB := Aside0.mk (below_step HB.out B)
 have HK := Aside0.mk (HK.out.below B)
 have X1 := Aside0.mk (blk_below X1.out B)
 clear B
 refine start_ (n := 12) (S := fun w' => w'.cell? ⟨gb,0,none⟩ = some (.bool b) ∧ w'.cell? ⟨gb,1,none⟩ = some (s1) ∧ w'.cell? ⟨gb,2,none⟩ = some (.slice A4 (p2.filter fun x => !hits a1 a2 x).length c4) ∧ w'.cell? ⟨gb,3,none⟩ = some (.slice A3 p3.length c3) ∧ w'.cell? ⟨g1,0,none⟩ = some (.int .i64 a1)) (ds := [11]) #[false,false,false,false,false,false,false,false,false,false,false,false] (by kernel_rfl) rfl rfl ⟨(blk_cell BG.out 0).trans rfl,(blk_cell BG.out 1).trans rfl,(blk_cell BG.out 2).trans rfl,(blk_cell BG.out 3).trans rfl,(blk_cell X1.out 0).trans rfl⟩ (fun hHeld => ?_)
 generalize w5.drew = wd at BG X1 T2 T3 HB HK hHeld ⊢
 refine pure_ (i := 0) (N := some 33) (v := ?_) (a' := ?_) #[true,false,false,false,false,false,false,false,false,false,false,false] rfl rfl (by kernel_rfl) (fun _ _ _ h => h) (Or.inl ⟨by rfl,?_⟩) ?_ ?_
 rotate_left
 ·intro w'
  go_simp
  with_reducible rfl
 rotate_left
 ·simp only [Act.put,q1,q2,q3,i64_w,i32_w]
  rfl
 refine pure_ (i := 1) (N := some 34) (v := ?_) (a' := ?_) #[true,true,false,false,false,false,false,false,false,false,false,false] rfl rfl (by kernel_rfl) (fun _ _ _ h => h) (Or.inl ⟨by rfl,?_⟩) ?_ ?_
 rotate_left
 ·intro w'
  go_simp
  with_reducible rfl
 rotate_left
 ·simp only [Act.put,q1,q2,q3,i64_w,i32_w]
  rfl
 refine pure_ (i := 2) (N := some 35) (v := ?_) (a' := ?_) #[true,true,true,false,false,false,false,false,false,false,false,false] rfl rfl (by kernel_rfl) (fun _ _ _ h => h) (Or.inl ⟨by rfl,?_⟩) ?_ ?_
 rotate_left
 ·intro w'
  go_simp
  with_reducible rfl
 rotate_left
 ·simp only [Act.put,q1,q2,q3,i64_w,i32_w]
  rfl
 refine pure_ (i := 3) (N := some 36) (v := ?_) (a' := ?_) #[true,true,true,true,false,false,false,false,false,false,false,false] rfl rfl (by kernel_rfl) (fun _ _ _ h => h) (Or.inl ⟨by rfl,?_⟩) ?_ ?_
 rotate_left
 ·intro w'
  go_simp
  with_reducible rfl
 rotate_left
 ·simp only [Act.put,q1,q2,q3,i64_w,i32_w]
  rfl
 refine take_ (i := 4) (N := some 37) (v := ?_) (a' := ?_) #[true,true,true,true,true,false,false,false,false,false,false,false] rfl rfl (by kernel_rfl) (fun _ _ _ h => h) (Or.inl ⟨by rfl,?_⟩) hHeld ?_ ?_
 rotate_left
 ·rintro w' ⟨s0,s1,s2,s3,s4⟩
  go_simp
  with_reducible rfl
 rotate_left
 ·simp only [Act.put,q1,q2,q3,i64_w,i32_w]
  rfl
 refine pure_ (i := 5) (N := some 38) (v := ?_) (a' := ?_) #[true,true,true,true,true,true,false,false,false,false,false,false] rfl rfl (by kernel_rfl) (fun _ _ _ h => h) (Or.inl ⟨by rfl,?_⟩) ?_ ?_
 rotate_left
 ·intro w'
  go_simp
  with_reducible rfl
 rotate_left
 ·simp only [Act.put,q1,q2,q3,i64_w,i32_w]
  rfl
 refine take_ (i := 6) (N := some 39) (v := ?_) (a' := ?_) #[true,true,true,true,true,true,true,false,false,false,false,false] rfl rfl (by kernel_rfl) (fun _ _ _ h => h) (Or.inl ⟨by rfl,?_⟩) hHeld ?_ ?_
 rotate_left
 ·rintro w' ⟨s0,s1,s2,s3,s4⟩
  go_simp
  with_reducible rfl
 rotate_left
 ·simp only [Act.put,q1,q2,q3,i64_w,i32_w]
  rfl
 refine one_ (i := 7) (N := some 40) #[true,true,true,true,true,true,true,true,false,false,false,false] rfl rfl (by kernel_rfl) (by decide) (fun K hK => ?_)
 refine value_ (w1 := ?_) (v := ?_) (by rfl) rfl ?_ ?_
 rotate_left 2
 ·go_simp
  constructor
  ·rfl
  ·rfl
 have BV := Aside0.mk (blk_new wd (.cells #[.int .i64 a1] 2))
 have B : Below wd.heap.size wd (wd.alloc (.cells #[.int .i64 a1] 2)) := below_alloc (Below.refl _ _) _
 have NV := Aside0.mk HK.out.1
 have BG := Aside0.mk (blk_below BG.out B)
 have T2 := Aside0.mk (Kd.S_below T2.out B)
 have T3 := Aside0.mk (Kd.R_below T3.out B)
 have HB := Aside0.mk (below_step HB.out B)
 have HK := Aside0.mk (HK.out.below B)
 have X1 := Aside0.mk (blk_below X1.out B)
 clear B
 generalize wd.alloc (.cells #[.int .i64 a1] 2) = we at BV BG X1 T2 T3 HB HK ⊢
 refine hK.out _ _ ⟨(blk_cell BG.out 0).trans rfl,(blk_cell BG.out 1).trans rfl,(blk_cell BG.out 2).trans rfl,(blk_cell BG.out 3).trans rfl,(blk_cell X1.out 0).trans rfl⟩ (fun hHeld => ?_)
 clear hK K
 refine nr_ (some 40) _ ?_
 refine one_ (i := 8) (N := some 41) #[true,true,true,true,true,true,true,true,true,false,false,false] rfl rfl (by kernel_rfl) (by decide) (fun K hK => ?_)
 refine goes_ Tryz.func86 (by kernel_rfl) rfl #[.slice A3 p3.length c3,.int .i64 (i : Int),.slice (some ⟨wd.heap.size,0,none⟩) 1 1] (by rfl) rfl rfl (by (try simp only [List.map_toArray,List.map_cons,List.map_nil]);first|done|rfl) ?_
 refine (slices_Insert_int64.calls (fun k_ => P3_ k_ ∧ k_ < w.heap.size) A3 c3 p3 i a1 wd.heap.size w0 _ HB.out (fun h_ => absurd h_.2 (Nat.not_lt.2 NV.out)) BV.out T3.out Q3.out Q2.out).mono ?_
 rintro e w6 ⟨A5,c5,rfl,S,B,K⟩
 refine ⟨_,rfl,?_⟩
 have T2 := Aside0.mk (Kd.S_kept T2.out K (fun k_ hk_ hs_ => PD.out k_ hk_.1 hs_.1))
 have BG := Aside0.mk (blk_kept BG.out K (fun h_ => P3.out h_.1))
 have X1 := Aside0.mk (blk_kept X1.out K (fun h_ => absurd h_.2 (Nat.not_lt.2 N1.out)))
 have T3 := Aside0.mk (Kd.R_mono (ok' := fun k_ => (P3_ k_ ∨ w.heap.size ≤ k_) ∧ k_ ≠ gb) S (fun k_ h_ => h_.elim (fun h1_ => ⟨.inl h1_.1,fun e_ => P3.out (e_ ▸ h1_.1)⟩) (fun h1_ => ⟨.inr (Nat.le_trans HK.out.1 h1_),fun e_ => absurd LG.out (Nat.not_lt.2 (e_ ▸ Nat.le_trans HK.out.1 h1_))⟩)))
 have HB := Aside0.mk B
 have HK := Aside0.mk (HK.out.then_ K (fun _ h_ => .inl (.inl (.inr h_.1))))
 clear S B K BV
 refine hK.out _ _ ⟨(blk_cell BG.out 0).trans rfl,(blk_cell BG.out 1).trans rfl,(blk_cell BG.out 2).trans rfl,(blk_cell BG.out 3).trans rfl,(blk_cell X1.out 0).trans rfl⟩ (fun hHeld => ?_)
 clear hK K
 refine nr_ (some 41) _ ?_
 refine pure_ (i := 9) (N := some 42) (v := ?_) (a' := ?_) #[true,true,true,true,true,true,true,true,true,true,false,false] rfl rfl (by kernel_rfl) (fun _ _ _ h => h) (Or.inl ⟨by rfl,?_⟩) ?_ ?_
 rotate_left
 ·intro w'
  go_simp
  with_reducible rfl
 rotate_left
 ·simp only [Act.put,q1,q2,q3,i64_w,i32_w]
  rfl
 refine pure_ (i := 10) (N := some 43) (v := ?_) (a' := ?_) #[true,true,true,true,true,true,true,true,true,true,true,false] rfl rfl (by kernel_rfl) (fun _ _ _ h => h) (Or.inl ⟨by rfl,?_⟩) ?_ ?_
 rotate_left
 ·intro w'
  go_simp
  with_reducible rfl
 rotate_left
 ·simp only [Act.put,q1,q2,q3,i64_w,i32_w]
  rfl
 refine last_ (i := 11) (N := none) #[true,true,true,true,true,true,true,true,true,true,true,true] rfl rfl (by kernel_rfl) (by decide) (fun K hK => ?_)
 have hs_ : w6.cell? ⟨gb,3,none⟩ = some (.slice A3 p3.length c3) := (blk_cell BG.out 3).trans rfl
 have hf_ := blk_frozen BG.out 3
 refine skip_ (w1 := (w6.setCell ⟨gb,3,none⟩ (.slice A5 (p3.length + 1) c5))) (by rfl) rfl ?_ ?_
 ·first|(go_simp;done)|(go_simp;rfl)|(go_simp;simp)
 refine hK.out _ _ ?_
 clear hK K
 refine done_ (by kernel_rfl) ?_
 clear hs_ hf_ hHeld
 go_wp2
 go_end0
 try rw [Int.toNat_natCast]
 have e_ : (p3.take i ++ [a1] ++ p3.drop i).length = p3.length + 1 := by have := Q2.out;simp;omega
 refine ⟨rfl,A4,c4,A5,c5,?_,Kd.S_mono (Kd.S_far (p := ⟨gb,3,none⟩) T2.out (fun k_ h_ e_ => P2.out (show P2_ gb from (show k_ = gb from e_) ▸ h_.1)) _) (fun _ h_ => h_.1),?_,below_set HB.out GG.out,HK.out.setCell (p := ⟨gb,3,none⟩) (.inl (.inr rfl)) _⟩
 ·rw [e_];refine blk_put (cs := #[.bool b,s1,.slice A4 (p2.filter fun x => !hits a1 a2 x).length c4,.slice A3 p3.length c3]) ?_ 3 _ rfl;exact BG.out
 ·rw [e_];exact Kd.R_mono (Kd.R_far (p := ⟨gb,3,none⟩) T3.out (fun _ h_ => h_.2) _) (fun _ h_ => h_.1)

end Go.Proofs.YthplaakckfhaaaaGreat.XCr
