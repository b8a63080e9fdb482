/- Proved: of each Go function here that a call comes to what the Lean function of its name tells. Written by a program of this session over the translation. No conditions beyond each theorem's own. -/
import Derived.Test.YthplaakckfhaaaaXCd0
import Derived.Test.YthplaakckfhaaaaXCd7
import Derived.Test.YthplaakckfhaaaaXCd9
import Derived.Test.YthplaakckfhaaaaXCd17
namespace Go.Proofs.Ythplaakckfhaaaa.XCd
open Go.RowKit Go.Proofs.Ythplaakckfhaaaa.Aid Go.Proofs.YthplaakckfhaaaaW.PrintWords Go.Proofs.YthplaakckfhaaaaW.PrintLast Go.Proofs.YthplaakckfhaaaaW.PrintMore
set_option linter.unusedVariables false
set_option linter.unusedSimpArgs false

open Go.Proofs.Ythplaakckfhaaaa.Gen
/-! ### drawing: what a function that draws leaves as it was -/
/-- The cursor lies at g, what came in by w0 is as it was, and since wb only g's block and new ones were written. -/
def Dr (w0 wb : World) (g : Nat) (l : List Int) (W : World) : Prop := (∃ i h : Int, 0 ≤ i ∧ IsS148 w0 W g l i h) ∧ Below w0.heap.size w0 W ∧ KeepBut wb W g none ∧ g < wb.heap.size
section
variable {w0 wb W W' : World} {g b : Nat} {l : List Int} {o : Obj}
theorem Dr.refl {i h : Int} (hi : 0 ≤ i) (hI : IsS148 w0 W g l i h) (hB : Below w0.heap.size w0 W) : Dr w0 W g l W := ⟨⟨i, h, hi, hI⟩, hB, KeepBut.refl _ _ _, hI.lt⟩
theorem Dr.self (D : Dr w0 wb g l W) : Dr w0 W g l W := by
 obtain ⟨⟨i,h,hi,hI⟩,hB,_,_⟩ := D
 exact Dr.refl hi hI hB
theorem Dr.trans (D : Dr w0 wb g l W) (k : Dr w0 W g l W') : Dr w0 wb g l W' := ⟨k.1, k.2.1, KeepBut.trans D.2.2.1 k.2.2.1 (.inl rfl), D.2.2.2⟩
theorem Dr.ge (D : Dr w0 wb g l W) : w0.heap.size ≤ wb.heap.size := by
 obtain ⟨⟨i,h,hi,hI⟩,hB,_,hg⟩ := D
 exact Nat.le_of_lt (Nat.lt_of_le_of_lt hI.ge hg)
theorem Dr.size (D : Dr w0 wb g l W) : wb.heap.size ≤ W.heap.size := D.2.2.1.1
theorem Dr.below (D : Dr w0 wb g l W) (k : Below W.heap.size W W') : Dr w0 wb g l W' := by
 obtain ⟨⟨i,h,hi,hI⟩,hB,hK,hg⟩ := D
 exact ⟨⟨i,h,hi,hI.below k⟩,below_step hB k,KeepBut.trans hK (KeepBut.of_below k g none) (.inl rfl),hg⟩
theorem Dr.far (D : Dr w0 wb g l W) {p : Addr} (hp : wb.heap.size ≤ p.block) (u : Value) : Dr w0 wb g l (W.setCell p u) := by
 have hge := D.ge
 obtain ⟨⟨i,h,hi,hI⟩,hB,hK,hg⟩ := D
 exact ⟨⟨i,h,hi,hI.far (Nat.ne_of_lt (Nat.lt_of_lt_of_le hg hp)) u⟩,hB.setCell (Nat.le_trans hge hp) u,keep_far hK hp u,hg⟩
theorem Dr.grown {row : Option Nat} (D : Dr w0 wb g l W) (hw : W.grownBy W' row) (hb : Below w0.heap.size w0 W') (hr : ∀ k, row = some k → wb.heap.size ≤ k) : Dr w0 wb g l W' := by
 obtain ⟨⟨i,h,hi,hI⟩,hB,hK,hg⟩ := D
 refine ⟨⟨i,h,hi,hI.grown hw (fun e => Nat.lt_irrefl _ (Nat.lt_of_lt_of_le hg (hr g e.symm)))⟩,hb,KeepBut.trans hK (KeepBut.of_grown hw g) ?_,hg⟩
 cases row with
  | none => exact .inl rfl
  | some k => exact .inr ⟨k, rfl, hr k rfl⟩
/-- A block that is new since wb. -/
def Bk (wb W : World) (b : Nat) (o : Obj) : Prop := wb.heap.size ≤ b ∧ W.heap[b]? = some o
theorem Bk.below (h : Bk wb W b o) (k : Below W.heap.size W W') : Bk wb W' b o := ⟨h.1, blk_below h.2 k⟩
theorem Bk.dr (h : Bk wb W b o) (D : Dr w0 wb g l W) (k : Dr w0 W g l W') : Bk wb W' b o := ⟨h.1, KeepBut.blk k.2.2.1 h.2 (Nat.ne_of_gt (Nat.lt_of_lt_of_le D.2.2.2 h.1)) (by simp)⟩
theorem Bk.far {t : TypeId} {cs : Array Value} (h : Bk wb W b (.cells cs t (0, 0))) {p : Addr} (hp : b ≠ p.block) (u : Value) : Bk wb (W.setCell p u) b (.cells cs t (0, 0)) := ⟨h.1, blk_far h.2 hp u⟩
theorem Bk.kept {S : Nat → Prop} (h : Bk wb W b o) (k : Kept W W' S) (hn : ¬ S b) : Bk wb W' b o := ⟨h.1, blk_kept h.2 k hn⟩
theorem put5_ {t : TypeId} {a0 a1 a2 a3 a4 : Value} (h : W.heap[b]? = some (.cells #[a0, a1, a2, a3, a4] t (0, 0))) (x0 x1 x2 x3 x4 : Value) : (((((W.setCell ⟨b, 0, none⟩ x0).setCell ⟨b, 1, none⟩ x1).setCell ⟨b, 2, none⟩ x2).setCell ⟨b, 3, none⟩ x3).setCell ⟨b, 4, none⟩ x4).heap[b]? = some (.cells #[x0, x1, x2, x3, x4] t (0, 0)) :=
 blk_put (blk_put (blk_put (blk_put (blk_put h 0 x0 rfl) 1 x1 rfl) 2 x2 rfl) 3 x3 rfl) 4 x4 rfl
theorem put4_ {t : TypeId} {a0 a1 a2 a3 : Value} (h : W.heap[b]? = some (.cells #[a0, a1, a2, a3] t (0, 0))) (x0 x1 x2 x3 : Value) : ((((W.setCell ⟨b, 0, none⟩ x0).setCell ⟨b, 1, none⟩ x1).setCell ⟨b, 2, none⟩ x2).setCell ⟨b, 3, none⟩ x3).heap[b]? = some (.cells #[x0, x1, x2, x3] t (0, 0)) :=
 blk_put (blk_put (blk_put (blk_put h 0 x0 rfl) 1 x1 rfl) 2 x2 rfl) 3 x3 rfl
theorem Dr.far4 (D : Dr w0 wb g l W) (hp : wb.heap.size ≤ b) (x0 x1 x2 x3 : Value) : Dr w0 wb g l ((((W.setCell ⟨b, 0, none⟩ x0).setCell ⟨b, 1, none⟩ x1).setCell ⟨b, 2, none⟩ x2).setCell ⟨b, 3, none⟩ x3) := (((D.far hp x0).far hp x1).far hp x2).far hp x3
theorem Dr.far5 (D : Dr w0 wb g l W) (hp : wb.heap.size ≤ b) (x0 x1 x2 x3 x4 : Value) : Dr w0 wb g l (((((W.setCell ⟨b, 0, none⟩ x0).setCell ⟨b, 1, none⟩ x1).setCell ⟨b, 2, none⟩ x2).setCell ⟨b, 3, none⟩ x3).setCell ⟨b, 4, none⟩ x4) := (D.far4 hp x0 x1 x2 x3).far hp x4
theorem kept4_ (x0 x1 x2 x3 : Value) : Kept W ((((W.setCell ⟨b, 0, none⟩ x0).setCell ⟨b, 1, none⟩ x1).setCell ⟨b, 2, none⟩ x2).setCell ⟨b, 3, none⟩ x3) (fun k => k = b) := ((((Kept.refl W (fun k => k = b)).setCell (p := ⟨b, 0, none⟩) (.inl rfl) x0).setCell (p := ⟨b, 1, none⟩) (.inl rfl) x1).setCell (p := ⟨b, 2, none⟩) (.inl rfl) x2).setCell (p := ⟨b, 3, none⟩) (.inl rfl) x3
theorem kept5_ (x0 x1 x2 x3 x4 : Value) : Kept W (((((W.setCell ⟨b, 0, none⟩ x0).setCell ⟨b, 1, none⟩ x1).setCell ⟨b, 2, none⟩ x2).setCell ⟨b, 3, none⟩ x3).setCell ⟨b, 4, none⟩ x4) (fun k => k = b) := (kept4_ x0 x1 x2 x3).setCell (p := ⟨b, 4, none⟩) (.inl rfl) x4
theorem kept1_ (j : Nat) (x : Value) : Kept W (W.setCell ⟨b, j, none⟩ x) (fun k => k = b) := (Kept.refl W (fun k => k = b)).setCell (p := ⟨b, j, none⟩) (.inl rfl) x
theorem R_dr {α : Type} {d : Kd α} {e : Nat} {v : Value} {xs : List α} (T : d.R e W wb.heap.size (fun _ => True) v xs) (D : Dr w0 wb g l W) (k : Dr w0 W g l W') : d.R e W' wb.heap.size (fun _ => True) v xs :=
 Kd.R_mono (Kd.R_step (Kd.R_bound T) (fun k_ hk_ hlt_ => k.2.2.1.2 k_ hlt_ (Nat.ne_of_gt (Nat.lt_of_lt_of_le D.2.2.2 hk_.2.1)) (by simp))) (fun _ _ => trivial)
theorem S_dr {α : Type} {d : Kd α} {e : Nat} {v : Value} {xs : List α} (T : d.S e W wb.heap.size (fun _ => True) v xs) (D : Dr w0 wb g l W) (k : Dr w0 W g l W') : d.S e W' wb.heap.size (fun _ => True) v xs :=
 Kd.S_mono (Kd.S_step (Kd.S_bound T) (fun k_ hk_ hlt_ => k.2.2.1.2 k_ hlt_ (Nat.ne_of_gt (Nat.lt_of_lt_of_le D.2.2.2 hk_.2.1)) (by simp))) (fun _ _ => trivial)
theorem R_off {α : Type} {d : Kd α} {e t : Nat} {v : Value} {xs : List α} {cs : Array Value} {n : Nat} (T : d.R e W n (fun _ => True) v xs) (hx : W.heap[b]? = some (.cells cs t (0, 0))) (ht : ∀ q, q ∈ e :: d.E → q ≠ t) (k : Kept W W' (fun k => k = b)) : d.R e W' n (fun _ => True) v xs :=
 Kd.R_mono (Kd.R_kept (Kd.R_types T hx ht) k (fun _ hk h => hk.2 h)) (fun _ _ => trivial)
theorem S_off {α : Type} {d : Kd α} {e t : Nat} {v : Value} {xs : List α} {cs : Array Value} {n : Nat} (T : d.S e W n (fun _ => True) v xs) (hx : W.heap[b]? = some (.cells cs t (0, 0))) (ht : ∀ q, q ∈ e :: d.E → q ≠ t) (k : Kept W W' (fun k => k = b)) : d.S e W' n (fun _ => True) v xs :=
 Kd.S_mono (Kd.S_kept (Kd.S_types T hx ht) k (fun _ hk h => hk.2 h)) (fun _ _ => trivial)
theorem byte_any (hl : l.length ≤ maxLen) (i h : Int) (hi : 0 ≤ i) : ∃ x i' h' : Int, spec_l1Byte.f l i h = some (x, i', h') ∧ 0 ≤ x ∧ x ≤ 255 ∧ 0 ≤ i' := by
 unfold maxLen at hl
 unfold spec_l1Byte.f
 by_cases h1 : i < (l.length : Int)
 ·rw [if_pos h1,if_pos hi,wrap_of (x := i + 1) (by omega) (by omega)]
  simp only [and255]
  exact ⟨_,_,_,rfl,by omega,by omega,by omega⟩
 ·rw [if_neg h1]
  simp only [and255]
  exact ⟨_,_,_,rfl,by omega,by omega,hi⟩
theorem below_f_any (hl : l.length ≤ maxLen) (i h : Int) (hi : 0 ≤ i) (n : Int) (hn : n ≤ 256) : ∃ x i' h' : Int, spec_l1Below.f l i h n = some (x, i', h') ∧ 0 ≤ x ∧ (0 < n → x < n) ∧ 0 ≤ i' := by
 unfold spec_l1Below.f
 by_cases h1 : n ≤ 0
 ·rw [if_pos h1];exact ⟨_,_,_,rfl,by omega,by omega,hi⟩
 ·rw [if_neg h1,if_pos hn]
  obtain ⟨x,i',h',e,q1,q2,q3⟩ := byte_any hl i h hi
  rw [e,Option.bind_some,if_neg (by omega)]
  refine ⟨_,_,_,rfl,?_,fun _ => ?_,q3⟩
  ·rw [Int.tmod_eq_emod_of_nonneg q1];exact Int.emod_nonneg _ (by omega)
  ·rw [Int.tmod_eq_emod_of_nonneg q1];exact Int.emod_lt_of_pos _ (by omega)
theorem below_any (n : Int) (hn : n ≤ 256) (hl : l.length ≤ maxLen) (D : Dr w0 wb g l W) : Calls Try.prog 91 #[.pointer (some ⟨g, 0, none⟩), .int .i64 n] W fun e w' => ∃ x : Int, e = .returned (.int .i64 x) ∧ 0 ≤ x ∧ (0 < n → x < n) ∧ Dr w0 W g l w' := by
 obtain ⟨⟨i,h,hi,hI⟩,hB,_,_⟩ := D
 obtain ⟨x,i',h',e,q1,q2,q3⟩ := below_f_any hl i h hi n hn
 refine (spec_l1Below.calls g l i h n x i' h' w0 W hI hB e).mono ?_
 rintro e w' ⟨rfl,h1,h2,h3⟩
 exact ⟨x,rfl,q1,q2,⟨i',h',q3,h1⟩,h2,h3,hI.lt⟩
theorem once_any (n : Int) (hn : n ≤ 256) (hl : l.length ≤ maxLen) (D : Dr w0 wb g l W) : Calls Try.prog 90 #[.pointer (some ⟨g, 0, none⟩), .int .i64 n] W fun e w' => ∃ x : Bool, e = .returned (.bool x) ∧ Dr w0 W g l w' := by
 obtain ⟨⟨i,h,hi,hI⟩,hB,_,_⟩ := D
 obtain ⟨x,i',h',e,q1,q2,q3⟩ := below_f_any hl i h hi n hn
 refine (spec_l1Once.calls g l i h n (x == 0) i' h' w0 W hI hB (by unfold spec_l1Once.f;rw [e];rfl)).mono ?_
 rintro e w' ⟨rfl,h1,h2,h3⟩
 exact ⟨_,rfl,⟨i',h',q3,h1⟩,h2,h3,hI.lt⟩
theorem from_any (hl : l.length ≤ maxLen) (D : Dr w0 wb g l W) : Calls Try.prog 160 #[.pointer (some ⟨g, 0, none⟩), .int .i64 (-50), .int .i64 50] W fun e w' => ∃ x : Int, e = .returned (.int .i64 x) ∧ Dr w0 W g l w' := by
 obtain ⟨⟨i,h,hi,hI⟩,hB,_,_⟩ := D
 obtain ⟨x,i',h',e,q1,q2,q3⟩ := below_f_any hl i h hi (wrap64 ((wrap64 (50 - (-50))) + 1)) (by rw [wrap_of (x := 50 - (-50)) (by omega) (by omega),wrap_of (by omega) (by omega)];omega)
 refine (spec_l1From.calls g l i h (-50) 50 (wrap64 ((-50) + x)) i' h' w0 W hI hB (by unfold spec_l1From.f;rw [e];rfl)).mono ?_
 rintro e w' ⟨rfl,h1,h2,h3⟩
 exact ⟨_,rfl,⟨i',h',q3,h1⟩,h2,h3,hI.lt⟩
end
section
variable {wb W W' : World} {b t : Nat}
theorem Bk.put4 {a0 a1 a2 a3 : Value} (h : Bk wb W b (.cells #[a0, a1, a2, a3] t (0, 0))) (x0 x1 x2 x3 : Value) : Bk wb ((((W.setCell ⟨b, 0, none⟩ x0).setCell ⟨b, 1, none⟩ x1).setCell ⟨b, 2, none⟩ x2).setCell ⟨b, 3, none⟩ x3) b (.cells #[x0, x1, x2, x3] t (0, 0)) := ⟨h.1, put4_ h.2 x0 x1 x2 x3⟩
theorem Bk.put5 {a0 a1 a2 a3 a4 : Value} (h : Bk wb W b (.cells #[a0, a1, a2, a3, a4] t (0, 0))) (x0 x1 x2 x3 x4 : Value) : Bk wb (((((W.setCell ⟨b, 0, none⟩ x0).setCell ⟨b, 1, none⟩ x1).setCell ⟨b, 2, none⟩ x2).setCell ⟨b, 3, none⟩ x3).setCell ⟨b, 4, none⟩ x4) b (.cells #[x0, x1, x2, x3, x4] t (0, 0)) := ⟨h.1, put5_ h.2 x0 x1 x2 x3 x4⟩
theorem Bk.put1 {cs : Array Value} (h : Bk wb W b (.cells cs t (0, 0))) (j : Nat) (x : Value) {cs' : Array Value} (e : cs.setIfInBounds j x = cs') : Bk wb (W.setCell ⟨b, j, none⟩ x) b (.cells cs' t (0, 0)) := ⟨h.1, blk_put h.2 j x e⟩
end
section
variable {w0 wb W W' : World} {g : Nat} {l : List Int}
theorem Dr.app {row : Option Nat} (D : Dr w0 wb g l W) (hb : Below wb.heap.size W W') (hw : W.grownBy W' row) (hr : ∀ k, row = some k → wb.heap.size ≤ k) : Dr w0 wb g l W' :=
 D.grown hw ⟨hb.os.trans D.2.1.os,hb.tape.trans D.2.1.tape,hb.output.trans D.2.1.output,Nat.le_trans D.2.1.size hb.size,fun k hk => (hb.block k (Nat.lt_of_lt_of_le hk D.ge)).trans (D.2.1.block k hk)⟩ hr
theorem Bk.grown {b : Nat} {o : Obj} {row : Option Nat} (h : Bk wb W b o) (hw : W.grownBy W' row) (hn : some b ≠ row) : Bk wb W' b o := ⟨h.1, blk_grown h.2 hw hn⟩
theorem slot_any (a : Int) : ∃ b, spec_l1Slot.f a = some b := by
 unfold spec_l1Slot.f spec_l1In.f
 by_cases h : a ≥ 0
 ·rw [if_pos h];exact ⟨_,rfl⟩
 ·rw [if_neg h];exact ⟨_,rfl⟩
end
/-! ### a machine that is drawn -/
def sm1 (l : List S79) : Prop := ∀ x ∈ l, x.f1.length ≤ 6
def sm2 (l : List S45) : Prop := ∀ x ∈ l, x.f3.length ≤ 7
theorem sm1_nil : sm1 [] := fun x h => by simp at h
theorem sm2_nil : sm2 [] := fun x h => by simp at h
theorem sm1_app {l : List S79} {x : S79} (h : sm1 l) (hx : x.f1.length ≤ 6) : sm1 (l ++ [x]) := fun y hy => (List.mem_append.1 hy).elim (h y) (fun e => List.mem_singleton.1 e ▸ hx)
theorem sm2_app {l : List S45} {x : S45} (h : sm2 l) (hx : x.f3.length ≤ 7) : sm2 (l ++ [x]) := fun y hy => (List.mem_append.1 hy).elim (h y) (fun e => List.mem_singleton.1 e ▸ hx)
def Ms (w0 w : World) (g gm gr : Nat) (l : List Int) (W : World) (n1 n2 n3 : Nat) : Prop := ∃ (b : Bool) (A1 : Option Addr) (c1 : Nat) (l1 : List S79) (A2 : Option Addr) (c2 : Nat) (l2 : List S45) (A3 : Option Addr) (c3 : Nat) (l3 : List Int), Dr w0 w g l W ∧ Bk w W gr (.cells #[.bool false, .slice none 0 0, .slice none 0 0, .slice none 0 0] 32 (0, 0)) ∧ Bk w W gm (.cells #[.bool b, .slice A1 l1.length c1, .slice A2 l2.length c2, .slice A3 l3.length c3] 32 (0, 0)) ∧ Kd.S k79 79 W w.heap.size (fun _ => True) (.slice A1 l1.length c1) l1 ∧ Kd.S k45 45 W w.heap.size (fun _ => True) (.slice A2 l2.length c2) l2 ∧ Kd.R (Kd.int .i64) 2 W w.heap.size (fun _ => True) (.slice A3 l3.length c3) l3 ∧ (l1.length ≤ n1 ∧ sm1 l1) ∧ (l2.length ≤ n2 ∧ sm2 l2) ∧ l3.length ≤ n3
/-- What is handed back can be read, and nothing of it lies at g. -/
def Rm (wb W : World) (g : Nat) (A1 : Option Addr) (c1 : Nat) (l1 : List S79) (A2 : Option Addr) (c2 : Nat) (l2 : List S45) (A3 : Option Addr) (c3 : Nat) (l3 : List Int) : Prop := (Kd.F k79 W (fun k => wb.heap.size ≤ k ∧ k ≠ g) A1 l1.length l1 ∧ l1.length ≤ c1) ∧ (Kd.F k45 W (fun k => wb.heap.size ≤ k ∧ k ≠ g) A2 l2.length l2 ∧ l2.length ≤ c2) ∧ (Kd.F (Kd.int .i64) W (fun k => wb.heap.size ≤ k ∧ k ≠ g) A3 l3.length l3 ∧ l3.length ≤ c3) ∧ (l1.length ≤ 300 ∧ sm1 l1) ∧ (l2.length ≤ 250 ∧ sm2 l2) ∧ l3.length ≤ 300
/-- What spec.l6Draw hands back. -/
def DrawnM (w0 w : World) (g : Nat) (l : List Int) (e : Ending) (w' : World) : Prop := ∃ (b : Bool) (A1 : Option Addr) (c1 : Nat) (l1 : List S79) (A2 : Option Addr) (c2 : Nat) (l2 : List S45) (A3 : Option Addr) (c3 : Nat) (l3 : List Int), e = .returned (.agg #[.bool b, .slice A1 l1.length c1, .slice A2 l2.length c2, .slice A3 l3.length c3]) ∧ Rm w w' g A1 c1 l1 A2 c2 l2 A3 c3 l3 ∧ Dr w0 w g l w'
section
variable {w0 wb W W' : World} {g : Nat} {l : List Int}
theorem S_drb {α : Type} {d : Kd α} {e : Nat} {v : Value} {xs : List α} (T : d.S e W wb.heap.size (fun _ => True) v xs) (D : Dr w0 wb g l W) (k : Dr w0 W g l W') : d.S e W' wb.heap.size (fun k_ => k_ < W.heap.size) v xs :=
 Kd.S_mono (Kd.S_step (Kd.S_bound T) (fun k_ hk_ hlt_ => k.2.2.1.2 k_ hlt_ (Nat.ne_of_gt (Nat.lt_of_lt_of_le D.2.2.2 hk_.2.1)) (by simp))) (fun _ h => h.2.2.1)
theorem S_apart {α β : Type} {d : Kd α} {d' : Kd β} {e e' n b : Nat} {v u : Value} {xs : List α} {ys : List β} (T : d.S e W b (fun k_ => k_ < n) v xs) (N : d'.R e' W n (fun _ => True) u ys) : d.S e W b (fun k_ => True ∧ ¬ some k_ = u.ownBlock) v xs :=
 Kd.S_mono T (fun k_ hk => ⟨trivial,fun e_ => absurd hk (Nat.not_lt.2 (Kd.R_base N k_ e_.symm))⟩)
theorem own_apart {α β : Type} {d : Kd α} {d' : Kd β} {e e' n b : Nat} {ok : Nat → Prop} {v u : Value} {xs : List α} {ys : List β} (T : d.S e W b ok v xs) (N : d'.R e' W n (fun _ => True) u ys) (ht : e ≠ e') : ∀ k_, some k_ = u.ownBlock → True ∧ some k_ ≠ v.ownBlock := fun k_ hk => by
 obtain ⟨cs,hc⟩ := Kd.R_typed N k_ hk.symm
 exact ⟨trivial,Kd.S_ne T hc ht⟩
end
section
variable {w0 w W : World} {g gr : Nat} {l : List Int}
theorem Dr.type (D : Dr w0 w g l W) : ∃ cs, W.heap[g]? = some (.cells cs 148 (0, 0)) := by
 obtain ⟨⟨i,h,hi,A0,c0,hI,_⟩,_⟩ := D
 exact ⟨_,hI⟩
theorem fin_any {b : Bool} {A1 : Option Addr} {c1 : Nat} {l1 : List S79} {A2 : Option Addr} {c2 : Nat} {l2 : List S45} {A3 : Option Addr} {c3 : Nat} {l3 : List Int} {ok1 : Nat → Prop} {x0 x1 x2 x3 : Value}
  (B : Bk w W gr (.cells #[x0,x1,x2,x3] 32 (0,0))) (T1 : Kd.N k79 79 W w.heap.size (fun k => (ok1 k) ∧ k ≠ gr) (.slice A1 l1.length c1) l1) (T2 : Kd.S k45 45 W w.heap.size (fun _ => True) (.slice A2 l2.length c2) l2) (T3 : Kd.R (Kd.int .i64) 2 W w.heap.size (fun _ => True) (.slice A3 l3.length c3) l3) (D : Dr w0 w g l W)
  (h1 : l1.length ≤ 300 ∧ sm1 l1) (h2 : l2.length ≤ 250 ∧ sm2 l2) (h3 : l3.length ≤ 300) (h4 : ∀ k,ok1 k → w.heap.size ≤ k ∧ k ≠ g) (e : Ending) (he : e = .returned (.agg #[.bool b,.slice A1 l1.length c1,.slice A2 l2.length c2,.slice A3 l3.length c3])) :
  DrawnM w0 w g l e ((((W.setCell ⟨gr,0,none⟩ (.bool b)).setCell ⟨gr,1,none⟩ (.slice A1 l1.length c1)).setCell ⟨gr,2,none⟩ (.slice A2 l2.length c2)).setCell ⟨gr,3,none⟩ (.slice A3 l3.length c3)) := by
 have KS : Kept W ((((W.setCell ⟨gr,0,none⟩ (.bool b)).setCell ⟨gr,1,none⟩ (.slice A1 l1.length c1)).setCell ⟨gr,2,none⟩ (.slice A2 l2.length c2)).setCell ⟨gr,3,none⟩ (.slice A3 l3.length c3)) (fun k => k = gr) := kept4_ _ _ _ _
 obtain ⟨cs,hg⟩ := D.type
 have F1 := Kd.N_reads' T1
 refine ⟨b,A1,c1,l1,A2,c2,l2,A3,c3,l3,he,⟨⟨Kd.F_mono (Kd.F_kept (Kd.N_F T1) KS (fun k hk e => hk.2 e)) (fun k hk => h4 k hk.1),F1.2.1⟩,⟨Kd.F_mono (Kd.F_kept (Kd.N_F (Kd.S_N (Kd.S_types (Kd.S_types (Kd.S_bound T2) B.2 (by decide)) hg (by decide)))) KS (fun k hk e => hk.1.2 e)) (fun k hk => ⟨hk.1.1.2.1,hk.2⟩),(Kd.S_reads' T2).2.1⟩,⟨Kd.F_mono (Kd.F_kept (Kd.N_F (Kd.R_N (Kd.R_types (Kd.R_types (Kd.R_bound T3) B.2 (by decide)) hg (by decide)))) KS (fun k hk e => hk.1.2 e)) (fun k hk => ⟨hk.1.1.2.1,hk.2⟩),(Kd.R_reads' T3).2.1⟩,h1,h2,h3⟩,D.far4 B.1 _ _ _ _⟩
end
section
variable {w0 wb w W : World} {g : Nat} {l : List Int}
theorem Dr.lt (D : Dr w0 wb g l W) : g < W.heap.size := Nat.lt_of_lt_of_le D.2.2.2 D.size
theorem S_empty {α : Type} {d : Kd α} {e base : Nat} {ok : Nat → Prop} {v : Value} (h : d.R e w base ok v []) : d.S e w base ok v [] := by
 obtain ⟨h0,inner,ho,hr⟩ := h
 exact ⟨fun _ => 0,h0,inner,ho,hr.1,fun j p hj => by simp at hj⟩
theorem Q_own {α β : Type} {d : Kd α} {d' : Kd β} {e e' b b' : Nat} {ok ok' : Nat → Prop} {v u : Value} {xs : List α} {ys : List β} (h : d.Q e W b ok v xs) (T : d'.S e' W b' ok' u ys) (ht : ∀ q, q ∈ e :: d.E → q ≠ e') : d.Q e W b (fun k => ok k ∧ some k ≠ u.ownBlock) v xs :=
 Kd.Q_mono (Kd.Q_bound h) (fun k hk => ⟨hk.1,fun e_ => by
  obtain ⟨_,_,_,q,hq,cs,hc⟩ := hk
  obtain ⟨cs2,hc2⟩ := Kd.S_typed T k e_.symm
  rw [hc] at hc2
  injection hc2 with hc2
  injection hc2 with _ hc2
  exact ht q hq hc2⟩)
theorem Q_F {α : Type} {d : Kd α} {e b n c : Nat} {A : Option Addr} {ok : Nat → Prop} {xs : List α} (h : d.Q e W b ok (.slice A n c) xs) : Kd.F d W ok A xs.length xs := fun W' hW => (Kd.Q_reads' (Kd.Q_move (Kd.Q_bound h) (fun k hk => hW k hk.1 hk.2.2.1))).2.2
theorem FK_copy {r : Int} {xs : List S92} {A : Option Addr} {c : Nat} {ok : Nat → Prop} (hc : xs.length ≤ c) (h : Kd.F k92 W ok A xs.length xs) : Kd.FK k79 W ok (⟨r, xs⟩ : S79) [.int .i64 r, .slice A xs.length c] := fun W' hW => ⟨[.int .i64 r], [.slice A xs.length c], rfl, rfl, ⟨A, c, rfl, hc, h W' hW⟩⟩
end
section
variable {wb W : World}
/-- An element of a row of cells is written. -/
theorem cell_put {ga n c b : Nat} {xs : List S92} (T : k92.R 92 W b (fun _ => True) (.slice (some ⟨ga, 0, none⟩) n c) xs) (i : Nat) (hi : i < n) : (∃ u, W.cell? ⟨ga, i * 2, none⟩ = some u) ∧ (∃ u, W.cell? ⟨ga, i * 2 + 1, none⟩ = some u) ∧ W.frozen? ⟨ga, i * 2, none⟩ = false ∧ W.frozen? ⟨ga, i * 2 + 1, none⟩ = false ∧ (∀ v : Int, ∃ ys : List S92, ys.length = xs.length ∧ k92.R 92 (W.setCell ⟨ga, i * 2, none⟩ (.int .i64 v)) b (fun _ => True) (.slice (some ⟨ga, 0, none⟩) n c) ys) ∧ (∀ v : Int, ∃ ys : List S92, ys.length = xs.length ∧ k92.R 92 (W.setCell ⟨ga, i * 2 + 1, none⟩ (.int .i64 v)) b (fun _ => True) (.slice (some ⟨ga, 0, none⟩) n c) ys) := by
 obtain ⟨cs,hl,hM,hcc,hfr⟩ := Kd.R_elem T z92 (i : Int) (by omega) (by omega)
 have hl2 : cs.length = 2 := hl
 obtain ⟨u0,u1,rfl⟩ : ∃ u0 u1,cs = [u0,u1] := by
  match cs,hl2 with
    | [u0, u1], _ => exact ⟨u0, u1, rfl⟩
 rw [Int.toNat_natCast] at hcc hfr
 have x := (rdOf z92 xs (i : Int))
 obtain ⟨x0,x1,rfl,rfl⟩ : ∃ x0 x1 : Int,u0 = .int .i64 x0 ∧ u1 = .int .i64 x1 := by
  obtain ⟨a,b,e1,e2,e3⟩ := hM
  subst e2;subst e3
  injection e1 with e1 e4
  injection e4 with e4 _
  exact ⟨_,_,e1,e4⟩
 refine ⟨⟨_,hcc 0 _ rfl⟩,⟨_,hcc 1 _ rfl⟩,hfr 0,hfr 1,fun v => ?_,fun v => ?_⟩
 ·have hp := Kd.R_seg T (i : Int) (by omega) (by omega) (c := [.int .i64 x0,.int .i64 x1]) (seg := [.int .i64 v]) (j := 0) (x' := (⟨v,x1⟩ : S92)) (okp := fun _ => False) rfl (by rw [Int.toNat_natCast];exact hcc) (show 0 + 1 ≤ 2 from by decide) (k92_mkM _ _ _ (⟨v,x1⟩ : S92)) (fun _ h => h.elim)
  rw [Int.toNat_natCast] at hp
  exact ⟨_,List.length_set,hp.1⟩
 ·have hp := Kd.R_seg T (i : Int) (by omega) (by omega) (c := [.int .i64 x0,.int .i64 x1]) (seg := [.int .i64 v]) (j := 1) (x' := (⟨x0,v⟩ : S92)) (okp := fun _ => False) rfl (by rw [Int.toNat_natCast];exact hcc) (show 1 + 1 ≤ 2 from by decide) (k92_mkM _ _ _ (⟨x0,v⟩ : S92)) (fun _ h => h.elim)
  rw [Int.toNat_natCast] at hp
  exact ⟨_,List.length_set,hp.1⟩
theorem head_any_f (a : Int) (b c : Bool) : ∃ r, spec_l1Head.f a b c = some r := by
 unfold spec_l1Head.f
 cases b <;> cases c <;> exact ⟨_,rfl⟩
end
/-! ### a machine that can be read -/
def Rp (ok : Nat → Prop) (W : World) (A1 : Option Addr) (c1 : Nat) (l1 : List S79) (A2 : Option Addr) (c2 : Nat) (l2 : List S45) (A3 : Option Addr) (c3 : Nat) (l3 : List Int) : Prop := (Kd.F k79 W ok A1 l1.length l1 ∧ l1.length ≤ c1) ∧ (Kd.F k45 W ok A2 l2.length l2 ∧ l2.length ≤ c2) ∧ (Kd.F (Kd.int .i64) W ok A3 l3.length l3 ∧ l3.length ≤ c3) ∧ (l1.length ≤ 300 ∧ sm1 l1) ∧ (l2.length ≤ 250 ∧ sm2 l2) ∧ l3.length ≤ 300
section
variable {P : Program} {fn : Func} {p u1 u2 u3 : Tmp} {ty : TypeId}
theorem results_ct4 (h : fn.results = #[.cell p ty, .tmp u1, .tmp u2, .tmp u3]) (tmps : Array Value) (w : World) (g : Nat) (t : TypeId) (cs : Array Value) (fr : Nat × Nat) (d : TypeDesc) (hp : tmps.getD p undef = .pointer (some ⟨g, 0, none⟩)) (hg : w.heap[g]? = some (.cells cs t fr)) (hu : P.underlying ty = some d) (hd : (match d with | .struct _ | .array _ _ => true | _ => false) = true) (hi : (P.info? ty).map (·.size) = some cs.size) :
  (results fn tmps).run P w = .ok (.tuple #[.agg cs,tmps.getD u1 undef,tmps.getD u2 undef,tmps.getD u3 undef]) w := by
 have hp' : tmps[p]?.getD undef = .pointer (some ⟨g,0,none⟩) := by simpa using hp
 simp [results,h,hp',asAddr,run_loadVar_row w g t ty cs fr d hg hu hd hi]
theorem results_ct3 (h : fn.results = #[.cell p ty, .tmp u1, .tmp u2]) (tmps : Array Value) (w : World) (g : Nat) (t : TypeId) (cs : Array Value) (fr : Nat × Nat) (d : TypeDesc) (hp : tmps.getD p undef = .pointer (some ⟨g, 0, none⟩)) (hg : w.heap[g]? = some (.cells cs t fr)) (hu : P.underlying ty = some d) (hd : (match d with | .struct _ | .array _ _ => true | _ => false) = true) (hi : (P.info? ty).map (·.size) = some cs.size) :
  (results fn tmps).run P w = .ok (.tuple #[.agg cs,tmps.getD u1 undef,tmps.getD u2 undef]) w := by
 have hp' : tmps[p]?.getD undef = .pointer (some ⟨g,0,none⟩) := by simpa using hp
 simp [results,h,hp',asAddr,run_loadVar_row w g t ty cs fr d hg hu hd hi]
end
section
variable {ok ok' S : Nat → Prop} {w0 w wb W W' : World} {g b : Nat} {l : List Int} {A1 : Option Addr} {c1 : Nat} {l1 : List S79} {A2 : Option Addr} {c2 : Nat} {l2 : List S45} {A3 : Option Addr} {c3 : Nat} {l3 : List Int}
theorem Rp.step (h : Rp ok W A1 c1 l1 A2 c2 l2 A3 c3 l3) (hm : ∀ k, ok k → k < W.heap.size → W'.heap[k]? = W.heap[k]?) : Rp ok W' A1 c1 l1 A2 c2 l2 A3 c3 l3 :=
 ⟨⟨Kd.F_step h.1.1 hm,h.1.2⟩,⟨Kd.F_step h.2.1.1 hm,h.2.1.2⟩,⟨Kd.F_step h.2.2.1.1 hm,h.2.2.1.2⟩,h.2.2.2⟩
theorem Rp.mono (h : Rp ok W A1 c1 l1 A2 c2 l2 A3 c3 l3) (hm : ∀ k, ok k → ok' k) : Rp ok' W A1 c1 l1 A2 c2 l2 A3 c3 l3 :=
 ⟨⟨Kd.F_mono h.1.1 hm,h.1.2⟩,⟨Kd.F_mono h.2.1.1 hm,h.2.1.2⟩,⟨Kd.F_mono h.2.2.1.1 hm,h.2.2.1.2⟩,h.2.2.2⟩
theorem Rp.bound (h : Rp ok W A1 c1 l1 A2 c2 l2 A3 c3 l3) : Rp (fun k => ok k ∧ k < W.heap.size) W A1 c1 l1 A2 c2 l2 A3 c3 l3 :=
 ⟨⟨Kd.F_bound h.1.1,h.1.2⟩,⟨Kd.F_bound h.2.1.1,h.2.1.2⟩,⟨Kd.F_bound h.2.2.1.1,h.2.2.1.2⟩,h.2.2.2⟩
theorem Rp.below (h : Rp ok W A1 c1 l1 A2 c2 l2 A3 c3 l3) (hb : Below W.heap.size W W') : Rp ok W' A1 c1 l1 A2 c2 l2 A3 c3 l3 := h.step (fun k _ hlt => hb.block k hlt)
theorem Rp.kept (h : Rp ok W A1 c1 l1 A2 c2 l2 A3 c3 l3) (hk : Kept W W' S) (hn : ∀ k, ok k → ¬ S k) : Rp ok W' A1 c1 l1 A2 c2 l2 A3 c3 l3 := h.step (fun k ho hlt => hk.2 k hlt (hn k ho))
theorem Rp.dr (h : Rp ok W A1 c1 l1 A2 c2 l2 A3 c3 l3) (k : Dr w0 W g l W') (hn : ∀ k, ok k → k ≠ g) : Rp ok W' A1 c1 l1 A2 c2 l2 A3 c3 l3 := h.step (fun q ho hlt => k.2.2.1.2 q hlt (hn q ho) (by simp))
theorem Rp.of (h : Rm wb W g A1 c1 l1 A2 c2 l2 A3 c3 l3) : Rp (fun k => wb.heap.size ≤ k ∧ k ≠ g) W A1 c1 l1 A2 c2 l2 A3 c3 l3 := h
theorem new_any (hl : l.length ≤ maxLen) : ∃ h, spec_l1New.f (l.length + 1) l = some (l, 0, h) := by
 unfold maxLen at hl
 obtain ⟨r,⟨h,rfl⟩,e⟩ := loop_inv (fun k (s : Int × Int) => spec_l1New.l0 k l s.1 s.2) (fun i s => s.2 = (i : Int)) (fun r => ∃ h,r = (l,0,h)) l.length 0
  (fun k i s _ hi hP => .inl ⟨(Go.bits .and .i64 (wrap64 ((wrap64 ((wrap64 (s.1 * 137)) + (wrap64 (rd l s.2)))) + 11)) 1073741823,wrap64 (s.2 + 1)),by
   show wrap64 (s.2 + 1) = ((i + 1 : Nat) : Int)
   rw [hP,wrap_of (by omega) (by omega)];omega,by
   show spec_l1New.l0 (k + 1) l s.1 s.2 = _
   simp only [spec_l1New.l0]
   rw [if_pos (by omega),if_pos (by omega)]⟩)
  (fun k s _ hP => ⟨_,⟨s.1,rfl⟩,by
   show spec_l1New.l0 (k + 1) l s.1 s.2 = _
   simp only [spec_l1New.l0]
   rw [if_neg (by omega)]⟩) l.length 0 (l.length + 1) (wrap64 (101027 + (l.length : Int)),0) (by omega) (by omega) rfl
 exact ⟨h,e⟩
theorem new_calls {A : Option Addr} {c : Nat} (hl : l.length ≤ maxLen) (hr : Kd.C (Kd.int .u8) w A l.length l) (hc : l.length ≤ c) : Calls Try.prog 88 #[.slice A l.length c] w fun e w' => ∃ g : Nat, e = .returned (.pointer (some ⟨g, 0, none⟩)) ∧ w.heap.size ≤ g ∧ Dr w w' g l w' ∧ Below w.heap.size w w' := by
 obtain ⟨h,e⟩ := new_any hl
 refine (spec_l1New.calls _ A c l l 0 h w w (Below.refl _ _) hr hc e).mono ?_
 rintro e w' ⟨g,rfl,hI,hB,hB2⟩
 exact ⟨g,rfl,hI.ge,Dr.refl (Int.le_refl 0) hI hB,hB2⟩
end
/-- What spec.DrawLogged hands back. -/
def DL (w : World) (e : Ending) (w' : World) : Prop := ∃ (b : Bool) (A1 : Option Addr) (c1 : Nat) (l1 : List S79) (A2 : Option Addr) (c2 : Nat) (l2 : List S45) (A3 : Option Addr) (c3 : Nat) (l3 : List Int) (t r k : Int), e = .returned (.tuple #[.agg #[.bool b, .slice A1 l1.length c1, .slice A2 l2.length c2, .slice A3 l3.length c3], .int .i64 t, .int .i64 r, .int .i64 k]) ∧ Rp (fun k => w.heap.size ≤ k) w' A1 c1 l1 A2 c2 l2 A3 c3 l3 ∧ Below w.heap.size w w'
def DC (w : World) (e : Ending) (w' : World) : Prop := ∃ (b : Bool) (A1 : Option Addr) (c1 : Nat) (l1 : List S79) (A2 : Option Addr) (c2 : Nat) (l2 : List S45) (A3 : Option Addr) (c3 : Nat) (l3 : List Int) (t r : Int) (d : Bool), e = .returned (.tuple #[.agg #[.bool b, .slice A1 l1.length c1, .slice A2 l2.length c2, .slice A3 l3.length c3], .int .i64 t, .int .i64 r, .bool d]) ∧ Rp (fun _ => True) w' A1 c1 l1 A2 c2 l2 A3 c3 l3 ∧ Below w.heap.size w w'
def DT (w : World) (e : Ending) (w' : World) : Prop := ∃ (b : Bool) (A1 : Option Addr) (c1 : Nat) (l1 : List S79) (A2 : Option Addr) (c2 : Nat) (l2 : List S45) (A3 : Option Addr) (c3 : Nat) (l3 : List Int) (t r : Int), e = .returned (.tuple #[.agg #[.bool b, .slice A1 l1.length c1, .slice A2 l2.length c2, .slice A3 l3.length c3], .int .i64 t, .int .i64 r]) ∧ Rp (fun _ => True) w' A1 c1 l1 A2 c2 l2 A3 c3 l3 ∧ Below w.heap.size w w'
/-! ### a machine that is read by a law -/
def Mc (W : World) (A1 : Option Addr) (c1 : Nat) (l1 : List S79) (A2 : Option Addr) (c2 : Nat) (l2 : List S45) (A3 : Option Addr) (c3 : Nat) (l3 : List Int) : Prop := (Kd.C k79 W A1 l1.length l1 ∧ l1.length ≤ c1) ∧ (Kd.C k45 W A2 l2.length l2 ∧ l2.length ≤ c2) ∧ (Kd.C (Kd.int .i64) W A3 l3.length l3 ∧ l3.length ≤ c3)
section
variable {ok : Nat → Prop} {W W' : World} {A1 : Option Addr} {c1 : Nat} {l1 : List S79} {A2 : Option Addr} {c2 : Nat} {l2 : List S45} {A3 : Option Addr} {c3 : Nat} {l3 : List Int} {b : Nat} {ok1 ok2 ok3 : Nat → Prop}
theorem Mc.below (h : Mc W A1 c1 l1 A2 c2 l2 A3 c3 l3) (hb : Below W.heap.size W W') : Mc W' A1 c1 l1 A2 c2 l2 A3 c3 l3 := ⟨⟨Kd.C_below h.1.1 hb, h.1.2⟩, ⟨Kd.C_below h.2.1.1 hb, h.2.1.2⟩, ⟨Kd.C_below h.2.2.1 hb, h.2.2.2⟩⟩
theorem Rp.mc (h : Rp ok W A1 c1 l1 A2 c2 l2 A3 c3 l3) : Mc W A1 c1 l1 A2 c2 l2 A3 c3 l3 := ⟨⟨Kd.F_now h.1.1, h.1.2⟩, ⟨Kd.F_now h.2.1.1, h.2.1.2⟩, ⟨Kd.F_now h.2.2.1.1, h.2.2.1.2⟩⟩
theorem Mc.of (T1 : Kd.S k79 79 W b ok1 (.slice A1 l1.length c1) l1) (T2 : Kd.S k45 45 W b ok2 (.slice A2 l2.length c2) l2) (T3 : Kd.R (Kd.int .i64) 2 W b ok3 (.slice A3 l3.length c3) l3) : Mc W A1 c1 l1 A2 c2 l2 A3 c3 l3 :=
 ⟨⟨(Kd.S_reads' T1).2.2,(Kd.S_reads' T1).2.1⟩,⟨(Kd.S_reads' T2).2.2,(Kd.S_reads' T2).2.1⟩,⟨(Kd.R_reads' T3).2.2,(Kd.R_reads' T3).2.1⟩⟩
theorem Mc.nil (W : World) : Mc W none 0 [] none 0 [] none 0 [] := ⟨⟨Kd.C_nil _ _, Nat.le_refl _⟩, ⟨Kd.C_nil _ _, Nat.le_refl _⟩, ⟨Kd.C_nil _ _, Nat.le_refl _⟩⟩
end
/-! ### drawHead_any: function 162 -/
theorem hold_162 {p : Prop} (h : Aside0 p) : p := h.out
set_option maxHeartbeats 8000000 in
set_option maxRecDepth 100000 in
theorem drawHead_any {w0 w : World} {g : Nat} {l : List Int}  (hl : l.length ≤ maxLen) (D0 : Dr w0 w g l w) :
    Calls Try.prog 162 #[.pointer (some ⟨g, 0, none⟩)] w fun e w' => ∃ x : Int, e = .returned (.int .i64 x) ∧ Dr w0 w g l w' := by
 have D := ak D0
 have HL := ak hl
 clear D0 hl
 go_enter Try.func162,Try.ntmps162
 go_wp2_with ((with_reducible refine gcal_ (f := 90) rfl ?_);refine goesL_ (some 4) rfl rfl Try.func90 (by kernel_rfl) rfl #[.pointer (some ⟨g,0,none⟩),.int .i64 10] rfl (by (try simp only [List.map_toArray,List.map_cons,List.map_nil]);first|done|rfl) ?_;refine (once_any 10 (by decide) HL.out D.out).mono ?_;rintro e w1 ⟨x1,rfl,K⟩;refine ⟨_,rfl,?_⟩;refine hold_162 ?_)
 refine ⟨?_⟩
 have D := ak (D.out.trans K)
 clear K
 cases x1 with
  | false =>
  go_wp2_with ((with_reducible refine gcal_ (f := 91) rfl ?_);refine goesL_ (some 11) rfl rfl Try.func91 (by kernel_rfl) rfl #[.pointer (some ⟨g,0,none⟩),.int .i64 60] rfl (by (try simp only [List.map_toArray,List.map_cons,List.map_nil]);first|done|rfl) ?_;refine (below_any 60 (by decide) HL.out D.out).mono ?_;rintro e w2 ⟨x7,rfl,hl_,hu_,K⟩;refine ⟨_,rfl,?_⟩;refine hold_162 ?_)
  refine ⟨?_⟩
  have D := ak (D.out.trans K)
  clear K
  have HLx7 := ak hl_
  have HUx7 := ak (hu_ (by decide))
  clear hl_ hu_
  go_wp2
  go_ret
  exact ⟨_,by first|rfl|(simp;done),D.out⟩
  | true =>
  obtain ⟨y,hy⟩ : ∃ y_ : List Int,y_ = ([(-1),0,4000003,4000004,4000000,4611686018427387904,(-9223372036854775808)] : List Int) := ⟨_,rfl⟩
  have Ny := ak hy
  clear hy
  go_wp2_with ((with_reducible refine gate_dst (N := 5) rfl ?_);refine Kd.R_lit (Kd.int .i64) _ 2 ?hg (N := 5) ?hd (xs := ([(-1),0,4000003,4000004,4000000,4611686018427387904,(-9223372036854775808)] : List Int)) (inner := [.int .i64 (-1),.int .i64 0,.int .i64 4000003,.int .i64 4000004,.int .i64 4000000,.int .i64 4611686018427387904,.int .i64 (-9223372036854775808)]) (ok := fun _ => True) (okp := fun _ => True) ?hr ?hp (fun _ hk => hk) trivial (Below.refl _ _) (Nat.le_refl _) (by simp) ?_;(case hd => rfl);(case hg => rfl);(case hr => first|(go_simp;done)|(go_simp;rfl));(case hp => exact (Reps.one (show Kd.M (Kd.int .i64) _ _ _ (-1) [.int .i64 (-1)] from rfl) (Reps.one (show Kd.M (Kd.int .i64) _ _ _ 0 [.int .i64 0] from rfl) (Reps.one (show Kd.M (Kd.int .i64) _ _ _ 4000003 [.int .i64 4000003] from rfl) (Reps.one (show Kd.M (Kd.int .i64) _ _ _ 4000004 [.int .i64 4000004] from rfl) (Reps.one (show Kd.M (Kd.int .i64) _ _ _ 4000000 [.int .i64 4000000] from rfl) (Reps.one (show Kd.M (Kd.int .i64) _ _ _ 4611686018427387904 [.int .i64 4611686018427387904] from rfl) (Reps.one (show Kd.M (Kd.int .i64) _ _ _ (-9223372036854775808) [.int .i64 (-9223372036854775808)] from rfl) (Reps.none _ _)))))))));intro v_ w3 ho hb hg_ hnew_;clear hg_ hnew_;refine hold_162 ?_)
  refine ⟨?_⟩
  rw [← Ny.out] at ho
  have TL := ak (Kd.R_lower ho D.out.size)
  have D := ak (D.out.below hb)
  clear ho hb
  obtain ⟨Ay,cy,ey⟩ := Kd.R_slice TL.out
  subst ey
  go_wp2_with ((with_reducible refine gcal_ (f := 91) rfl ?_);refine goesL_ (some 7) rfl rfl Try.func91 (by kernel_rfl) rfl #[.pointer (some ⟨g,0,none⟩),.int .i64 7] rfl (by (try simp only [List.map_toArray,List.map_cons,List.map_nil]);first|done|rfl) ?_;refine (below_any 7 (by decide) HL.out D.out).mono ?_;rintro e w4 ⟨x7,rfl,hl_,hu_,K⟩;refine ⟨_,rfl,?_⟩;refine hold_162 ?_)
  refine ⟨?_⟩
  have TL := ak (R_dr TL.out D.out K)
  have D := ak (D.out.trans K)
  clear K
  have HLx7 := ak hl_
  have HUx7 := ak (hu_ (by decide))
  clear hl_ hu_
  have Qx7 : Aside0 (x7 < (y.length : Int)) := ⟨by rw [Ny.out];exact HUx7.out⟩
  obtain ⟨adx7,eax7,hxx7⟩ := Kd.at_int (Kd.R_reads' TL.out).2.2 x7 HLx7.out Qx7.out
  subst eax7
  have pxx7 : (0 ≤ x7) = True := eq_true HLx7.out
  have qxx7 : (x7 < (y.length : Int)) = True := eq_true Qx7.out
  go_wp2
  go_ret
  exact ⟨_,by first|rfl|(simp;done),D.out⟩


open Go.Proofs.Ythplaakckfhaaaa.Gen
/-! ### draw3_any: function 147 -/
theorem hold_147 {p : Prop} (h : Aside0 p) : p := h.out
set_option maxHeartbeats 8000000 in
set_option maxRecDepth 100000 in
theorem draw3_any {w0 w : World} {g : Nat} {l : List Int}  (hl : l.length ≤ maxLen) (D0 : Dr w0 w g l w) :
    Calls Try.prog 147 #[.pointer (some ⟨g, 0, none⟩)] w fun e w' => ∃ (v : Value) (xs : List S92), e = .returned v ∧ Kd.R k92 92 w' w.heap.size (fun _ => True) v xs ∧ xs.length = 6 ∧ Dr w0 w g l w' := by
 have hu := Try.underlying92
 have hu2 := Try.underlying36
 have D := ak D0
 have HL := ak hl
 clear D0 hl
 have hnc : spec_NewCells.f = some (List.replicate 6 z92) := by unfold spec_NewCells.f;rw [if_pos (by decide)]
 go_enter Try.func147,Try.ntmps147
 go_wp2_with ((with_reducible refine gcal_ (f := 158) rfl ?_);refine goesL_ (some 6) rfl rfl Try.func158 (by kernel_rfl) rfl #[] rfl (by (try simp only [List.map_toArray,List.map_cons,List.map_nil]);first|done|rfl) ?_;refine (spec_NewCells.calls _ _ hnc).mono ?_;rintro e w1 ⟨v_,rfl,T,hb⟩;refine ⟨_,rfl,?_⟩;refine hold_147 ?_)
 refine ⟨?_⟩
 have T := ak (Kd.R_lower T D.out.size)
 have D := ak (D.out.below hb)
 clear hb hnc
 obtain ⟨xs,hxs⟩ : ∃ y_,y_ = List.replicate 6 z92 := ⟨_,rfl⟩
 have T := T.out
 rw [← hxs] at T
 have T := ak T
 have hx : xs.length = 6 := by rw [hxs];rfl
 clear hxs
 obtain ⟨ga,ca,ev,hga,_,_⟩ := Kd.R_form T.out (by omega)
 rw [hx] at ev
 subst ev
 clear hga
 go_wp2
 go_loopg [4] 6 (fun gg v4 wr => ∃ (i : Nat) (xs : List S92),v4 = .int .i64 i ∧ i ≤ 6 ∧ 6 - i ≤ gg ∧ xs.length = 6 ∧ Aside0 (k92.R 92 wr w.heap.size (fun _ => True) (.slice (some ⟨ga,0,none⟩) 6 ca) xs) ∧ Aside0 (Dr w0 w g l wr))
 case atStart => exact ⟨0,xs,rfl,by omega,by omega,hx,T,D⟩
 case round =>
  clear T D hx
  obtain ⟨i,xs,rfl,hi,hgg,hx,T,D⟩ := hrel
  by_cases hlt : i < 6
  ·have hjb : decide ((i : Int) < 6) = true := decide_eq_true (by omega)
   go_wp2_with ((with_reducible refine gcal_ (f := 90) rfl ?_);refine goesL_ (some 14) rfl rfl Try.func90 (by kernel_rfl) rfl #[.pointer (some ⟨g,0,none⟩),.int .i64 2] rfl (by (try simp only [List.map_toArray,List.map_cons,List.map_nil]);first|done|rfl) ?_;refine (once_any 2 (by decide) HL.out D.out).mono ?_;rintro e w1 ⟨u,rfl,K⟩;refine ⟨_,rfl,?_⟩;refine hold_147 ?_)
   refine ⟨?_⟩
   have T := ak (R_dr T.out D.out K)
   have D := ak (D.out.trans K)
   clear K
   go_wp2_with ((with_reducible refine gcal_ (f := 91) rfl ?_);refine goesL_ (some 18) rfl rfl Try.func91 (by kernel_rfl) rfl #[.pointer (some ⟨g,0,none⟩),.int .i64 6] rfl (by (try simp only [List.map_toArray,List.map_cons,List.map_nil]);first|done|rfl) ?_;refine (below_any 6 (by decide) HL.out D.out).mono ?_;rintro e w2 ⟨x1,rfl,hl_,hu_,K⟩;refine ⟨_,rfl,?_⟩;refine hold_147 ?_)
   refine ⟨?_⟩
   have T := ak (R_dr T.out D.out K)
   have D := ak (D.out.trans K)
   clear K
   have HLx1 := ak hl_
   have HUx1 := ak (hu_ (by decide))
   clear hl_ hu_
   go_wp2_with ((with_reducible refine gcal_ (f := 90) rfl ?_);refine goesL_ (some 21) rfl rfl Try.func90 (by kernel_rfl) rfl #[.pointer (some ⟨g,0,none⟩),.int .i64 5] rfl (by (try simp only [List.map_toArray,List.map_cons,List.map_nil]);first|done|rfl) ?_;refine (once_any 5 (by decide) HL.out D.out).mono ?_;rintro e w3 ⟨x2,rfl,K⟩;refine ⟨_,rfl,?_⟩;refine hold_147 ?_)
   refine ⟨?_⟩
   have T := ak (R_dr T.out D.out K)
   have D := ak (D.out.trans K)
   clear K
   obtain ⟨hr,hhr⟩ := head_any_f x1 u x2
   go_wp2_with (go_at_call 159;refine (spec_l1Head.calls x1 u x2 hr _ hhr).mono ?_;rintro e w4 ⟨rfl,B0⟩;(try dsimp only);refine hold_147 ?_)
   refine ⟨?_⟩
   have hb := B0.below
   have T := ak (Kd.R_below T.out hb)
   have D := ak (D.out.below hb)
   clear hb B0 hhr
   obtain ⟨⟨ua,hua⟩,⟨ub,hub⟩,hfa,hfb,P0,P1⟩ := cell_put T.out i (by omega)
   have pxi : (0 ≤ (i : Int)) = True := eq_true (by omega)
   have qxi : ((i : Int) < 6) = True := eq_true (by omega)
   have qxn : (i < 6) = True := eq_true (by omega)
   go_upto_region 7 with (fail)
   obtain ⟨zs,hzs,T_⟩ := P0 hr
   have D := ak (D.out.far (p := ⟨ga,i * 2,none⟩) (Kd.R_base T.out ga rfl) (.int .i64 hr))
   have T := ak T_
   have hx : zs.length = 6 := hzs.trans hx
   clear T_ hzs hua hub hfa hfb P0 P1 pxi qxi qxn
   generalize (w4.setCell ⟨ga,i * 2,none⟩ (.int .i64 hr)) = w5 at D T ⊢
   obtain ⟨xs,hxq⟩ : ∃ y_,y_ = zs := ⟨_,rfl⟩
   subst hxq
   cases u with
   | false =>
    go_wp2
    go_roundg (6 - (i + 1))
    case measure => omega
    case rel => exact ⟨i + 1,xs,by go_num,by omega,by omega,hx,T,D⟩
   | true =>
    go_wp2_with ((with_reducible refine gcal_ (f := 160) rfl ?_);refine goesL_ (some 29) rfl rfl Try.func160 (by kernel_rfl) rfl #[.pointer (some ⟨g,0,none⟩),.int .i64 (-50),.int .i64 50] rfl (by (try simp only [List.map_toArray,List.map_cons,List.map_nil]);first|done|rfl) ?_;refine (from_any HL.out D.out).mono ?_;rintro e w6 ⟨x3,rfl,K⟩;refine ⟨_,rfl,?_⟩;refine hold_147 ?_)
    refine ⟨?_⟩
    have T := ak (R_dr T.out D.out K)
    have D := ak (D.out.trans K)
    clear K
    obtain ⟨⟨ua,hua⟩,⟨ub,hub⟩,hfa,hfb,P0,P1⟩ := cell_put T.out i (by omega)
    have pxi : (0 ≤ (i : Int)) = True := eq_true (by omega)
    have qxi : ((i : Int) < 6) = True := eq_true (by omega)
    have qxn : (i < 6) = True := eq_true (by omega)
    go_upto_region 4 with (fail)
    obtain ⟨zs,hzs,T_⟩ := P1 x3
    have D := ak (D.out.far (p := ⟨ga,i * 2 + 1,none⟩) (Kd.R_base T.out ga rfl) (.int .i64 x3))
    have T := ak T_
    have hx : zs.length = 6 := hzs.trans hx
    clear T_ hzs hua hub hfa hfb P0 P1 pxi qxi qxn
    generalize (w6.setCell ⟨ga,i * 2 + 1,none⟩ (.int .i64 x3)) = w7 at D T ⊢
    obtain ⟨xs,hxq⟩ : ∃ y_,y_ = zs := ⟨_,rfl⟩
    subst hxq
    go_wp2
    go_roundg (6 - (i + 1))
    case measure => omega
    case rel => exact ⟨i + 1,xs,by go_num,by omega,by omega,hx,T,D⟩
  ·have hjb : decide ((i : Int) < 6) = false := decide_eq_false (by omega)
   go_wp2
   go_ret
   exact ⟨_,xs,by first|rfl|(simp;done),T.out,hx,D.out⟩


open Go.Proofs.Ythplaakckfhaaaa.Gen
/-! ### drawSet_any: function 165 -/
theorem hold_165 {p : Prop} (h : Aside0 p) : p := h.out
set_option maxHeartbeats 8000000 in
set_option maxRecDepth 100000 in
theorem drawSet_any {w0 w : World} {g : Nat} {l : List Int} (a1 : Int) (hl : l.length ≤ maxLen) (D0 : Dr w0 w g l w) :
    Calls Try.prog 165 #[.pointer (some ⟨g, 0, none⟩), .int .i64 a1] w fun e w' => ∃ (f0 f1 f2 : Int) (f3 : Bool) (f4 : Int), e = .returned (.agg #[.int .i64 f0, .int .i64 f1, .int .i64 f2, .bool f3, .int .i64 f4]) ∧ Dr w0 w g l w' := by
 have hu := Try.underlying127
 have D := ak D0
 have HL := ak hl
 clear D0 hl
 go_enter Try.func165,Try.ntmps165
 go_wp2_with ((with_reducible refine gate_dst (N := 4) rfl ?_);refine bx_ 4 #[.int .i64 0,.int .i64 0,.int .i64 0,.bool false,.int .i64 0] 127 ?_;intro gr hg w1 hbox hb;have hge := ak (Nat.le_of_eq hg.symm);clear hg;refine hold_165 ?_)
 refine ⟨?_⟩
 have BR := ak (show Bk _ w1 gr _ from ⟨Nat.le_trans D.out.size hge.out,hbox⟩)
 have D := ak (D.out.below hb)
 clear hbox hb hge
 go_wp2_with ((with_reducible refine gcal_ (f := 91) rfl ?_);refine goesL_ (some 8) rfl rfl Try.func91 (by kernel_rfl) rfl #[.pointer (some ⟨g,0,none⟩),.int .i64 6] rfl (by (try simp only [List.map_toArray,List.map_cons,List.map_nil]);first|done|rfl) ?_;refine (below_any 6 (by decide) HL.out D.out).mono ?_;rintro e w2 ⟨x1,rfl,hl_,hu_,K⟩;refine ⟨_,rfl,?_⟩;refine hold_165 ?_)
 refine ⟨?_⟩
 have BR := ak (BR.out.dr D.out K)
 have D := ak (D.out.trans K)
 clear K
 have HLx1 := ak hl_
 have HUx1 := ak (hu_ (by decide))
 clear hl_ hu_
 go_wp2_with ((with_reducible refine gcal_ (f := 160) rfl ?_);refine goesL_ (some 10) rfl rfl Try.func160 (by kernel_rfl) rfl #[.pointer (some ⟨g,0,none⟩),.int .i64 (-50),.int .i64 50] rfl (by (try simp only [List.map_toArray,List.map_cons,List.map_nil]);first|done|rfl) ?_;refine (from_any HL.out D.out).mono ?_;rintro e w3 ⟨x2,rfl,K⟩;refine ⟨_,rfl,?_⟩;refine hold_165 ?_)
 refine ⟨?_⟩
 have BR := ak (BR.out.dr D.out K)
 have D := ak (D.out.trans K)
 clear K
 go_wp2_with ((with_reducible refine gcal_ (f := 90) rfl ?_);refine goesL_ (some 12) rfl rfl Try.func90 (by kernel_rfl) rfl #[.pointer (some ⟨g,0,none⟩),.int .i64 2] rfl (by (try simp only [List.map_toArray,List.map_cons,List.map_nil]);first|done|rfl) ?_;refine (once_any 2 (by decide) HL.out D.out).mono ?_;rintro e w4 ⟨x3,rfl,K⟩;refine ⟨_,rfl,?_⟩;refine hold_165 ?_)
 refine ⟨?_⟩
 have BR := ak (BR.out.dr D.out K)
 have D := ak (D.out.trans K)
 clear K
 go_wp2_with ((with_reducible refine gcal_ (f := 91) rfl ?_);refine goesL_ (some 14) rfl rfl Try.func91 (by kernel_rfl) rfl #[.pointer (some ⟨g,0,none⟩),.int .i64 6] rfl (by (try simp only [List.map_toArray,List.map_cons,List.map_nil]);first|done|rfl) ?_;refine (below_any 6 (by decide) HL.out D.out).mono ?_;rintro e w5 ⟨x4,rfl,hl_,hu_,K⟩;refine ⟨_,rfl,?_⟩;refine hold_165 ?_)
 refine ⟨?_⟩
 have BR := ak (BR.out.dr D.out K)
 have D := ak (D.out.trans K)
 clear K
 have HLx4 := ak hl_
 have HUx4 := ak (hu_ (by decide))
 clear hl_ hu_
 go_wp2_with ((with_reducible refine gate_dst (N := 5) rfl ?_);refine bx_ 5 #[.int .i64 0,.int .i64 0,.int .i64 0,.bool false,.int .i64 0] 127 ?_;intro gs hg w6 hbox hb;have hge := ak (Nat.le_of_eq hg.symm);clear hg;refine hold_165 ?_)
 refine ⟨?_⟩
 have NEBRBS := ak (Nat.ne_of_lt (Nat.lt_of_lt_of_le (blk_lt BR.out.2) hge.out))
 have BS := ak (show Bk _ w6 gs _ from ⟨Nat.le_trans D.out.size hge.out,hbox⟩)
 have BR := ak (BR.out.below hb)
 have D := ak (D.out.below hb)
 clear hbox hb hge
 obtain ⟨⟨hc7_0,hc7_1,hc7_2,hc7_3,hc7_4⟩,hf7_0,hf7_1,hf7_2,hf7_3,hf7_4⟩ := cl5_ BS.out.2
 go_upto_region 2 with (fail)
 have KS := ak (kept5_ (W := w6) (b := gs) (.int .i64 a1) (.int .i64 x1) (.int .i64 x2) (.bool x3) (.int .i64 x4))
 have D := ak (D.out.far5 BS.out.1 (.int .i64 a1) (.int .i64 x1) (.int .i64 x2) (.bool x3) (.int .i64 x4))
 have BR := ak (BR.out.kept KS.out NEBRBS.out)
 have BS := ak (BS.out.put5 (.int .i64 a1) (.int .i64 x1) (.int .i64 x2) (.bool x3) (.int .i64 x4))
 clear KS
 generalize (((((w6.setCell ⟨gs,0,none⟩ (.int .i64 a1)).setCell ⟨gs,1,none⟩ (.int .i64 x1)).setCell ⟨gs,2,none⟩ (.int .i64 x2)).setCell ⟨gs,3,none⟩ (.bool x3)).setCell ⟨gs,4,none⟩ (.int .i64 x4)) = w8 at D BR BS ⊢
 go_wp2_with ((with_reducible refine gcal_ (f := 90) rfl ?_);refine goesL_ (some 17) rfl rfl Try.func90 (by kernel_rfl) rfl #[.pointer (some ⟨g,0,none⟩),.int .i64 30] rfl (by (try simp only [List.map_toArray,List.map_cons,List.map_nil]);first|done|rfl) ?_;refine (once_any 30 (by decide) HL.out D.out).mono ?_;rintro e w9 ⟨x5,rfl,K⟩;refine ⟨_,rfl,?_⟩;refine hold_165 ?_)
 refine ⟨?_⟩
 have BR := ak (BR.out.dr D.out K)
 have BS := ak (BS.out.dr D.out K)
 have D := ak (D.out.trans K)
 clear K
 cases x5 with
  | false =>
  obtain ⟨⟨hc10_0,hc10_1,hc10_2,hc10_3,hc10_4⟩,hf10_0,hf10_1,hf10_2,hf10_3,hf10_4⟩ := cl5_ BS.out.2
  obtain ⟨⟨hc11_0,hc11_1,hc11_2,hc11_3,hc11_4⟩,hf11_0,hf11_1,hf11_2,hf11_3,hf11_4⟩ := cl5_ BR.out.2
  go_wp2
  refine bodyPost_ret (results_cell_row rfl _ _ gr 127 #[.int .i64 a1,.int .i64 x1,.int .i64 x2,.bool x3,.int .i64 x4] (0,0) _ rfl (put5_ BR.out.2 _ _ _ _ _) Try.underlying127 rfl (by kernel_rfl)) rfl ?_
  exact ⟨_,_,_,_,_,by first|rfl|(simp;done),D.out.far5 BR.out.1 _ _ _ _ _⟩
  | true =>
  go_wp2_with ((with_reducible refine gcal_ (f := 91) rfl ?_);refine goesL_ (some 19) rfl rfl Try.func91 (by kernel_rfl) rfl #[.pointer (some ⟨g,0,none⟩),.int .i64 4] rfl (by (try simp only [List.map_toArray,List.map_cons,List.map_nil]);first|done|rfl) ?_;refine (below_any 4 (by decide) HL.out D.out).mono ?_;rintro e w12 ⟨x6,rfl,hl_,hu_,K⟩;refine ⟨_,rfl,?_⟩;refine hold_165 ?_)
  refine ⟨?_⟩
  have BR := ak (BR.out.dr D.out K)
  have BS := ak (BS.out.dr D.out K)
  have D := ak (D.out.trans K)
  clear K
  have HLx6 := ak hl_
  have HUx6 := ak (hu_ (by decide))
  clear hl_ hu_
  by_cases cs0 : x6 = 0
  ·subst cs0
   obtain ⟨y,hy⟩ : ∃ y_ : List Int,y_ = ([(-1),5,6,(wrap64 (a1 + 1))] : List Int) := ⟨_,rfl⟩
   have Ny := ak hy
   clear hy
   go_wp2_with ((with_reducible refine gate_dst (N := 24) rfl ?_);refine Kd.R_lit (Kd.int .i64) _ 2 ?hg (N := 24) ?hd (xs := ([(-1),5,6,(wrap64 (a1 + 1))] : List Int)) (inner := [.int .i64 (-1),.int .i64 5,.int .i64 6,.int .i64 (wrap64 (a1 + 1))]) (ok := fun _ => True) (okp := fun _ => True) ?hr ?hp (fun _ hk => hk) trivial (Below.refl _ _) (Nat.le_refl _) (by simp) ?_;(case hd => rfl);(case hg => rfl);(case hr => first|(go_simp;done)|(go_simp;rfl));(case hp => exact (Reps.one (show Kd.M (Kd.int .i64) _ _ _ (-1) [.int .i64 (-1)] from rfl) (Reps.one (show Kd.M (Kd.int .i64) _ _ _ 5 [.int .i64 5] from rfl) (Reps.one (show Kd.M (Kd.int .i64) _ _ _ 6 [.int .i64 6] from rfl) (Reps.one (show Kd.M (Kd.int .i64) _ _ _ (wrap64 (a1 + 1)) [.int .i64 (wrap64 (a1 + 1))] from rfl) (Reps.none _ _))))));intro v_ w13 ho hb hg_ hnew_;clear hg_ hnew_;refine hold_165 ?_)
   refine ⟨?_⟩
   rw [← Ny.out] at ho
   have TL := ak (Kd.R_lower ho D.out.size)
   have BR := ak (BR.out.below hb)
   have BS := ak (BS.out.below hb)
   have D := ak (D.out.below hb)
   clear ho hb
   obtain ⟨Ay,cy,ey⟩ := Kd.R_slice TL.out
   subst ey
   go_wp2_with ((with_reducible refine gcal_ (f := 91) rfl ?_);refine goesL_ (some 26) rfl rfl Try.func91 (by kernel_rfl) rfl #[.pointer (some ⟨g,0,none⟩),.int .i64 4] rfl (by (try simp only [List.map_toArray,List.map_cons,List.map_nil]);first|done|rfl) ?_;refine (below_any 4 (by decide) HL.out D.out).mono ?_;rintro e w14 ⟨x7,rfl,hl_,hu_,K⟩;refine ⟨_,rfl,?_⟩;refine hold_165 ?_)
   refine ⟨?_⟩
   have BR := ak (BR.out.dr D.out K)
   have BS := ak (BS.out.dr D.out K)
   have TL := ak (R_dr TL.out D.out K)
   have D := ak (D.out.trans K)
   clear K
   have HLx7 := ak hl_
   have HUx7 := ak (hu_ (by decide))
   clear hl_ hu_
   have Qx7 : Aside0 (x7 < (y.length : Int)) := ⟨by rw [Ny.out];exact HUx7.out⟩
   obtain ⟨adx7,eax7,hxx7⟩ := Kd.at_int (Kd.R_reads' TL.out).2.2 x7 HLx7.out Qx7.out
   subst eax7
   have pxx7 : (0 ≤ x7) = True := eq_true HLx7.out
   have qxx7 : (x7 < (y.length : Int)) = True := eq_true Qx7.out
   obtain ⟨⟨hc15_0,hc15_1,hc15_2,hc15_3,hc15_4⟩,hf15_0,hf15_1,hf15_2,hf15_3,hf15_4⟩ := cl5_ BS.out.2
   go_upto_region 12 with (fail)
   have KS := ak (kept1_ (W := w14) (b := gs) 0 (.int .i64 (rd y x7)))
   have D := ak (D.out.far (p := ⟨gs,0,none⟩) BS.out.1 (.int .i64 (rd y x7)))
   have BR := ak (BR.out.kept KS.out NEBRBS.out)
   have BS := ak (BS.out.put1 0 (.int .i64 (rd y x7)) (cs' := #[.int .i64 (rd y x7),.int .i64 x1,.int .i64 x2,.bool x3,.int .i64 x4]) rfl)
   clear KS
   generalize (w14.setCell ⟨gs,0,none⟩ (.int .i64 (rd y x7))) = w16 at D BR BS ⊢
   obtain ⟨⟨hc17_0,hc17_1,hc17_2,hc17_3,hc17_4⟩,hf17_0,hf17_1,hf17_2,hf17_3,hf17_4⟩ := cl5_ BS.out.2
   obtain ⟨⟨hc18_0,hc18_1,hc18_2,hc18_3,hc18_4⟩,hf18_0,hf18_1,hf18_2,hf18_3,hf18_4⟩ := cl5_ BR.out.2
   go_wp2
   refine bodyPost_ret (results_cell_row rfl _ _ gr 127 #[.int .i64 (rd y x7),.int .i64 x1,.int .i64 x2,.bool x3,.int .i64 x4] (0,0) _ rfl (put5_ BR.out.2 _ _ _ _ _) Try.underlying127 rfl (by kernel_rfl)) rfl ?_
   exact ⟨_,_,_,_,_,by first|rfl|(simp;done),D.out.far5 BR.out.1 _ _ _ _ _⟩
  have csb0 : (x6 == 0) = false := beq_eq_false_iff_ne.mpr cs0
  have NC0 := ak cs0
  clear cs0
  by_cases cs1 : x6 = 1
  ·subst cs1
   obtain ⟨y,hy⟩ : ∃ y_ : List Int,y_ = ([(-1),6] : List Int) := ⟨_,rfl⟩
   have Ny := ak hy
   clear hy
   go_wp2_with ((with_reducible refine gate_dst (N := 32) rfl ?_);refine Kd.R_lit (Kd.int .i64) _ 2 ?hg (N := 32) ?hd (xs := ([(-1),6] : List Int)) (inner := [.int .i64 (-1),.int .i64 6]) (ok := fun _ => True) (okp := fun _ => True) ?hr ?hp (fun _ hk => hk) trivial (Below.refl _ _) (Nat.le_refl _) (by simp) ?_;(case hd => rfl);(case hg => rfl);(case hr => first|(go_simp;done)|(go_simp;rfl));(case hp => exact (Reps.one (show Kd.M (Kd.int .i64) _ _ _ (-1) [.int .i64 (-1)] from rfl) (Reps.one (show Kd.M (Kd.int .i64) _ _ _ 6 [.int .i64 6] from rfl) (Reps.none _ _))));intro v_ w19 ho hb hg_ hnew_;clear hg_ hnew_;refine hold_165 ?_)
   refine ⟨?_⟩
   rw [← Ny.out] at ho
   have TL := ak (Kd.R_lower ho D.out.size)
   have BR := ak (BR.out.below hb)
   have BS := ak (BS.out.below hb)
   have D := ak (D.out.below hb)
   clear ho hb
   obtain ⟨Ay,cy,ey⟩ := Kd.R_slice TL.out
   subst ey
   go_wp2_with ((with_reducible refine gcal_ (f := 91) rfl ?_);refine goesL_ (some 34) rfl rfl Try.func91 (by kernel_rfl) rfl #[.pointer (some ⟨g,0,none⟩),.int .i64 2] rfl (by (try simp only [List.map_toArray,List.map_cons,List.map_nil]);first|done|rfl) ?_;refine (below_any 2 (by decide) HL.out D.out).mono ?_;rintro e w20 ⟨x7,rfl,hl_,hu_,K⟩;refine ⟨_,rfl,?_⟩;refine hold_165 ?_)
   refine ⟨?_⟩
   have BR := ak (BR.out.dr D.out K)
   have BS := ak (BS.out.dr D.out K)
   have TL := ak (R_dr TL.out D.out K)
   have D := ak (D.out.trans K)
   clear K
   have HLx7 := ak hl_
   have HUx7 := ak (hu_ (by decide))
   clear hl_ hu_
   have Qx7 : Aside0 (x7 < (y.length : Int)) := ⟨by rw [Ny.out];exact HUx7.out⟩
   obtain ⟨adx7,eax7,hxx7⟩ := Kd.at_int (Kd.R_reads' TL.out).2.2 x7 HLx7.out Qx7.out
   subst eax7
   have pxx7 : (0 ≤ x7) = True := eq_true HLx7.out
   have qxx7 : (x7 < (y.length : Int)) = True := eq_true Qx7.out
   obtain ⟨⟨hc21_0,hc21_1,hc21_2,hc21_3,hc21_4⟩,hf21_0,hf21_1,hf21_2,hf21_3,hf21_4⟩ := cl5_ BS.out.2
   go_upto_region 12 with (fail)
   have KS := ak (kept1_ (W := w20) (b := gs) 1 (.int .i64 (rd y x7)))
   have D := ak (D.out.far (p := ⟨gs,1,none⟩) BS.out.1 (.int .i64 (rd y x7)))
   have BR := ak (BR.out.kept KS.out NEBRBS.out)
   have BS := ak (BS.out.put1 1 (.int .i64 (rd y x7)) (cs' := #[.int .i64 a1,.int .i64 (rd y x7),.int .i64 x2,.bool x3,.int .i64 x4]) rfl)
   clear KS
   generalize (w20.setCell ⟨gs,1,none⟩ (.int .i64 (rd y x7))) = w22 at D BR BS ⊢
   obtain ⟨⟨hc23_0,hc23_1,hc23_2,hc23_3,hc23_4⟩,hf23_0,hf23_1,hf23_2,hf23_3,hf23_4⟩ := cl5_ BS.out.2
   obtain ⟨⟨hc24_0,hc24_1,hc24_2,hc24_3,hc24_4⟩,hf24_0,hf24_1,hf24_2,hf24_3,hf24_4⟩ := cl5_ BR.out.2
   go_wp2
   refine bodyPost_ret (results_cell_row rfl _ _ gr 127 #[.int .i64 a1,.int .i64 (rd y x7),.int .i64 x2,.bool x3,.int .i64 x4] (0,0) _ rfl (put5_ BR.out.2 _ _ _ _ _) Try.underlying127 rfl (by kernel_rfl)) rfl ?_
   exact ⟨_,_,_,_,_,by first|rfl|(simp;done),D.out.far5 BR.out.1 _ _ _ _ _⟩
  have csb1 : (x6 == 1) = false := beq_eq_false_iff_ne.mpr cs1
  have NC1 := ak cs1
  clear cs1
  by_cases cs2 : x6 = 2
  ·subst cs2
   obtain ⟨y,hy⟩ : ∃ y_ : List Int,y_ = ([1000000000,1000000001,(-1000000001),(-9223372036854775808)] : List Int) := ⟨_,rfl⟩
   have Ny := ak hy
   clear hy
   go_wp2_with ((with_reducible refine gate_dst (N := 40) rfl ?_);refine Kd.R_lit (Kd.int .i64) _ 2 ?hg (N := 40) ?hd (xs := ([1000000000,1000000001,(-1000000001),(-9223372036854775808)] : List Int)) (inner := [.int .i64 1000000000,.int .i64 1000000001,.int .i64 (-1000000001),.int .i64 (-9223372036854775808)]) (ok := fun _ => True) (okp := fun _ => True) ?hr ?hp (fun _ hk => hk) trivial (Below.refl _ _) (Nat.le_refl _) (by simp) ?_;(case hd => rfl);(case hg => rfl);(case hr => first|(go_simp;done)|(go_simp;rfl));(case hp => exact (Reps.one (show Kd.M (Kd.int .i64) _ _ _ 1000000000 [.int .i64 1000000000] from rfl) (Reps.one (show Kd.M (Kd.int .i64) _ _ _ 1000000001 [.int .i64 1000000001] from rfl) (Reps.one (show Kd.M (Kd.int .i64) _ _ _ (-1000000001) [.int .i64 (-1000000001)] from rfl) (Reps.one (show Kd.M (Kd.int .i64) _ _ _ (-9223372036854775808) [.int .i64 (-9223372036854775808)] from rfl) (Reps.none _ _))))));intro v_ w25 ho hb hg_ hnew_;clear hg_ hnew_;refine hold_165 ?_)
   refine ⟨?_⟩
   rw [← Ny.out] at ho
   have TL := ak (Kd.R_lower ho D.out.size)
   have BR := ak (BR.out.below hb)
   have BS := ak (BS.out.below hb)
   have D := ak (D.out.below hb)
   clear ho hb
   obtain ⟨Ay,cy,ey⟩ := Kd.R_slice TL.out
   subst ey
   go_wp2_with ((with_reducible refine gcal_ (f := 91) rfl ?_);refine goesL_ (some 42) rfl rfl Try.func91 (by kernel_rfl) rfl #[.pointer (some ⟨g,0,none⟩),.int .i64 4] rfl (by (try simp only [List.map_toArray,List.map_cons,List.map_nil]);first|done|rfl) ?_;refine (below_any 4 (by decide) HL.out D.out).mono ?_;rintro e w26 ⟨x7,rfl,hl_,hu_,K⟩;refine ⟨_,rfl,?_⟩;refine hold_165 ?_)
   refine ⟨?_⟩
   have BR := ak (BR.out.dr D.out K)
   have BS := ak (BS.out.dr D.out K)
   have TL := ak (R_dr TL.out D.out K)
   have D := ak (D.out.trans K)
   clear K
   have HLx7 := ak hl_
   have HUx7 := ak (hu_ (by decide))
   clear hl_ hu_
   have Qx7 : Aside0 (x7 < (y.length : Int)) := ⟨by rw [Ny.out];exact HUx7.out⟩
   obtain ⟨adx7,eax7,hxx7⟩ := Kd.at_int (Kd.R_reads' TL.out).2.2 x7 HLx7.out Qx7.out
   subst eax7
   have pxx7 : (0 ≤ x7) = True := eq_true HLx7.out
   have qxx7 : (x7 < (y.length : Int)) = True := eq_true Qx7.out
   obtain ⟨⟨hc27_0,hc27_1,hc27_2,hc27_3,hc27_4⟩,hf27_0,hf27_1,hf27_2,hf27_3,hf27_4⟩ := cl5_ BS.out.2
   go_upto_region 12 with (fail)
   have KS := ak (kept1_ (W := w26) (b := gs) 2 (.int .i64 (rd y x7)))
   have D := ak (D.out.far (p := ⟨gs,2,none⟩) BS.out.1 (.int .i64 (rd y x7)))
   have BR := ak (BR.out.kept KS.out NEBRBS.out)
   have BS := ak (BS.out.put1 2 (.int .i64 (rd y x7)) (cs' := #[.int .i64 a1,.int .i64 x1,.int .i64 (rd y x7),.bool x3,.int .i64 x4]) rfl)
   clear KS
   generalize (w26.setCell ⟨gs,2,none⟩ (.int .i64 (rd y x7))) = w28 at D BR BS ⊢
   obtain ⟨⟨hc29_0,hc29_1,hc29_2,hc29_3,hc29_4⟩,hf29_0,hf29_1,hf29_2,hf29_3,hf29_4⟩ := cl5_ BS.out.2
   obtain ⟨⟨hc30_0,hc30_1,hc30_2,hc30_3,hc30_4⟩,hf30_0,hf30_1,hf30_2,hf30_3,hf30_4⟩ := cl5_ BR.out.2
   go_wp2
   refine bodyPost_ret (results_cell_row rfl _ _ gr 127 #[.int .i64 a1,.int .i64 x1,.int .i64 (rd y x7),.bool x3,.int .i64 x4] (0,0) _ rfl (put5_ BR.out.2 _ _ _ _ _) Try.underlying127 rfl (by kernel_rfl)) rfl ?_
   exact ⟨_,_,_,_,_,by first|rfl|(simp;done),D.out.far5 BR.out.1 _ _ _ _ _⟩
  have csb2 : (x6 == 2) = false := beq_eq_false_iff_ne.mpr cs2
  have NC2 := ak cs2
  clear cs2
  by_cases cs3 : x6 = 3
  ·subst cs3
   obtain ⟨y,hy⟩ : ∃ y_ : List Int,y_ = ([(-1),999999,1000000] : List Int) := ⟨_,rfl⟩
   have Ny := ak hy
   clear hy
   go_wp2_with ((with_reducible refine gate_dst (N := 48) rfl ?_);refine Kd.R_lit (Kd.int .i64) _ 2 ?hg (N := 48) ?hd (xs := ([(-1),999999,1000000] : List Int)) (inner := [.int .i64 (-1),.int .i64 999999,.int .i64 1000000]) (ok := fun _ => True) (okp := fun _ => True) ?hr ?hp (fun _ hk => hk) trivial (Below.refl _ _) (Nat.le_refl _) (by simp) ?_;(case hd => rfl);(case hg => rfl);(case hr => first|(go_simp;done)|(go_simp;rfl));(case hp => exact (Reps.one (show Kd.M (Kd.int .i64) _ _ _ (-1) [.int .i64 (-1)] from rfl) (Reps.one (show Kd.M (Kd.int .i64) _ _ _ 999999 [.int .i64 999999] from rfl) (Reps.one (show Kd.M (Kd.int .i64) _ _ _ 1000000 [.int .i64 1000000] from rfl) (Reps.none _ _)))));intro v_ w31 ho hb hg_ hnew_;clear hg_ hnew_;refine hold_165 ?_)
   refine ⟨?_⟩
   rw [← Ny.out] at ho
   have TL := ak (Kd.R_lower ho D.out.size)
   have BR := ak (BR.out.below hb)
   have BS := ak (BS.out.below hb)
   have D := ak (D.out.below hb)
   clear ho hb
   obtain ⟨Ay,cy,ey⟩ := Kd.R_slice TL.out
   subst ey
   go_wp2_with ((with_reducible refine gcal_ (f := 91) rfl ?_);refine goesL_ (some 50) rfl rfl Try.func91 (by kernel_rfl) rfl #[.pointer (some ⟨g,0,none⟩),.int .i64 3] rfl (by (try simp only [List.map_toArray,List.map_cons,List.map_nil]);first|done|rfl) ?_;refine (below_any 3 (by decide) HL.out D.out).mono ?_;rintro e w32 ⟨x7,rfl,hl_,hu_,K⟩;refine ⟨_,rfl,?_⟩;refine hold_165 ?_)
   refine ⟨?_⟩
   have BR := ak (BR.out.dr D.out K)
   have BS := ak (BS.out.dr D.out K)
   have TL := ak (R_dr TL.out D.out K)
   have D := ak (D.out.trans K)
   clear K
   have HLx7 := ak hl_
   have HUx7 := ak (hu_ (by decide))
   clear hl_ hu_
   have Qx7 : Aside0 (x7 < (y.length : Int)) := ⟨by rw [Ny.out];exact HUx7.out⟩
   obtain ⟨adx7,eax7,hxx7⟩ := Kd.at_int (Kd.R_reads' TL.out).2.2 x7 HLx7.out Qx7.out
   subst eax7
   have pxx7 : (0 ≤ x7) = True := eq_true HLx7.out
   have qxx7 : (x7 < (y.length : Int)) = True := eq_true Qx7.out
   obtain ⟨⟨hc33_0,hc33_1,hc33_2,hc33_3,hc33_4⟩,hf33_0,hf33_1,hf33_2,hf33_3,hf33_4⟩ := cl5_ BS.out.2
   go_upto_region 12 with (fail)
   have KS := ak (kept1_ (W := w32) (b := gs) 4 (.int .i64 (rd y x7)))
   have D := ak (D.out.far (p := ⟨gs,4,none⟩) BS.out.1 (.int .i64 (rd y x7)))
   have BR := ak (BR.out.kept KS.out NEBRBS.out)
   have BS := ak (BS.out.put1 4 (.int .i64 (rd y x7)) (cs' := #[.int .i64 a1,.int .i64 x1,.int .i64 x2,.bool x3,.int .i64 (rd y x7)]) rfl)
   clear KS
   generalize (w32.setCell ⟨gs,4,none⟩ (.int .i64 (rd y x7))) = w34 at D BR BS ⊢
   obtain ⟨⟨hc35_0,hc35_1,hc35_2,hc35_3,hc35_4⟩,hf35_0,hf35_1,hf35_2,hf35_3,hf35_4⟩ := cl5_ BS.out.2
   obtain ⟨⟨hc36_0,hc36_1,hc36_2,hc36_3,hc36_4⟩,hf36_0,hf36_1,hf36_2,hf36_3,hf36_4⟩ := cl5_ BR.out.2
   go_wp2
   refine bodyPost_ret (results_cell_row rfl _ _ gr 127 #[.int .i64 a1,.int .i64 x1,.int .i64 x2,.bool x3,.int .i64 (rd y x7)] (0,0) _ rfl (put5_ BR.out.2 _ _ _ _ _) Try.underlying127 rfl (by kernel_rfl)) rfl ?_
   exact ⟨_,_,_,_,_,by first|rfl|(simp;done),D.out.far5 BR.out.1 _ _ _ _ _⟩
  have csb3 : (x6 == 3) = false := beq_eq_false_iff_ne.mpr cs3
  have NC3 := ak cs3
  clear cs3
  exfalso
  have h0_ := HLx6.out
  have h1_ := HUx6.out
  have n0_ := NC0.out
  have n1_ := NC1.out
  have n2_ := NC2.out
  have n3_ := NC3.out
  omega


open Go.Proofs.Ythplaakckfhaaaa.Gen
/-! ### drawSets_any: function 161 -/
theorem hold_161 {p : Prop} (h : Aside0 p) : p := h.out
set_option maxHeartbeats 8000000 in
set_option maxRecDepth 100000 in
theorem drawSets_any {w0 w : World} {g : Nat} {l : List Int} (a1 : Int) (hl : l.length ≤ maxLen) (D0 : Dr w0 w g l w) :
    Calls Try.prog 161 #[.pointer (some ⟨g, 0, none⟩), .int .i64 a1] w fun e w' => ∃ (v : Value) (xs : List S127), e = .returned v ∧ Kd.R k127 127 w' w.heap.size (fun _ => True) v xs ∧ xs.length ≤ 7 ∧ Dr w0 w g l w' := by
 have hu := Try.underlying127
 have hu2 := Try.underlying43
 have D := ak D0
 have HL := ak hl
 clear D0 hl
 go_enter Try.func161,Try.ntmps161
 go_wp2_with ((with_reducible refine gate_dst (N := 8) rfl ?_);refine Kd.R_lit k127 _ 127 ?hg (N := 8) ?hd (xs := ([] : List S127)) (inner := []) (ok := fun _ => True) (okp := fun _ => True) ?hr ?hp (fun _ hk => hk) trivial (Below.refl _ _) (Nat.le_refl _) (by simp) ?_;(case hd => rfl);(case hg => rfl);(case hr => first|(go_simp;done)|(go_simp;rfl));(case hp => exact (Reps.none _ _));intro v_ w1 ho hb hg_ hnew_;clear hg_ hnew_;refine hold_161 ?_)
 refine ⟨?_⟩
 have T := ak (Kd.R_lower ho D.out.size)
 have D := ak (D.out.below hb)
 clear ho hb
 go_wp2
 go_loopg [5,6] 6 (fun gg v5 v6 wr => ∃ (xs : List S127) (j : Nat),v6 = .int .i64 j ∧ j ≤ 6 ∧ 6 - j ≤ gg ∧ xs.length ≤ j ∧ Aside0 (Kd.R k127 127 wr w.heap.size (fun _ => True) v5 xs) ∧ Aside0 (Dr w0 w g l wr))
 case atStart => exact ⟨[],0,rfl,by omega,by omega,Nat.le_refl _,T,D⟩
 case round =>
  clear T D
  obtain ⟨xs,j,rfl,hj,hgg,hx,T,D⟩ := hrel
  by_cases hlt : j < 6
  ·have hjb : decide ((j : Int) < 6) = true := decide_eq_true (by omega)
   go_wp2_with ((with_reducible refine gcal_ (f := 90) rfl ?_);refine goesL_ (some 14) rfl rfl Try.func90 (by kernel_rfl) rfl #[.pointer (some ⟨g,0,none⟩),.int .i64 3] rfl (by (try simp only [List.map_toArray,List.map_cons,List.map_nil]);first|done|rfl) ?_;refine (once_any 3 (by decide) HL.out D.out).mono ?_;rintro e w2 ⟨x1,rfl,K⟩;refine ⟨_,rfl,?_⟩;refine hold_161 ?_)
   refine ⟨?_⟩
   have T := ak (R_dr T.out D.out K)
   have D := ak (D.out.trans K)
   clear K
   cases x1 with
   | false =>
    go_wp2
    go_roundg (6 - (j + 1))
    case measure => omega
    case rel => exact ⟨xs,j + 1,by go_num,by omega,by omega,by omega,T,D⟩
   | true =>
    have DO := D
    have D := ak D.out.self
    go_wp2_with ((with_reducible refine gcal_ (f := 165) rfl ?_);refine goesL_ (some 17) rfl rfl Try.func165 (by kernel_rfl) rfl #[.pointer (some ⟨g,0,none⟩),.int .i64 a1] rfl (by (try simp only [List.map_toArray,List.map_cons,List.map_nil]);first|done|rfl) ?_;refine (drawSet_any a1 HL.out D.out.self).mono ?_;rintro e w3 ⟨f0,f1,f2,f3,f4,rfl,K⟩;refine ⟨_,rfl,?_⟩;refine hold_161 ?_)
    refine ⟨?_⟩
    have D := ak (D.out.trans K)
    clear K
    go_wp2_with ((with_reducible refine gate_dst (N := 7) rfl ?_);refine bx_ 7 #[.int .i64 0,.int .i64 0,.int .i64 0,.bool false,.int .i64 0] 127 ?_;intro gs hg w4 hbox hb;have hge := ak (Nat.le_of_eq hg.symm);clear hg;refine hold_161 ?_)
    refine ⟨?_⟩
    have BS := ak (show Bk _ w4 gs _ from ⟨Nat.le_trans D.out.size hge.out,hbox⟩)
    have D := ak (D.out.below hb)
    clear hbox hb hge
    obtain ⟨⟨hc5_0,hc5_1,hc5_2,hc5_3,hc5_4⟩,hf5_0,hf5_1,hf5_2,hf5_3,hf5_4⟩ := cl5_ BS.out.2
    go_upto_region 7 with (fail)
    have KS := ak (kept5_ (W := w4) (b := gs) (.int .i64 f0) (.int .i64 f1) (.int .i64 f2) (.bool f3) (.int .i64 f4))
    have D := ak (D.out.far5 BS.out.1 (.int .i64 f0) (.int .i64 f1) (.int .i64 f2) (.bool f3) (.int .i64 f4))
    have BS := ak (BS.out.put5 (.int .i64 f0) (.int .i64 f1) (.int .i64 f2) (.bool f3) (.int .i64 f4))
    clear KS
    generalize (((((w4.setCell ⟨gs,0,none⟩ (.int .i64 f0)).setCell ⟨gs,1,none⟩ (.int .i64 f1)).setCell ⟨gs,2,none⟩ (.int .i64 f2)).setCell ⟨gs,3,none⟩ (.bool f3)).setCell ⟨gs,4,none⟩ (.int .i64 f4)) = w6 at D BS ⊢
    obtain ⟨⟨hc7_0,hc7_1,hc7_2,hc7_3,hc7_4⟩,hf7_0,hf7_1,hf7_2,hf7_3,hf7_4⟩ := cl5_ BS.out.2
    obtain ⟨sb,hsb⟩ := slot_any f1
    go_wp2_with (go_at_call 155;refine (spec_l1Slot.calls f1 sb _ hsb).mono ?_;rintro e wq ⟨rfl,B0⟩;(try dsimp only);refine hold_161 ?_)
    refine ⟨?_⟩
    have hb := B0.below
    have BS := ak (BS.out.below hb)
    have D := ak (D.out.below hb)
    clear hb B0 hsb
    cases sb with
    | false =>
     obtain ⟨⟨hc8_0,hc8_1,hc8_2,hc8_3,hc8_4⟩,hf8_0,hf8_1,hf8_2,hf8_3,hf8_4⟩ := cl5_ BS.out.2
     have T := ak (R_dr T.out DO.out D.out)
     have D := ak (DO.out.trans D.out)
     clear DO
     go_wp2_with ((with_reducible refine gblt_ (b := .append) (xs := #[.tmp 23,.tmp 25]) rfl ?_);(try (refine gate_guard (by rfl) ?_;dsimp only));at_builtin;refine Kd.R_append k127 w.heap.size rfl (.tmp 23) (.tmp 25) 43 127 (.agg #[.int .i64 0,.int .i64 0,.int .i64 0,.bool false,.int .i64 0]) 40 rfl Try.underlying43 info127 rfl (by decide) (by omega) (u5) xs (⟨f0,f1,f2,f3,f4⟩ : S127) [.int .i64 f0,.int .i64 f1,.int .i64 f2,.bool f3,.int .i64 f4] (fun _ => True) (fun _ => False) rfl (by first|(go_simp;done)|(go_simp;rfl)) ?aP (fun _ hk => hk.elim) (fun _ _ => trivial) T.out (Below.refl _ _) D.out.size ?aL ?_;(case aP => exact k127_mkM _ _ _ (⟨f0,f1,f2,f3,f4⟩ : S127));(case aL => have := hx;omega);intro v_ w9 ho hb hg hat;clear hat;refine hold_161 ?_)
     refine ⟨?_⟩
     have D := ak (D.out.app hb hg (fun k e_ => ((Kd.R_bound T.out).1 k e_).2.1))
     have T := ak ho
     clear ho hb hg
     go_wp2
     go_roundg (6 - (j + 1))
     case measure => omega
     case rel => exact ⟨xs ++ [(⟨f0,f1,f2,f3,f4⟩ : S127)],j + 1,by go_num,by omega,by omega,by simp;omega,T,D⟩
    | true =>
     obtain ⟨⟨hc10_0,hc10_1,hc10_2,hc10_3,hc10_4⟩,hf10_0,hf10_1,hf10_2,hf10_3,hf10_4⟩ := cl5_ BS.out.2
     go_upto_region 9 with (fail)
     have KS := ak (kept1_ (W := wq) (b := gs) 1 (.int .i64 j))
     have D := ak (D.out.far (p := ⟨gs,1,none⟩) BS.out.1 (.int .i64 j))
     have BS := ak (BS.out.put1 1 (.int .i64 j) (cs' := #[.int .i64 f0,.int .i64 j,.int .i64 f2,.bool f3,.int .i64 f4]) rfl)
     clear KS
     generalize (wq.setCell ⟨gs,1,none⟩ (.int .i64 j)) = w11 at D BS ⊢
     obtain ⟨⟨hc12_0,hc12_1,hc12_2,hc12_3,hc12_4⟩,hf12_0,hf12_1,hf12_2,hf12_3,hf12_4⟩ := cl5_ BS.out.2
     have T := ak (R_dr T.out DO.out D.out)
     have D := ak (DO.out.trans D.out)
     clear DO
     go_wp2_with ((with_reducible refine gblt_ (b := .append) (xs := #[.tmp 23,.tmp 25]) rfl ?_);(try (refine gate_guard (by rfl) ?_;dsimp only));at_builtin;refine Kd.R_append k127 w.heap.size rfl (.tmp 23) (.tmp 25) 43 127 (.agg #[.int .i64 0,.int .i64 0,.int .i64 0,.bool false,.int .i64 0]) 40 rfl Try.underlying43 info127 rfl (by decide) (by omega) (u5) xs (⟨f0,j,f2,f3,f4⟩ : S127) [.int .i64 f0,.int .i64 j,.int .i64 f2,.bool f3,.int .i64 f4] (fun _ => True) (fun _ => False) rfl (by first|(go_simp;done)|(go_simp;rfl)) ?aP (fun _ hk => hk.elim) (fun _ _ => trivial) T.out (Below.refl _ _) D.out.size ?aL ?_;(case aP => exact k127_mkM _ _ _ (⟨f0,j,f2,f3,f4⟩ : S127));(case aL => have := hx;omega);intro v_ w13 ho hb hg hat;clear hat;refine hold_161 ?_)
     refine ⟨?_⟩
     have D := ak (D.out.app hb hg (fun k e_ => ((Kd.R_bound T.out).1 k e_).2.1))
     have T := ak ho
     clear ho hb hg
     go_wp2
     go_roundg (6 - (j + 1))
     case measure => omega
     case rel => exact ⟨xs ++ [(⟨f0,j,f2,f3,f4⟩ : S127)],j + 1,by go_num,by omega,by omega,by simp;omega,T,D⟩
  ·have hjb : decide ((j : Int) < 6) = false := decide_eq_false (by omega)
   obtain ⟨Ax,cx,ex⟩ := Kd.R_slice T.out
   subst ex
   have hxl := hx
   clear hgg
   go_wp2_with ((with_reducible refine gcal_ (f := 90) rfl ?_);refine goesL_ (some 28) rfl rfl Try.func90 (by kernel_rfl) rfl #[.pointer (some ⟨g,0,none⟩),.int .i64 20] rfl (by (try simp only [List.map_toArray,List.map_cons,List.map_nil]);first|done|rfl) ?_;refine (once_any 20 (by decide) HL.out D.out).mono ?_;rintro e w14 ⟨x1,rfl,K⟩;refine ⟨_,rfl,?_⟩;refine hold_161 ?_)
   refine ⟨?_⟩
   have T := ak (R_dr T.out D.out K)
   have D := ak (D.out.trans K)
   clear K
   cases x1 with
   | false =>
    go_wp2
    go_ret
    exact ⟨_,xs,by first|rfl|(simp;done),T.out,by omega,D.out⟩
   | true =>
    by_cases h1 : 1 < xs.length
    ·have h1b : decide ((xs.length : Int) > 1) = true := decide_eq_true (by omega)
     obtain ⟨ad,ea,hz0,hz1,hz2,hz3,hz4⟩ := at_T127 (Kd.R_reads' T.out).2.2 0 (by omega) (by omega)
     subst ea
     have qi : (0 < xs.length) = True := eq_true (by omega)
     simp only [show ((0 : Int)).toNat = 0 from rfl,show 0 * 5 = 0 from rfl,Addr.add_zero'] at hz0
     simp only [show ((0 : Int)).toNat = 0 from rfl,show 0 * 5 = 0 from rfl,Addr.add_zero'] at hz1
     simp only [show ((0 : Int)).toNat = 0 from rfl,show 0 * 5 = 0 from rfl,Addr.add_zero'] at hz2
     simp only [show ((0 : Int)).toNat = 0 from rfl,show 0 * 5 = 0 from rfl,Addr.add_zero'] at hz3
     simp only [show ((0 : Int)).toNat = 0 from rfl,show 0 * 5 = 0 from rfl,Addr.add_zero'] at hz4
     have p0 : ((0 : Int) ≤ 0) = True := eq_true (by omega)
     have q0 : ((0 : Int) < (xs.length : Int)) = True := eq_true (by omega)
     go_wp2_with ((with_reducible refine gblt_ (b := .append) (xs := #[.tmp 34,.tmp 38]) rfl ?_);(try (refine gate_guard (by rfl) ?_;dsimp only));at_builtin;refine Kd.R_append k127 w.heap.size rfl (.tmp 34) (.tmp 38) 43 127 (.agg #[.int .i64 0,.int .i64 0,.int .i64 0,.bool false,.int .i64 0]) 40 rfl Try.underlying43 info127 rfl (by decide) (by omega) (.slice (some ad) xs.length cx) xs (rd_T127 xs 0) [.int .i64 (rd_T127 xs 0).f0,.int .i64 (rd_T127 xs 0).f1,.int .i64 (rd_T127 xs 0).f2,.bool (rd_T127 xs 0).f3,.int .i64 (rd_T127 xs 0).f4] (fun _ => True) (fun _ => False) rfl (by first|(go_simp;done)|(go_simp;rfl)) ?aP (fun _ hk => hk.elim) (fun _ _ => trivial) T.out (Below.refl _ _) D.out.size ?aL ?_;(case aP => exact k127_mkM _ _ _ (rd_T127 xs 0));(case aL => omega);intro v_ w15 ho hb hg hat;clear hat;refine hold_161 ?_)
     refine ⟨?_⟩
     have D := ak (D.out.app hb hg (fun k e_ => ((Kd.R_bound T.out).1 k e_).2.1))
     have T := ak ho
     clear ho hb hg
     go_wp2
     go_ret
     exact ⟨_,xs ++ [(rd_T127 xs 0)],by first|rfl|(simp;done),T.out,by simp;omega,D.out⟩
    ·have h1b : decide ((xs.length : Int) > 1) = false := decide_eq_false (by omega)
     go_wp2
     go_ret
     exact ⟨_,xs,by first|rfl|(simp;done),T.out,by omega,D.out⟩


end Go.Proofs.Ythplaakckfhaaaa.XCd
