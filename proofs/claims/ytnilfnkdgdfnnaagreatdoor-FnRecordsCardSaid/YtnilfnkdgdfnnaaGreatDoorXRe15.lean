/- Proved: of each Go function here that a call comes to what the Lean function of its name tells. Written by a program of this session over the translation. No conditions beyond each theorem's own. -/
import Derived.Test.YtnilfnkdgdfnnaaGreatDoorXRe0
import Derived.Test.YtnilfnkdgdfnnaaGreatDoorXRe2
import Derived.Test.YtnilfnkdgdfnnaaGreatDoorXRe3
import Derived.Test.YtnilfnkdgdfnnaaGreatDoorXRe11
namespace Go.Proofs.YtnilfnkdgdfnnaaGreatDoor.XRe
open Go.RowKit Go.Proofs.YtnilfnkdgdfnnaaGreatDoor.Aid Go.Proofs.YtnilfnkdgdfnnaaGreatDoorW.PrintWords Go.Proofs.YtnilfnkdgdfnnaaGreatDoorW.PrintLast Go.Proofs.YtnilfnkdgdfnnaaGreatDoorW.PrintMore
set_option linter.unusedVariables false
set_option linter.unusedSimpArgs false

/-! ### spec_DrawReadRecord: function 11 -/
/-- A row of bytes of this call's own: a conversion's, or a new one. -/
def RB (w : World) (base : Nat) (v : Value) (xs : List Int) : Prop :=
 ∃ (A : Option Addr) (c : Nat),v = Value.slice A xs.length c ∧ xs.length ≤ c ∧ ((A = none ∧ xs = []) ∨ ∃ (g : Nat) (cur : Array Value) (fz : Nat × Nat),A = some ⟨g,0,none⟩ ∧ base ≤ g ∧ w.heap[g]? = some (Obj.cells cur 5 fz) ∧ xs.length ≤ cur.size ∧ (fz = (0,0) ∨ cur.size ≤ fz.1) ∧ ∀ (j : Nat) (x : Int),xs[j]? = some x → cur[j]? = some (Value.int .u8 x))
theorem RB.keep {w w' : World} {base : Nat} {v : Value} {xs : List Int} (h : RB w base v xs) (hk : ∀ (g : Nat) (cur : Array Value) (fz : Nat × Nat), w.heap[g]? = some (Obj.cells cur 5 fz) → w'.heap[g]? = w.heap[g]?) : RB w' base v xs := by
 obtain ⟨A,c,hv,hc,h⟩ := h
 refine ⟨A,c,hv,hc,h.imp id ?_⟩
 rintro ⟨g,cur,fz,h1,h2,h3,h4,h5,h6⟩
 exact ⟨g,cur,fz,h1,h2,(hk g cur fz h3).trans h3,h4,h5,h6⟩
theorem heap_lt {w : World} {g : Nat} {o : Obj} (h : w.heap[g]? = some o) : g < w.heap.size := by
 rcases Nat.lt_or_ge g w.heap.size with h' | h'
 ·exact h'
 ·simp [Array.getElem?_eq_none h'] at h
theorem RB.below {w w' : World} {base : Nat} {v : Value} {xs : List Int} (h : RB w base v xs) (hb : Below w.heap.size w w') : RB w' base v xs :=
 h.keep fun g _ _ hg => hb.block g (heap_lt hg)
theorem RB.alloc {w : World} {base : Nat} {v : Value} {xs : List Int} (h : RB w base v xs) (o : Obj) : RB (w.alloc o) base v xs := h.below (below_alloc (Below.refl _ _) o)
theorem RB.but {w w' w0 : World} {base g : Nat} {f0 : List Int} {f1 f2 : Int} {v : Value} {xs : List Int} (h : RB w base v xs) (hI : IsS58 w0 w g f0 f1 f2) (hk : KeepBut w w' g none) : RB w' base v xs :=
 h.keep fun g' cur fz hg => hk.2 g' (heap_lt hg) (by
  rintro rfl
  obtain ⟨A0,c0,hb,_⟩ := hI
  rw [hb] at hg
  simp at hg) (by simp)
theorem RB.ne {w w0 : World} {base g g' c n : Nat} {f0 : List Int} {f1 f2 : Int} {xs : List Int} (h : RB w base (.slice (some ⟨g', 0, none⟩) n c) xs) (hI : IsS58 w0 w g f0 f1 f2) : g ≠ g' := by
 rintro rfl
 obtain ⟨A,c,hv,hc,h⟩ := h
 injection hv with h1 h2 h3
 rcases h with ⟨h,_⟩ | ⟨g',cur,fz,e,_,hg,_⟩
 ·rw [h] at h1;cases h1
 ·rw [e] at h1
  injection h1 with h1
  injection h1 with h1
  subst h1
  obtain ⟨A0,c0,hb,_⟩ := hI
  rw [hb] at hg
  simp at hg
theorem RB.open_ {w : World} {base : Nat} {v : Value} {xs : List Int} (h : RB w base v xs) : ∃ A c, v = .slice A xs.length c ∧ xs.length ≤ c := let ⟨A, c, h1, h2, _⟩ := h; ⟨A, c, h1, h2⟩
theorem RB.C {w : World} {base n c : Nat} {A : Option Addr} {xs : List Int} (h : RB w base (.slice A n c) xs) (hm : xs.length ≤ 200000000) : (Kd.int .u8).C w A xs.length xs := by
 obtain ⟨A',c',hv,hc,h⟩ := h
 injection hv with h1 h2 h3
 subst h1
 refine ⟨rfl,by omega,fun hp => ?_⟩
 rcases h with ⟨_,h⟩ | ⟨g,cur,fz,e,_,hg,_,_,hx⟩
 ·rw [h] at hp;simp at hp
 ·refine ⟨⟨g,0,none⟩,e,fun j p hj => ⟨[.int .u8 p],rfl,rfl,fun i u hu => ?_⟩⟩
  have hi : i = 0 := by
   rcases Nat.eq_zero_or_pos i with h0 | h0
   ·exact h0
   ·rw [List.getElem?_eq_none (by simp;omega)] at hu;cases hu
  subst hi
  obtain rfl : u = .int .u8 p := by simpa using hu.symm
  have ea : (⟨g,0,none⟩ : Addr).add (j * (Kd.int .u8).sz + 0) = ⟨g,j,none⟩ := by
   show (⟨g,0,none⟩ : Addr).add (j * 1 + 0) = _
   unfold Addr.add
   by_cases h0 : j = 0
   ·subst h0;simp
   ·simp [h0]
  rw [ea]
  unfold World.cell?
  rw [hg]
  simpa using hx j p hj
theorem RB.cell {w : World} {base n c : Nat} {A : Option Addr} {xs : List Int} (h : RB w base (.slice A n c) xs) (i : Int) (h0 : 0 ≤ i) (hi : i < (xs.length : Int)) :
  ∃ g,A = some ⟨g,0,none⟩ ∧ base ≤ g ∧ w.cell? ⟨g,i.toNat,none⟩ = some (.int .u8 (rd xs i)) ∧ w.frozen? ⟨g,i.toNat,none⟩ = false := by
 obtain ⟨A',c',hv,hc,h⟩ := h
 injection hv with h1 h2 h3
 subst h1
 rcases h with ⟨_,h⟩ | ⟨g,cur,fz,e,hb,hg,hs,hf,hx⟩
 ·rw [h] at hi;simp at hi;omega
 ·have hl : i.toNat < xs.length := by omega
  refine ⟨g,e,hb,?_,?_⟩
  ·unfold World.cell?
   rw [hg]
   have := hx i.toNat xs[i.toNat] (List.getElem?_eq_getElem hl)
   simp only [Option.isSome_none,Bool.false_eq_true,if_false]
   rw [this]
   unfold rd
   rw [List.getD_eq_getElem?_getD,List.getElem?_eq_getElem hl];rfl
  ·unfold World.frozen?
   rw [hg]
   rcases hf with rfl | hf
   ·simp
   ·simp;omega
theorem RB.set {w : World} {base n c g : Nat} {xs : List Int} (h : RB w base (.slice (some ⟨g, 0, none⟩) n c) xs) (i : Int) (h0 : 0 ≤ i) (hi : i < (xs.length : Int)) (x : Int) : RB (w.setCell ⟨g, i.toNat, none⟩ (.int .u8 x)) base (.slice (some ⟨g, 0, none⟩) n c) (xs.set i.toNat x) := by
 obtain ⟨A',c',hv,hc,h⟩ := h
 injection hv with h1 h2 h3
 subst h1 h2 h3
 rcases h with ⟨h,_⟩ | ⟨g',cur,fz,e,hb,hg,hs,hf,hx⟩
 ·cases h
 ·injection e with e
  injection e with e
  subst e
  refine ⟨_,_,by rw [List.length_set],by rw [List.length_set];exact hc,Or.inr ⟨g,cur.setIfInBounds i.toNat (.int .u8 x),fz,rfl,hb,?_,by rw [List.length_set];simpa using hs,by simpa using hf,fun j y hj => ?_⟩⟩
  ·unfold World.setCell
   simp [Array.getElem?_modify,hg]
  ·rw [List.getElem?_set] at hj
   rw [Array.getElem?_setIfInBounds]
   by_cases hji : i.toNat = j
   ·subst hji
    rw [if_pos rfl,if_pos (by omega)] at hj
    rw [if_pos rfl,if_pos (by omega)]
    cases hj;rfl
   ·rw [if_neg hji] at hj
    rw [if_neg hji]
    exact hx j y hj
theorem RB.take {w : World} {base n c : Nat} {A : Option Addr} {xs : List Int} (h : RB w base (.slice A n c) xs) (i : Nat) (hi : i ≤ xs.length) : RB w base (.slice A i c) (xs.take i) := by
 obtain ⟨A',c',hv,hc,h⟩ := h
 injection hv with h1 h2 h3
 subst h1 h2 h3
 have hl : (xs.take i).length = i := by rw [List.length_take];omega
 refine ⟨A,c,by rw [hl],by omega,h.imp ?_ ?_⟩
 ·rintro ⟨h',rfl⟩;exact ⟨h',by simp⟩
 ·rintro ⟨g,cur,fz,e,hb,hg,hs,hf,hx⟩
  refine ⟨g,cur,fz,e,hb,hg,by omega,hf,fun j y hj => hx j y ?_⟩
  rw [List.getElem?_take] at hj
  split at hj
  ·exact hj
  ·cases hj
theorem RB.of_R {w : World} {base : Nat} {ok : Nat → Prop} {v : Value} {xs : List Int} (h : (Kd.int .u8).R 5 w base ok v xs) : RB w base v xs := by
 obtain ⟨hl,h|⟨g,cap,cur,hv,hg,hb,hn,_,hs,ht⟩⟩ := Kd.own_of_R h
 ·obtain ⟨hv,hn⟩ := h
  exact ⟨none,0,by rw [hv,hn],by omega,Or.inl ⟨rfl,List.length_eq_zero_iff.1 hn⟩⟩
 ·refine ⟨some ⟨g,0,none⟩,cap,hv,hn,Or.inr ⟨g,cur,(0,0),rfl,hg,hb,by omega,Or.inl rfl,fun j x hj => ?_⟩⟩
  have hjl := (List.getElem?_eq_some_iff.1 hj).1
  have e1 : (cur.toList.take (xs.length * 1))[j]? = some (.int .u8 x) := by rw [ht];simp [encs,hj]
  rw [List.getElem?_take,if_pos (by omega)] at e1
  simpa using e1
theorem bw_below (W : World) (e : TypeId) (s : ByteArray) : Below W.heap.size W (Go.Lib.bytesWorld W e s) :=
 ⟨rfl,rfl,rfl,by rw [Go.Lib.bytesWorld_size];omega,fun i hi => Go.Lib.bytesWorld_at_old W e s i (by omega)⟩
def bytesN (s : ByteArray) : List Int := s.data.toList.map fun b => (b.toNat : Int)
theorem bytesN_length (s : ByteArray) : (bytesN s).length = s.size := by rw [bytesN, List.length_map, Array.length_toList]; rfl
theorem RB.conv (W : World) (base : Nat) (s : ByteArray) (hb : base ≤ W.heap.size) : RB (Go.Lib.bytesWorld W 5 s) base (.slice (some ⟨W.heap.size, 0, none⟩) s.size (grownCap W s.size 0 5)) (bytesN s) := by
 have hl := bytesN_length s
 refine ⟨_,_,by rw [hl],by rw [hl];exact grownCap_ge _ _ _ _,Or.inr ⟨W.heap.size,Go.Lib.bytesCells W 5 s,_,rfl,hb,Go.Lib.bytesWorld_at_new W 5 s,?_,Or.inr (Nat.le_refl _),fun j x hj => ?_⟩⟩
 ·rw [hl];unfold Go.Lib.bytesCells;rw [Array.size_append,Array.size_map];show s.size ≤ s.size + _;omega
 ·have hjl := (List.getElem?_eq_some_iff.1 hj).1
  rw [hl] at hjl
  have hsz : j < s.data.size := hjl
  unfold Go.Lib.bytesCells
  rw [Array.getElem?_append,if_pos (by rw [Array.size_map];exact hsz),Array.getElem?_map]
  unfold bytesN at hj
  rw [List.getElem?_map,Array.getElem?_toList] at hj
  rw [Array.getElem?_eq_getElem hsz] at hj ⊢
  simpa using hj
theorem RB.cell_ {w : World} {base n c g : Nat} {xs : List Int} (h : RB w base (.slice (some ⟨g, 0, none⟩) n c) xs) (i : Int) (h0 : 0 ≤ i) (hi : i < (xs.length : Int)) :
  base ≤ g ∧ w.cell? ⟨g,i.toNat,none⟩ = some (.int .u8 (rd xs i)) ∧ w.frozen? ⟨g,i.toNat,none⟩ = false := by
 obtain ⟨g',e,h1,h2,h3⟩ := h.cell i h0 hi
 injection e with e
 injection e with e
 subst e
 exact ⟨h1,h2,h3⟩
theorem RB.grown {w w1 : World} {base n c : Nat} {A : Option Addr} {xs : List Int} {row : Option Nat} (h : RB w base (.slice A n c) xs) (hg : w.grownBy w1 row) (hne : ∀ g, A = some ⟨g, 0, none⟩ → some g ≠ row) : RB w1 base (.slice A n c) xs := by
 obtain ⟨A',c',hv,hc,h⟩ := h
 injection hv with h1 h2 h3
 subst h1 h2 h3
 refine ⟨_,_,rfl,hc,h.imp id ?_⟩
 rintro ⟨g,cur,fz,e,h1,h2,h3⟩
 exact ⟨g,cur,fz,e,h1,(hg.block g (heap_lt h2) (hne g e)).trans h2,h3⟩
theorem RB.takeC {w : World} {base n c : Nat} {A : Option Addr} {xs : List Int} (h : RB w base (.slice A n c) xs) (i : Nat) (hi : i ≤ xs.length) (hm : xs.length ≤ 200000000) : (Kd.int .u8).C w A i (xs.take i) := by
 have hl : (xs.take i).length = i := by rw [List.length_take];omega
 have := RB.C (h.take i hi) (by omega)
 rwa [hl] at this
theorem RB.dropC1 {w : World} {base n c : Nat} {A : Option Addr} {xs : List Int} (h : RB w base (.slice A n c) xs) (i : Nat) (hi : i ≤ xs.length) (hc : xs.length ≤ c) (hm : xs.length ≤ 200000000) : (Kd.int .u8).C w (if c = i then A else A.map (·.add (i * 1))) (xs.length - i) (xs.drop i) := by
 have := Kd.C_drop (m := i) (c := c) (RB.C h hm) hi hc
 rw [List.length_drop] at this
 exact this
theorem RB.dropC {w : World} {base n c : Nat} {A : Option Addr} {xs : List Int} (h : RB w base (.slice A n c) xs) (i : Nat) (hi : i ≤ xs.length) (hc : xs.length ≤ c) (hm : xs.length ≤ 200000000) : (Kd.int .u8).C w (if c = i then A else A.map (·.add i)) (xs.length - i) (xs.drop i) := by
 have := RB.dropC1 h i hi hc hm
 simp only [Nat.mul_one] at this
 exact this
theorem RB.old {w : World} {base n c g : Nat} {xs : List Int} (h : RB w base (.slice (some ⟨g, 0, none⟩) n c) xs) : g < w.heap.size := by
 obtain ⟨A',c',hv,hc,h⟩ := h
 injection hv with h1 h2 h3
 subst h1
 rcases h with ⟨h,_⟩ | ⟨g',cur,fz,e,_,hg,_⟩
 ·cases h
 ·injection e with e
  injection e with e
  subst e
  exact heap_lt hg
theorem lit_cell {w : World} {b : Nat} {xs : List Int} {fz : Nat × Nat} (h : w.heap[b]? = some (Obj.cells (xs.map (Value.int .u8)).toArray 5 fz)) (i : Int) (h0 : 0 ≤ i) (hi : i < (xs.length : Int)) : w.cell? ⟨b, i.toNat, none⟩ = some (.int .u8 (rd xs i)) := by
 have hl : i.toNat < xs.length := by omega
 unfold World.cell?
 rw [h]
 simp only [Option.isSome_none,Bool.false_eq_true,if_false]
 unfold rd
 rw [List.getD_eq_getElem?_getD,List.getElem?_eq_getElem hl]
 simp [hl]
theorem RB.lower {w : World} {base base' : Nat} {v : Value} {xs : List Int} (h : RB w base v xs) (hb : base' ≤ base) : RB w base' v xs := by
 obtain ⟨A,c,hv,hc,h⟩ := h
 refine ⟨A,c,hv,hc,h.imp id ?_⟩
 rintro ⟨g,cur,fz,h1,h2,h3⟩
 exact ⟨g,cur,fz,h1,Nat.le_trans hb h2,h3⟩
theorem RB.own_lt {w : World} {base : Nat} {v : Value} {xs : List Int} (h : RB w base v xs) (g : Nat) (hg : v.ownBlock = some g) : g < w.heap.size := by
 obtain ⟨A,c,rfl,hc,h⟩ := h
 rcases h with ⟨rfl,_⟩ | ⟨g',cur,fz,rfl,_,hh,_⟩
 ·cases hg
 ·injection hg with hg
  subst hg
  exact heap_lt hh
def spec_DrawReadRecord.l0 : Nat → List Int → List Int → Int → Int → Int → Option (ByteArray)
  | 0, _, _, _, _, _ => none
  | k + 1, t1, xs, n, s1, s2 => if 0 < n then (if 0 < (xs.length : Int) then (if xs.length ≤ 100000000 then ((spec_l1Below.f t1 s1 s2 (xs.length : Int)).bind fun b1 => ((spec_l1Below.f t1 b1.2.1 b1.2.2 4).bind fun b2 => (if 0 ≤ b1.1 then (if b1.1 < (xs.length : Int) then (if b2.1 = 0 then ((spec_l1Below.f t1 b2.2.1 b2.2.2 7).bind fun b3 => (if 0 ≤ b3.1 then (if b3.1 < 7 then (spec_DrawReadRecord.l0 k t1 (xs.set b1.1.toNat (rd ([48, 49, 50, 57, 32, 45, 120] : List Int) b3.1)) (wrap64 (n - 1)) b3.2.1 b3.2.2) else none) else none)) else (if b2.1 = 1 then (spec_DrawReadRecord.l0 k t1 (xs.take b1.1.toNat) (wrap64 (n - 1)) b2.2.1 b2.2.2) else (if b2.1 = 2 then (spec_DrawReadRecord.l0 k t1 (xs.take b1.1.toNat ++ xs.drop (wrap64 (b1.1 + 1)).toNat) (wrap64 (n - 1)) b2.2.1 b2.2.2) else (if b2.1 = 3 then (spec_DrawReadRecord.l0 k t1 (xs.take b1.1.toNat ++ [49] ++ xs.drop b1.1.toNat) (wrap64 (n - 1)) b2.2.1 b2.2.2) else none)))) else none) else none))) else none) else (if xs.length ≤ 100000000 then some (strOfNums xs) else none)) else (if xs.length ≤ 100000000 then some (strOfNums xs) else none)
def spec_DrawReadRecord.f (k : Nat) (l0 : List Int) : Option (ByteArray) := (spec_l1New.f k l0).bind fun c => ((spec_l2Draw.f k c.1 c.2.1 c.2.2).bind fun d => ((spec_l2Show.f k d.1 d.2.1 d.2.2.1 d.2.2.2.1).bind fun s => (if s.size ≤ 100000000 then ((spec_l1Below.f c.1 d.2.2.2.2.1 d.2.2.2.2.2 3).bind fun b => (spec_DrawReadRecord.l0 k c.1 (bytesN s) b.1 b.2.1 b.2.2)) else none)))
def spec_DrawReadRecord.T13 : Bool × List (List Nat × List Nat) := (true, [([], []), ([], []), ([], []), ([1, 2], [1, 2]), ([0, 3], [0, 3]), ([], []), ([], []), ([6], [6]), ([5, 7], [5, 7]), ([4, 8, 4], [4, 8]), ([9, 9, 0, 1, 2, 3, 4, 5, 6, 7, 8, 9], [1, 5, 9])])
def spec_DrawReadRecord.B13 : List Nat := [0, 0, 0, 6, 15, 0, 0, 64, 224, 511, 1023]
theorem spec_DrawReadRecord.tab13 : rtab .any (opsOf Tryz.f11 13) = spec_DrawReadRecord.T13 := by kernel_rfl
theorem spec_DrawReadRecord.bits13 : waitsOk spec_DrawReadRecord.T13.2 spec_DrawReadRecord.B13 = true := by kernel_rfl
def spec_DrawReadRecord.T15 : Bool × List (List Nat × List Nat) := (true, [([], []), ([], []), ([], []), ([1, 2], [1, 2]), ([0, 3], [0, 3]), ([], []), ([4, 5, 4], [4, 5]), ([], []), ([], []), ([7, 8], [7, 8]), ([6, 9, 6], [6, 9]), ([10, 10, 0, 1, 2, 3, 4, 5, 6, 7, 8, 9, 10], [1, 7, 10])])
def spec_DrawReadRecord.B15 : List Nat := [0, 0, 0, 6, 15, 0, 63, 0, 0, 384, 1023, 2047]
theorem spec_DrawReadRecord.tab15 : rtab .any (opsOf Tryz.f11 15) = spec_DrawReadRecord.T15 := by kernel_rfl
theorem spec_DrawReadRecord.bits15 : waitsOk spec_DrawReadRecord.T15.2 spec_DrawReadRecord.B15 = true := by kernel_rfl
set_option maxHeartbeats 8000000 in
set_option maxRecDepth 100000 in
theorem spec_DrawReadRecord.calls (k : Nat) (A0 : Option Addr) (c0 : Nat) (l0 : List Int) (r : ByteArray) (w : World) (hr0 : Kd.C (Kd.int .u8) w A0 l0.length l0) (hc0 : l0.length ≤ c0) (h : spec_DrawReadRecord.f k l0 = some r) :
    Calls Tryz.prog 11 #[.slice A0 l0.length c0] w fun e w' => e = .returned (.string r) ∧ Below w.heap.size w w' := by
 have HR0 := Aside0.mk hr0
 have HC0 := Aside0.mk hc0
 clear hr0 hc0
 have HB := Aside0.mk (Below.refl w.heap.size w)
 obtain ⟨⟨t1,t2,t3⟩,A1,h⟩ := Option.bind_eq_some_iff.1 h
 obtain ⟨⟨e1,e2,e3,e4,e5,e6⟩,A2,h⟩ := Option.bind_eq_some_iff.1 h
 obtain ⟨s,A3,h⟩ := Option.bind_eq_some_iff.1 h
 by_cases hs : s.size ≤ 100000000
 rotate_left
 ·rw [if_neg hs] at h;cases h
 rw [if_pos hs] at h
 obtain ⟨⟨b1,b2,b3⟩,A4,h⟩ := Option.bind_eq_some_iff.1 h
 replace A1 := Aside0.mk A1
 replace A2 : Aside0 (spec_l2Draw.f k t1 t2 t3 = some (e1,e2,e3,e4,e5,e6)) := ⟨A2⟩
 replace A3 : Aside0 (spec_l2Show.f k e1 e2 e3 e4 = some s) := ⟨A3⟩
 replace A4 : Aside0 (spec_l1Below.f t1 e5 e6 3 = some (b1,b2,b3)) := ⟨A4⟩
 have H' : Aside0 (spec_DrawReadRecord.l0 k t1 (bytesN s) b1 b2 b3 = some r) := ⟨h⟩
 clear h
 have kb := fun W => print_bytes (P := Tryz.prog) 9 22 5 Tryz.underlying9 Tryz.underlying22 Tryz.underlying5 s W
 go_enter Tryz.func11,Tryz.ntmps11
 go_wp2_with (first
    | ((with_reducible refine gcal_ (f := 21) rfl ?_); refine gl_ (some 8) Tryz.func21 #[.slice A0 l0.length c0] ?_; (with_reducible refine (spec_l1New.calls k _ _ l0 t1 t2 t3 w _ ?side1 ?side2 ?side3 A1.out).mono ?_); (case side1 => exact (by repeat (first | exact HB.out | apply below_alloc | apply pw_below_drewN | apply below_drew1 | (refine below_step ?_ (bw_below _ _ _))))); (case side2 => exact HR0.out); (case side3 => exact HC0.out); rintro e w5 ⟨g, rfl, hi, hb, hb2⟩; refine ⟨_, rfl, ?_⟩; replace HB := Aside0.mk hb; have HI := Aside0.mk hi; clear hi hb hb2)
    | ((with_reducible refine gcal_ (f := 22) rfl ?_); refine gl_ (some 10) Tryz.func22 #[.pointer (some ⟨g, 0, none⟩)] ?_; (with_reducible refine (spec_l2Draw.calls k g t1 t2 t3 e1 e2 e3 e4 e5 e6 w _ ?side1 ?side2 A2.out).mono ?_); (case side1 => exact (by repeat (first | exact HI.out | apply IsS58.alloc | apply IsS58.drewN | apply IsS58.drew | (refine IsS58.below ?_ (bw_below _ _ _))))); (case side2 => exact (by repeat (first | exact HB.out | apply below_alloc | apply pw_below_drewN | apply below_drew1 | (refine below_step ?_ (bw_below _ _ _))))); rintro e w6 ⟨v6, rfl, ho, hi, hb, hk⟩; refine ⟨_, rfl, ?_⟩; replace HB := Aside0.mk hb; replace HI := Aside0.mk hi; have HO := Aside0.mk ho; clear hi hb hk ho; obtain ⟨Ao, co, eo⟩ := Kd.R_slice HO.out; subst eo)
    | ((with_reducible refine gcal_ (f := 17) rfl ?_); refine gl_ (some 11) Tryz.func17 #[.agg #[.int .i64 e1, .int .i64 e2, .int .i64 e3, .slice Ao e4.length co]] ?_; (with_reducible refine (spec_l2Show.calls k e1 e2 e3 _ _ e4 s _ ?side1 ?side2 A3.out).mono ?_); (case side1 => repeat (first | exact (Kd.R_reads' HO.out).2.2 | (with_reducible refine Kd.C_alloc ?_ _) | (with_reducible refine Kd.C_drewN ?_ _) | (with_reducible refine Kd.C_drew ?_))); (case side2 => exact (Kd.R_reads' HO.out).2.1); rintro e w7 ⟨rfl, hb⟩; refine ⟨_, rfl, ?_⟩; replace HI := Aside0.mk (IsS58.below (show IsS58 w _ g t1 e5 e6 from (by repeat (first | exact HI.out | apply IsS58.alloc | apply IsS58.drewN | apply IsS58.drew | (refine IsS58.below ?_ (bw_below _ _ _))))) hb); replace HB := Aside0.mk (below_step (by repeat (first | exact HB.out | apply below_alloc | apply pw_below_drewN | apply below_drew1 | (refine below_step ?_ (bw_below _ _ _)))) hb); clear hb HO)
    | ((with_reducible refine gcal_ (f := 23) rfl ?_); refine gl_ (some 14) Tryz.func23 #[.pointer (some ⟨g, 0, none⟩), .int .i64 3] ?_; (with_reducible refine (spec_l1Below.calls g t1 e5 e6 3 b1 b2 b3 w _ ?side1 ?side2 A4.out).mono ?_); (case side1 => exact (by repeat (first | exact HI.out | apply IsS58.alloc | apply IsS58.drewN | apply IsS58.drew | (refine IsS58.below ?_ (bw_below _ _ _))))); (case side2 => exact (by repeat (first | exact HB.out | apply below_alloc | apply pw_below_drewN | apply below_drew1 | (refine below_step ?_ (bw_below _ _ _))))); rintro e w9 ⟨rfl, hi, hb, hk⟩; refine ⟨_, rfl, ?_⟩; have HV := Aside0.mk (RB.but (RB.conv _ w.heap.size s (below_size (by repeat (first | exact HB.out | apply below_alloc | apply pw_below_drewN | apply below_drew1)))) (show IsS58 w _ g t1 e5 e6 from (by repeat (first | exact HI.out | apply IsS58.alloc | apply IsS58.drewN | apply IsS58.drew | (refine IsS58.below ?_ (bw_below _ _ _))))) hk); replace HI := Aside0.mk hi; replace HB := Aside0.mk hb; clear hi hb hk))
 clear kb
 go_loopg [4,5] k (fun kq v4 v5 w' => ∃ (xs : List Int) (n s1 s2 : Int),v5 = .int .i64 n ∧ Aside0 (RB w' w.heap.size v4 xs) ∧ Aside0 (spec_DrawReadRecord.l0 kq t1 xs n s1 s2 = some r) ∧ Aside0 (kq ≤ k) ∧ Aside0 (IsS58 w w' g t1 s1 s2) ∧ Aside0 (Below w.heap.size w w'))
 case atStart => exact ⟨bytesN s,b1,b2,b3,rfl,⟨(by repeat (first|exact HV.out|apply RB.alloc|exact RB.below (by exact HV.out) (pw_below_drewN (Below.refl _ _) _)|exact RB.below (by exact HV.out) (below_drew1 (Below.refl _ _))))⟩,H',⟨Nat.le_refl _⟩,⟨(by repeat (first|exact HI.out|apply IsS58.alloc|apply IsS58.drewN|apply IsS58.drew|(refine IsS58.below ?_ (bw_below _ _ _))))⟩,⟨(by repeat (first|exact HB.out|apply below_alloc|apply pw_below_drewN|apply below_drew1|(refine below_step ?_ (bw_below _ _ _))))⟩⟩
 case round =>
  clear H'
  obtain ⟨xs,n,s1,s2,rfl,HV,HA,HK1,HI,HB⟩ := hrel
  obtain ⟨A,c,rfl,hle⟩ := HV.out.open_
  have HLE := Aside0.mk hle
  clear hle
  cases gk with
    | zero => exact absurd HA.out (by simp [spec_DrawReadRecord.l0])
    | succ k1 =>
   have H := HA.out
   clear HA
   rw [spec_DrawReadRecord.l0] at H
   by_cases q1 : 0 < n
   ·rw [if_pos q1] at H
    have q1b := decide_eq_true q1
    clear q1
    by_cases q2 : 0 < (xs.length : Int)
    ·rw [if_pos q2] at H
     have q2b := decide_eq_true q2
     have q2c : decide (0 < xs.length) = true := decide_eq_true (by omega)
     clear q2
     by_cases q3 : xs.length ≤ 100000000
     rotate_left
     ·rw [if_neg q3] at H;cases H
     rw [if_pos q3] at H
     have Q3 := Aside0.mk q3
     obtain ⟨⟨c1,c2,c3⟩,B1,H⟩ := Option.bind_eq_some_iff.1 H
     obtain ⟨⟨d1,d2,d3⟩,B2,H⟩ := Option.bind_eq_some_iff.1 H
     replace B1 := Aside0.mk B1
     replace B2 : Aside0 (spec_l1Below.f t1 c2 c3 4 = some (d1,d2,d3)) := ⟨B2⟩
     simp only at H
     by_cases q4 : 0 ≤ c1
     rotate_left
     ·rw [if_neg q4] at H;cases H
     rw [if_pos q4] at H
     by_cases q5 : c1 < (xs.length : Int)
     rotate_left
     ·rw [if_neg q5] at H;cases H
     rw [if_pos q5] at H
     have EW : Aside0 (wrap64 (c1 + 1) = c1 + 1) := ⟨by unfold wrap64;omega⟩
     have Q4 := Aside0.mk q4
     have Q5 := Aside0.mk q5
     clear q3 q4 q5
     by_cases q6 : d1 = 0
     ·rw [if_pos q6] at H
      subst q6
      obtain ⟨⟨f1,f2,f3⟩,B5,H⟩ := Option.bind_eq_some_iff.1 H
      replace B5 : Aside0 (spec_l1Below.f t1 d2 d3 7 = some (f1,f2,f3)) := ⟨B5⟩
      simp only at H
      by_cases q7 : 0 ≤ f1
      rotate_left
      ·rw [if_neg q7] at H;cases H
      rw [if_pos q7] at H
      by_cases q8 : f1 < 7
      rotate_left
      ·rw [if_neg q8] at H;cases H
      rw [if_pos q8] at H
      have Q7 := Aside0.mk q7
      have Q8 : Aside0 (f1 < (([48,49,50,57,32,45,120] : List Int).length : Int)) := ⟨q8⟩
      clear q7 q8
      have H' := Aside0.mk H
      clear H
      obtain ⟨gA,rfl,_,_,_⟩ := RB.cell HV.out c1 Q4.out Q5.out
      have kc := fun (W : World) => Go.Lib.run_convert_bytes_const (P := Tryz.prog) W 22 5 #[.int .u8 48,.int .u8 49,.int .u8 50,.int .u8 57,.int .u8 32,.int .u8 45,.int .u8 120] 7 7 Tryz.underlying22 Tryz.underlying5
      go_wp2_with (first
       | ((with_reducible refine gcal_ (f := 23) rfl ?_);refine gl_ (some 27) Tryz.func23 #[.pointer (some ⟨g,0,none⟩),.int .i64 (xs.length : Int)] ?_;(with_reducible refine (spec_l1Below.calls g t1 s1 s2 (xs.length : Int) c1 c2 c3 w _ ?side1 ?side2 B1.out).mono ?_);(case side1 => exact (by repeat (first | exact HI.out | apply IsS58.alloc | apply IsS58.drewN | apply IsS58.drew | (refine IsS58.below ?_ (bw_below _ _ _)))));(case side2 => exact (by repeat (first | exact HB.out | apply below_alloc | apply pw_below_drewN | apply below_drew1 | (refine below_step ?_ (bw_below _ _ _)))));rintro e w9 ⟨rfl,hi,hb,hk⟩;refine ⟨_,rfl,?_⟩;replace HV := Aside0.mk (RB.but (by repeat (first | exact HV.out | apply RB.alloc | exact RB.below (by exact HV.out) (pw_below_drewN (Below.refl _ _) _) | exact RB.below (by exact HV.out) (below_drew1 (Below.refl _ _)))) (show IsS58 w _ g t1 s1 s2 from (by repeat (first | exact HI.out | apply IsS58.alloc | apply IsS58.drewN | apply IsS58.drew | (refine IsS58.below ?_ (bw_below _ _ _))))) hk);replace HI := Aside0.mk hi;replace HB := Aside0.mk hb;clear hi hb hk)
       | ((with_reducible refine gcal_ (f := 23) rfl ?_);refine gl_ (some 29) Tryz.func23 #[.pointer (some ⟨g,0,none⟩),.int .i64 4] ?_;(with_reducible refine (spec_l1Below.calls g t1 c2 c3 4 0 d2 d3 w _ ?side1 ?side2 B2.out).mono ?_);(case side1 => exact (by repeat (first | exact HI.out | apply IsS58.alloc | apply IsS58.drewN | apply IsS58.drew | (refine IsS58.below ?_ (bw_below _ _ _)))));(case side2 => exact (by repeat (first | exact HB.out | apply below_alloc | apply pw_below_drewN | apply below_drew1 | (refine below_step ?_ (bw_below _ _ _)))));rintro e w10 ⟨rfl,hi,hb,hk⟩;refine ⟨_,rfl,?_⟩;replace HV := Aside0.mk (RB.but (by repeat (first | exact HV.out | apply RB.alloc | exact RB.below (by exact HV.out) (pw_below_drewN (Below.refl _ _) _) | exact RB.below (by exact HV.out) (below_drew1 (Below.refl _ _)))) (show IsS58 w _ g t1 c2 c3 from (by repeat (first | exact HI.out | apply IsS58.alloc | apply IsS58.drewN | apply IsS58.drew | (refine IsS58.below ?_ (bw_below _ _ _))))) hk);replace HI := Aside0.mk hi;replace HB := Aside0.mk hb;clear hi hb hk)
       | ((with_reducible refine gcal_ (f := 23) rfl ?_);have GLT : Aside0 (g < w10.heap.size) := ⟨by obtain ⟨_,_,hh,_⟩ := HI.out;exact heap_lt hh⟩;refine gl_ (some 37) Tryz.func23 #[.pointer (some ⟨g,0,none⟩),.int .i64 7] ?_;(with_reducible refine (spec_l1Below.calls g t1 d2 d3 7 f1 f2 f3 w _ ?side1 ?side2 B5.out).mono ?_);(case side1 => exact (by repeat (first | exact HI.out | apply IsS58.alloc | apply IsS58.drewN | apply IsS58.drew | (refine IsS58.below ?_ (bw_below _ _ _)))));(case side2 => exact (by repeat (first | exact HB.out | apply below_alloc | apply pw_below_drewN | apply below_drew1 | (refine below_step ?_ (bw_below _ _ _)))));rintro e w11 ⟨rfl,hi,hb,hk⟩;refine ⟨_,rfl,?_⟩;replace HV := Aside0.mk (RB.but (by repeat (first | exact HV.out | apply RB.alloc | exact RB.below (by exact HV.out) (pw_below_drewN (Below.refl _ _) _) | exact RB.below (by exact HV.out) (below_drew1 (Below.refl _ _)))) (show IsS58 w _ g t1 d2 d3 from (by repeat (first | exact HI.out | apply IsS58.alloc | apply IsS58.drewN | apply IsS58.drew | (refine IsS58.below ?_ (bw_below _ _ _))))) hk);have HLIT := Aside0.mk ((hk.2 w10.heap.size (by show w10.heap.size < (w10.heap.push _).size;rw [Array.size_push];omega) (fun e => Nat.lt_irrefl _ (e ▸ GLT.out)) (by simp)).trans (blk_new w10 (.cells #[.int .u8 48,.int .u8 49,.int .u8 50,.int .u8 57,.int .u8 32,.int .u8 45,.int .u8 120] 5 (7,8))));replace HI := Aside0.mk hi;replace HB := Aside0.mk hb;clear hi hb hk;have hx_0 := lit_cell (xs := [48,49,50,57,32,45,120]) HLIT.out f1 Q7.out Q8.out;obtain ⟨hgA,hcA,hfA⟩ := RB.cell_ HV.out c1 Q4.out Q5.out;have p7 := eq_true Q7.out;have q8_ : (f1 < 7) = True := eq_true Q8.out;have p4 := eq_true Q4.out;have p5 := eq_true Q5.out))
      go_roundg k1
      case measure => have := HK1.out;omega
      case rel => exact ⟨_,wrap64 (n - 1),f2,f3,by first|rfl|(simp;done),⟨RB.set (by repeat (first|exact HV.out|apply RB.alloc|exact RB.below (by exact HV.out) (pw_below_drewN (Below.refl _ _) _)|exact RB.below (by exact HV.out) (below_drew1 (Below.refl _ _)))) c1 Q4.out Q5.out _⟩,H',⟨by have := HK1.out;omega⟩,⟨IsS58.far (by repeat (first|exact HI.out|apply IsS58.alloc|apply IsS58.drewN|apply IsS58.drew|(refine IsS58.below ?_ (bw_below _ _ _)))) (RB.ne HV.out HI.out) _⟩,⟨below_set (by repeat (first|exact HB.out|apply below_alloc|apply pw_below_drewN|apply below_drew1|(refine below_step ?_ (bw_below _ _ _)))) hgA⟩⟩
     ·rw [if_neg q6] at H
      have q6b : (d1 == 0) = false := beq_eq_false_iff_ne.mpr q6
      clear q6
      by_cases q7 : d1 = 1
      ·rw [if_pos q7] at H
       subst q7
       have H' := Aside0.mk H
       clear H
       obtain ⟨i0,hi0,_,hsz,_⟩ := info_parts info5
       have hct := cut_to (P := Tryz.prog) 22 5 .i64 Tryz.underlying22 hi0 A xs.length c c1 Q4.out (by have := Q5.out;omega) HLE.out
       go_wp2_with (first
        | ((with_reducible refine gcal_ (f := 23) rfl ?_);refine gl_ (some 27) Tryz.func23 #[.pointer (some ⟨g,0,none⟩),.int .i64 (xs.length : Int)] ?_;(with_reducible refine (spec_l1Below.calls g t1 s1 s2 (xs.length : Int) c1 c2 c3 w _ ?side1 ?side2 B1.out).mono ?_);(case side1 => exact (by repeat (first | exact HI.out | apply IsS58.alloc | apply IsS58.drewN | apply IsS58.drew | (refine IsS58.below ?_ (bw_below _ _ _)))));(case side2 => exact (by repeat (first | exact HB.out | apply below_alloc | apply pw_below_drewN | apply below_drew1 | (refine below_step ?_ (bw_below _ _ _)))));rintro e w9 ⟨rfl,hi,hb,hk⟩;refine ⟨_,rfl,?_⟩;replace HV := Aside0.mk (RB.but (by repeat (first | exact HV.out | apply RB.alloc | exact RB.below (by exact HV.out) (pw_below_drewN (Below.refl _ _) _) | exact RB.below (by exact HV.out) (below_drew1 (Below.refl _ _)))) (show IsS58 w _ g t1 s1 s2 from (by repeat (first | exact HI.out | apply IsS58.alloc | apply IsS58.drewN | apply IsS58.drew | (refine IsS58.below ?_ (bw_below _ _ _))))) hk);replace HI := Aside0.mk hi;replace HB := Aside0.mk hb;clear hi hb hk)
        | ((with_reducible refine gcal_ (f := 23) rfl ?_);refine gl_ (some 29) Tryz.func23 #[.pointer (some ⟨g,0,none⟩),.int .i64 4] ?_;(with_reducible refine (spec_l1Below.calls g t1 c2 c3 4 1 d2 d3 w _ ?side1 ?side2 B2.out).mono ?_);(case side1 => exact (by repeat (first | exact HI.out | apply IsS58.alloc | apply IsS58.drewN | apply IsS58.drew | (refine IsS58.below ?_ (bw_below _ _ _)))));(case side2 => exact (by repeat (first | exact HB.out | apply below_alloc | apply pw_below_drewN | apply below_drew1 | (refine below_step ?_ (bw_below _ _ _)))));rintro e w10 ⟨rfl,hi,hb,hk⟩;refine ⟨_,rfl,?_⟩;replace HV := Aside0.mk (RB.but (by repeat (first | exact HV.out | apply RB.alloc | exact RB.below (by exact HV.out) (pw_below_drewN (Below.refl _ _) _) | exact RB.below (by exact HV.out) (below_drew1 (Below.refl _ _)))) (show IsS58 w _ g t1 c2 c3 from (by repeat (first | exact HI.out | apply IsS58.alloc | apply IsS58.drewN | apply IsS58.drew | (refine IsS58.below ?_ (bw_below _ _ _))))) hk);replace HI := Aside0.mk hi;replace HB := Aside0.mk hb;clear hi hb hk))
       go_roundg k1
       case measure => have := HK1.out;omega
       case rel => exact ⟨xs.take c1.toNat,wrap64 (n - 1),d2,d3,by first|rfl|(simp;done),⟨RB.take (by repeat (first|exact HV.out|apply RB.alloc|exact RB.below (by exact HV.out) (pw_below_drewN (Below.refl _ _) _)|exact RB.below (by exact HV.out) (below_drew1 (Below.refl _ _)))) c1.toNat (by have := Q4.out;have := Q5.out;omega)⟩,H',⟨by have := HK1.out;omega⟩,⟨(by repeat (first|exact HI.out|apply IsS58.alloc|apply IsS58.drewN|apply IsS58.drew|(refine IsS58.below ?_ (bw_below _ _ _))))⟩,⟨(by repeat (first|exact HB.out|apply below_alloc|apply pw_below_drewN|apply below_drew1|(refine below_step ?_ (bw_below _ _ _))))⟩⟩
      ·rw [if_neg q7] at H
       have q7b : (d1 == 1) = false := beq_eq_false_iff_ne.mpr q7
       clear q7
       by_cases q8 : d1 = 2
       ·rw [if_pos q8] at H
        subst q8
        have H' := Aside0.mk H
        clear H
        obtain ⟨i0,hi0,_,hsz,_⟩ := info_parts info5
        have hct := cut_to (P := Tryz.prog) 22 5 .i64 Tryz.underlying22 hi0 A xs.length c c1 Q4.out (by have := Q5.out;omega) HLE.out
        have hcf := cut_from (P := Tryz.prog) 22 5 .i64 Tryz.underlying22 hi0 1 hsz A xs.length c (wrap64 (c1 + 1)) (by have := Q4.out;have := EW.out;omega) (by have := Q5.out;have := EW.out;omega)
        go_upto_region 13 with (first
         | ((with_reducible refine gcal_ (f := 23) rfl ?_);refine gl_ (some 27) Tryz.func23 #[.pointer (some ⟨g,0,none⟩),.int .i64 (xs.length : Int)] ?_;(with_reducible refine (spec_l1Below.calls g t1 s1 s2 (xs.length : Int) c1 c2 c3 w _ ?side1 ?side2 B1.out).mono ?_);(case side1 => exact (by repeat (first | exact HI.out | apply IsS58.alloc | apply IsS58.drewN | apply IsS58.drew | (refine IsS58.below ?_ (bw_below _ _ _)))));(case side2 => exact (by repeat (first | exact HB.out | apply below_alloc | apply pw_below_drewN | apply below_drew1 | (refine below_step ?_ (bw_below _ _ _)))));rintro e w9 ⟨rfl,hi,hb,hk⟩;refine ⟨_,rfl,?_⟩;replace HV := Aside0.mk (RB.but (by repeat (first | exact HV.out | apply RB.alloc | exact RB.below (by exact HV.out) (pw_below_drewN (Below.refl _ _) _) | exact RB.below (by exact HV.out) (below_drew1 (Below.refl _ _)))) (show IsS58 w _ g t1 s1 s2 from (by repeat (first | exact HI.out | apply IsS58.alloc | apply IsS58.drewN | apply IsS58.drew | (refine IsS58.below ?_ (bw_below _ _ _))))) hk);replace HI := Aside0.mk hi;replace HB := Aside0.mk hb;clear hi hb hk)
         | ((with_reducible refine gcal_ (f := 23) rfl ?_);refine gl_ (some 29) Tryz.func23 #[.pointer (some ⟨g,0,none⟩),.int .i64 4] ?_;(with_reducible refine (spec_l1Below.calls g t1 c2 c3 4 2 d2 d3 w _ ?side1 ?side2 B2.out).mono ?_);(case side1 => exact (by repeat (first | exact HI.out | apply IsS58.alloc | apply IsS58.drewN | apply IsS58.drew | (refine IsS58.below ?_ (bw_below _ _ _)))));(case side2 => exact (by repeat (first | exact HB.out | apply below_alloc | apply pw_below_drewN | apply below_drew1 | (refine below_step ?_ (bw_below _ _ _)))));rintro e w10 ⟨rfl,hi,hb,hk⟩;refine ⟨_,rfl,?_⟩;replace HV := Aside0.mk (RB.but (by repeat (first | exact HV.out | apply RB.alloc | exact RB.below (by exact HV.out) (pw_below_drewN (Below.refl _ _) _) | exact RB.below (by exact HV.out) (below_drew1 (Below.refl _ _)))) (show IsS58 w _ g t1 c2 c3 from (by repeat (first | exact HI.out | apply IsS58.alloc | apply IsS58.drewN | apply IsS58.drew | (refine IsS58.below ?_ (bw_below _ _ _))))) hk);replace HI := Aside0.mk hi;replace HB := Aside0.mk hb;clear hi hb hk))
        refine st_ 11 (S := fun _ => True) trivial (fun _ => ?_)
        refine with_tabW spec_DrawReadRecord.tab13 spec_DrawReadRecord.bits13 (fun HT_ HW_ => ?_)
        have n0_ := Aside0.mk (RB.below HV.out (below_drew1 (Below.refl _ _)))
        have n1_ := Aside0.mk (IsS58.drew HI.out)
        have n2_ := Aside0.mk (below_drew1 HB.out)
        clear HV HI HB
        have HV := n0_
        have HI := n1_
        have HB := n2_
        clear n0_ n1_ n2_
        generalize w10.drew = w12 at HV HI HB ⊢
        refine pv_ 1 49 ?_
        refine pv_ 2 50 ?_
        refine pv_ 3 51 ?_
        refine pv_ 5 53 ?_
        refine pv_ 6 54 ?_
        refine pv_ 7 55 ?_
        refine pv_ 8 56 ?_
        refine oy_ 0 48 (fun K hK => ?_)
        refine Kd.R_lit_step (Kd.int .u8) (w0 := w) w.heap.size 5 (by rfl) (N := 48) rfl (xs := ([] : List Int)) (inner := []) (ok := fun _ => True) (okp := fun _ => True) ?hr (Reps.none _ _) (fun _ hk => hk) trivial HB.out (below_size HB.out) (by simp) ?_
        case hr => first|(go_simp;done)|(go_simp;rfl)
        intro v31 w31 ho hb hg hnew_
        have HN : Aside0 (∀ g',A = some ⟨g',0,none⟩ → some g' ≠ v31.ownBlock) := ⟨by rintro g' rfl e;obtain ⟨b_,hb1,hb2⟩ := hnew_;rw [hb1] at e;injection e with e;have hlt := RB.old HV.out;omega⟩
        replace HV := Aside0.mk (RB.grown HV.out hg (fun _ _ => by simp))
        replace HI := Aside0.mk (IsS58.grown HI.out hg (by simp))
        replace HB := Aside0.mk hb
        have HO := Aside0.mk ho
        clear ho hb hg hnew_
        refine hK.out _ _ trivial (fun _ => ?_)
        clear hK K
        refine nr_ (some 48) _ ?_
        refine oy_ 4 52 (fun K hK => ?_)
        refine Kd.R_append_rows_step (Kd.int .u8) (w0 := w) w.heap.size (by rfl) (.tmp 48) (.tmp 51) 22 5 (.int .u8 0) 1 rfl Tryz.underlying22 info5 rfl (by decide) (by omega) v31 ([] : List Int) (xs.take c1.toNat) _ _ _ (fun _ => True) (fun _ => False) rfl rfl HO.out (RB.takeC HV.out c1.toNat (by have := Q4.out;have := Q5.out;omega) (by have := Q3.out;omega)) (fun _ _ h => h) (fun _ h => h.elim) (fun _ _ => trivial) HB.out (below_size HB.out) ?aL ?_
        case aL => have := Q3.out;have := Q5.out;have := Q4.out;have := EW.out;simp only [List.length_nil,List.length_append,List.length_take,List.length_drop,List.length_singleton];omega
        intro v32 w32 ho hb hg hat
        rw [List.nil_append] at ho
        have HN2 : Aside0 (∀ g',A = some ⟨g',0,none⟩ → some g' ≠ v32.ownBlock) := ⟨by rintro g' rfl e;rcases hat with e1|⟨b_,e1,hb2⟩;exact HN.out g' rfl (e.trans e1);rw [e1] at e;injection e with e;have hlt := RB.old HV.out;omega⟩
        replace HV := Aside0.mk (RB.grown HV.out hg HN.out)
        replace HI := Aside0.mk (IsS58.grown HI.out hg (IsS58.own_ne HI.out HO.out (by decide)))
        replace HB := Aside0.mk hb
        clear HO HN
        have HO := Aside0.mk ho
        have HN := HN2
        clear ho hb hg hat HN2
        refine hK.out _ _ trivial (fun _ => ?_)
        clear hK K
        refine nr_ (some 52) _ ?_
        refine oy_ 9 57 (fun K hK => ?_)
        refine Kd.R_append_rows_step (Kd.int .u8) (w0 := w) w.heap.size (by rfl) (.tmp 52) (.tmp 56) 22 5 (.int .u8 0) 1 rfl Tryz.underlying22 info5 rfl (by decide) (by omega) v32 (xs.take c1.toNat) (xs.drop (wrap64 (c1 + 1)).toNat) _ _ _ (fun _ => True) (fun _ => False) rfl rfl HO.out (RB.dropC HV.out (wrap64 (c1 + 1)).toNat (by have := Q4.out;have := Q5.out;have := EW.out;omega) HLE.out (by have := Q3.out;omega)) (fun _ _ h => h) (fun _ h => h.elim) (fun _ _ => trivial) HB.out (below_size HB.out) ?aL ?_
        case aL => have := Q3.out;have := Q5.out;have := Q4.out;have := EW.out;simp only [List.length_nil,List.length_append,List.length_take,List.length_drop,List.length_singleton];omega
        intro v34 w34 ho hb hg hat
        have HN2 : Aside0 (∀ g',A = some ⟨g',0,none⟩ → some g' ≠ v34.ownBlock) := ⟨by rintro g' rfl e;rcases hat with e1|⟨b_,e1,hb2⟩;exact HN.out g' rfl (e.trans e1);rw [e1] at e;injection e with e;have hlt := RB.old HV.out;omega⟩
        replace HV := Aside0.mk (RB.grown HV.out hg HN.out)
        replace HI := Aside0.mk (IsS58.grown HI.out hg (IsS58.own_ne HI.out HO.out (by decide)))
        replace HB := Aside0.mk hb
        clear HO HN
        have HO := Aside0.mk ho
        have HN := HN2
        clear ho hb hg hat HN2
        refine hK.out _ _ trivial (fun _ => ?_)
        clear hK K
        refine nr_ (some 57) _ ?_
        refine pv_ 10 4 ?_
        refine done_ (done_of HT_.out (by kernel_rfl)) ?_
        go_wp2
        all_goals (
         go_roundg k1
         case measure => have := HK1.out;omega
         case rel => exact ⟨xs.take c1.toNat ++ xs.drop (wrap64 (c1 + 1)).toNat,wrap64 (n - 1),d2,d3,by first|rfl|(simp;done),⟨RB.of_R (by (with_reducible repeat (first|apply Kd.R_alloc|apply Kd.R_drewN|apply Kd.R_drew));exact HO.out)⟩,H',⟨by have := HK1.out;omega⟩,⟨(by repeat (first|exact HI.out|apply IsS58.alloc|apply IsS58.drewN|apply IsS58.drew|(refine IsS58.below ?_ (bw_below _ _ _))))⟩,⟨(by repeat (first|exact HB.out|apply below_alloc|apply pw_below_drewN|apply below_drew1|(refine below_step ?_ (bw_below _ _ _))))⟩⟩)
       ·rw [if_neg q8] at H
        have q8b : (d1 == 2) = false := beq_eq_false_iff_ne.mpr q8
        clear q8
        by_cases q9 : d1 = 3
        rotate_left
        ·rw [if_neg q9] at H;cases H
        rw [if_pos q9] at H
        subst q9
        have H' := Aside0.mk H
        clear H
        obtain ⟨i0,hi0,_,hsz,_⟩ := info_parts info5
        have hct := cut_to (P := Tryz.prog) 22 5 .i64 Tryz.underlying22 hi0 A xs.length c c1 Q4.out (by have := Q5.out;omega) HLE.out
        have hcf := cut_from (P := Tryz.prog) 22 5 .i64 Tryz.underlying22 hi0 1 hsz A xs.length c c1 Q4.out (by have := Q5.out;omega)
        go_upto_region 15 with (first
         | ((with_reducible refine gcal_ (f := 23) rfl ?_);refine gl_ (some 27) Tryz.func23 #[.pointer (some ⟨g,0,none⟩),.int .i64 (xs.length : Int)] ?_;(with_reducible refine (spec_l1Below.calls g t1 s1 s2 (xs.length : Int) c1 c2 c3 w _ ?side1 ?side2 B1.out).mono ?_);(case side1 => exact (by repeat (first | exact HI.out | apply IsS58.alloc | apply IsS58.drewN | apply IsS58.drew | (refine IsS58.below ?_ (bw_below _ _ _)))));(case side2 => exact (by repeat (first | exact HB.out | apply below_alloc | apply pw_below_drewN | apply below_drew1 | (refine below_step ?_ (bw_below _ _ _)))));rintro e w9 ⟨rfl,hi,hb,hk⟩;refine ⟨_,rfl,?_⟩;replace HV := Aside0.mk (RB.but (by repeat (first | exact HV.out | apply RB.alloc | exact RB.below (by exact HV.out) (pw_below_drewN (Below.refl _ _) _) | exact RB.below (by exact HV.out) (below_drew1 (Below.refl _ _)))) (show IsS58 w _ g t1 s1 s2 from (by repeat (first | exact HI.out | apply IsS58.alloc | apply IsS58.drewN | apply IsS58.drew | (refine IsS58.below ?_ (bw_below _ _ _))))) hk);replace HI := Aside0.mk hi;replace HB := Aside0.mk hb;clear hi hb hk)
         | ((with_reducible refine gcal_ (f := 23) rfl ?_);refine gl_ (some 29) Tryz.func23 #[.pointer (some ⟨g,0,none⟩),.int .i64 4] ?_;(with_reducible refine (spec_l1Below.calls g t1 c2 c3 4 3 d2 d3 w _ ?side1 ?side2 B2.out).mono ?_);(case side1 => exact (by repeat (first | exact HI.out | apply IsS58.alloc | apply IsS58.drewN | apply IsS58.drew | (refine IsS58.below ?_ (bw_below _ _ _)))));(case side2 => exact (by repeat (first | exact HB.out | apply below_alloc | apply pw_below_drewN | apply below_drew1 | (refine below_step ?_ (bw_below _ _ _)))));rintro e w10 ⟨rfl,hi,hb,hk⟩;refine ⟨_,rfl,?_⟩;replace HV := Aside0.mk (RB.but (by repeat (first | exact HV.out | apply RB.alloc | exact RB.below (by exact HV.out) (pw_below_drewN (Below.refl _ _) _) | exact RB.below (by exact HV.out) (below_drew1 (Below.refl _ _)))) (show IsS58 w _ g t1 c2 c3 from (by repeat (first | exact HI.out | apply IsS58.alloc | apply IsS58.drewN | apply IsS58.drew | (refine IsS58.below ?_ (bw_below _ _ _))))) hk);replace HI := Aside0.mk hi;replace HB := Aside0.mk hb;clear hi hb hk))
        refine st_ 12 (S := fun _ => True) trivial (fun _ => ?_)
        refine with_tabW spec_DrawReadRecord.tab15 spec_DrawReadRecord.bits15 (fun HT_ HW_ => ?_)
        have n0_ := Aside0.mk (RB.below HV.out (below_drew1 (Below.refl _ _)))
        have n1_ := Aside0.mk (IsS58.drew HI.out)
        have n2_ := Aside0.mk (below_drew1 HB.out)
        clear HV HI HB
        have HV := n0_
        have HI := n1_
        have HB := n2_
        clear n0_ n1_ n2_
        generalize w10.drew = w12 at HV HI HB ⊢
        refine pv_ 1 61 ?_
        refine pv_ 2 62 ?_
        refine pv_ 3 63 ?_
        refine pv_ 7 67 ?_
        refine pv_ 8 68 ?_
        refine pv_ 9 69 ?_
        refine two_ (i := 0) (j := 5) (Ni := some 60) (Nj := some 65) #[true,true,true,true,false,false,false,true,true,true,false,false] #[false,true,true,true,false,true,false,true,true,true,false,false] rfl rfl rfl rfl (two_of HT_.out (by kernel_rfl)) (by decide) (by decide) (fun K hK => ?_) (fun K hK => ?_)
        ·refine Kd.R_lit_step (Kd.int .u8) _ 5 (by rfl) (N := 60) rfl (xs := ([] : List Int)) (inner := []) (ok := fun _ => True) (okp := fun _ => True) ?hr (Reps.none _ _) (fun _ hk => hk) trivial (Below.refl _ _) (Nat.le_refl _) (by simp) ?_
         case hr => first|(go_simp;done)|(go_simp;rfl)
         intro v31 w31 ho hb hg hnew_
         have HN : Aside0 (∀ g',A = some ⟨g',0,none⟩ → some g' ≠ v31.ownBlock) := ⟨by rintro g' rfl e;obtain ⟨b_,hb1,hb2⟩ := hnew_;rw [hb1] at e;injection e with e;have hlt := RB.old HV.out;omega⟩
         replace HV := Aside0.mk (RB.below HV.out hb)
         have HO := Aside0.mk (Kd.R_lower ho (below_size HB.out))
         replace HI := Aside0.mk (IsS58.below HI.out hb)
         replace HB := Aside0.mk (below_step HB.out hb)
         clear ho hb hg hnew_
         refine hK.out _ _ trivial (fun _ => ?_)
         clear hK K
         refine nr_ (some 60) _ ?_
         refine two_ (i := 4) (j := 5) (Ni := some 64) (Nj := some 65) #[true,true,true,true,true,false,false,true,true,true,false,false] #[true,true,true,true,false,true,false,true,true,true,false,false] rfl rfl rfl rfl (two_of HT_.out (by kernel_rfl)) (by decide) (by decide) (fun K hK => ?_) (fun K hK => ?_)
         ·refine Kd.R_append_rows_step (Kd.int .u8) (w0 := w) w.heap.size (by rfl) (.tmp 60) (.tmp 63) 22 5 (.int .u8 0) 1 rfl Tryz.underlying22 info5 rfl (by decide) (by omega) v31 ([] : List Int) (xs.take c1.toNat) _ _ _ (fun _ => True) (fun _ => False) rfl rfl HO.out (RB.takeC HV.out c1.toNat (by have := Q4.out;have := Q5.out;omega) (by have := Q3.out;omega)) (fun _ _ h => h) (fun _ h => h.elim) (fun _ _ => trivial) HB.out (below_size HB.out) ?aL ?_
          case aL => have := Q3.out;have := Q5.out;have := Q4.out;have := EW.out;simp only [List.length_nil,List.length_append,List.length_take,List.length_drop,List.length_singleton];omega
          intro v32 w32 ho hb hg hat
          rw [List.nil_append] at ho
          have HNn : Aside0 (∀ g',A = some ⟨g',0,none⟩ → some g' ≠ v32.ownBlock) := ⟨by rintro g' rfl e;rcases hat with e1|⟨b_,e1,hb2⟩;exact HN.out g' rfl (e.trans e1);rw [e1] at e;injection e with e;have hlt := RB.old HV.out;omega⟩
          replace HV := Aside0.mk (RB.grown HV.out hg HN.out)
          replace HI := Aside0.mk (IsS58.grown HI.out hg (IsS58.own_ne HI.out HO.out (by decide)))
          replace HB := Aside0.mk hb
          clear HO HN
          have HO := Aside0.mk ho
          have HN := HNn
          clear ho hb hg hat HNn
          refine hK.out _ _ trivial (fun _ => ?_)
          clear hK K
          refine nr_ (some 64) _ ?_
          refine oy_ 5 65 (fun K hK => ?_)
          refine Kd.R_lit_step (Kd.int .u8) _ 5 (by rfl) (N := 65) rfl (xs := ([49] : List Int)) (inner := [.int .u8 49]) (ok := fun _ => True) (okp := fun _ => True) ?hr (Reps.one (show Kd.M (Kd.int .u8) _ _ _ 49 [.int .u8 49] from rfl) (Reps.none _ _)) (fun _ hk => hk) trivial (Below.refl _ _) (Nat.le_refl _) (by simp) ?_
          case hr => first|(go_simp;done)|(go_simp;rfl)
          intro v35 w35 ho hb hg hnew_
          replace HV := Aside0.mk (RB.below HV.out hb)
          obtain ⟨A5,c5,hv5,hc5⟩ := (RB.of_R ho).open_
          have HN5 : Aside0 (∀ g',A5 = some ⟨g',0,none⟩ → some g' ≠ v32.ownBlock) := ⟨by rintro g' rfl e;obtain ⟨b_,hb1,hb2⟩ := hnew_;rw [hv5] at hb1;injection hb1 with hb1;have hb3 : g' = b_ := hb1;have hlt := RB.own_lt (RB.of_R HO.out) g' e.symm;omega⟩
          replace HO := Aside0.mk (Kd.R_below HO.out hb)
          have V5 : Aside0 (RB w35 w.heap.size (.slice A5 1 c5) [49]) := ⟨by have h5 := RB.lower (RB.of_R ho) (below_size HB.out);rw [hv5] at h5;exact h5⟩
          replace HI := Aside0.mk (IsS58.below HI.out hb)
          replace HB := Aside0.mk (below_step HB.out hb)
          subst hv5
          clear ho hb hg hnew_
          refine hK.out _ _ trivial (fun _ => ?_)
          clear hK K
          refine nr_ (some 65) _ ?_
          refine oy_ 6 66 (fun K hK => ?_)
          refine Kd.R_append_rows_step (Kd.int .u8) (w0 := w) w.heap.size (by rfl) (.tmp 64) (.tmp 65) 22 5 (.int .u8 0) 1 rfl Tryz.underlying22 info5 rfl (by decide) (by omega) v32 (xs.take c1.toNat) ([49] : List Int) _ _ _ (fun _ => True) (fun _ => False) rfl rfl HO.out (RB.C V5.out (by simp)) (fun _ _ h => h) (fun _ h => h.elim) (fun _ _ => trivial) HB.out (below_size HB.out) ?aL ?_
          case aL => have := Q3.out;have := Q5.out;have := Q4.out;have := EW.out;simp only [List.length_nil,List.length_append,List.length_take,List.length_drop,List.length_singleton];omega
          intro v33 w33 ho hb hg hat
          have HNn : Aside0 (∀ g',A = some ⟨g',0,none⟩ → some g' ≠ v33.ownBlock) := ⟨by rintro g' rfl e;rcases hat with e1|⟨b_,e1,hb2⟩;exact HN.out g' rfl (e.trans e1);rw [e1] at e;injection e with e;have hlt := RB.old HV.out;omega⟩
          replace HV := Aside0.mk (RB.grown HV.out hg HN.out)
          have HN5n : Aside0 (∀ g',A5 = some ⟨g',0,none⟩ → some g' ≠ v33.ownBlock) := ⟨by rintro g' rfl e;rcases hat with e1|⟨b_,e1,hb2⟩;exact HN5.out g' rfl (e.trans e1);rw [e1] at e;injection e with e;have hlt := RB.old V5.out;omega⟩
          replace V5 := Aside0.mk (RB.grown V5.out hg HN5.out)
          replace HI := Aside0.mk (IsS58.grown HI.out hg (IsS58.own_ne HI.out HO.out (by decide)))
          replace HB := Aside0.mk hb
          clear HO HN HN5
          have HO := Aside0.mk ho
          have HN := HNn
          have HN5 := HN5n
          clear ho hb hg hat HNn HN5n
          refine hK.out _ _ trivial (fun _ => ?_)
          clear hK K
          refine nr_ (some 66) _ ?_
          refine oy_ 10 70 (fun K hK => ?_)
          refine Kd.R_append_rows_step (Kd.int .u8) (w0 := w) w.heap.size (by rfl) (.tmp 66) (.tmp 69) 22 5 (.int .u8 0) 1 rfl Tryz.underlying22 info5 rfl (by decide) (by omega) v33 (xs.take c1.toNat ++ [49]) (xs.drop c1.toNat) _ _ _ (fun _ => True) (fun _ => False) rfl rfl HO.out (RB.dropC HV.out (c1).toNat (by have := Q4.out;have := Q5.out;have := EW.out;omega) HLE.out (by have := Q3.out;omega)) (fun _ _ h => h) (fun _ h => h.elim) (fun _ _ => trivial) HB.out (below_size HB.out) ?aL ?_
          case aL => have := Q3.out;have := Q5.out;have := Q4.out;have := EW.out;simp only [List.length_nil,List.length_append,List.length_take,List.length_drop,List.length_singleton];omega
          intro v34 w34 ho hb hg hat
          have HNn : Aside0 (∀ g',A = some ⟨g',0,none⟩ → some g' ≠ v34.ownBlock) := ⟨by rintro g' rfl e;rcases hat with e1|⟨b_,e1,hb2⟩;exact HN.out g' rfl (e.trans e1);rw [e1] at e;injection e with e;have hlt := RB.old HV.out;omega⟩
          replace HV := Aside0.mk (RB.grown HV.out hg HN.out)
          have HN5n : Aside0 (∀ g',A5 = some ⟨g',0,none⟩ → some g' ≠ v34.ownBlock) := ⟨by rintro g' rfl e;rcases hat with e1|⟨b_,e1,hb2⟩;exact HN5.out g' rfl (e.trans e1);rw [e1] at e;injection e with e;have hlt := RB.old V5.out;omega⟩
          replace V5 := Aside0.mk (RB.grown V5.out hg HN5.out)
          replace HI := Aside0.mk (IsS58.grown HI.out hg (IsS58.own_ne HI.out HO.out (by decide)))
          replace HB := Aside0.mk hb
          clear HO HN HN5
          have HO := Aside0.mk ho
          have HN := HNn
          have HN5 := HN5n
          clear ho hb hg hat HNn HN5n
          refine hK.out _ _ trivial (fun _ => ?_)
          clear hK K
          refine nr_ (some 70) _ ?_
          refine pv_ 11 4 ?_
          refine done_ (done_of HT_.out (by kernel_rfl)) ?_
          go_wp2
          all_goals (
           go_roundg k1
           case measure => have := HK1.out;omega
           case rel => exact ⟨xs.take c1.toNat ++ [49] ++ xs.drop c1.toNat,wrap64 (n - 1),d2,d3,by first|rfl|(simp;done),⟨RB.of_R (by (with_reducible repeat (first|apply Kd.R_alloc|apply Kd.R_drewN|apply Kd.R_drew));exact HO.out)⟩,H',⟨by have := HK1.out;omega⟩,⟨(by repeat (first|exact HI.out|apply IsS58.alloc|apply IsS58.drewN|apply IsS58.drew|(refine IsS58.below ?_ (bw_below _ _ _))))⟩,⟨(by repeat (first|exact HB.out|apply below_alloc|apply pw_below_drewN|apply below_drew1|(refine below_step ?_ (bw_below _ _ _))))⟩⟩)
         ·refine Kd.R_lit_step (Kd.int .u8) _ 5 (by rfl) (N := 65) rfl (xs := ([49] : List Int)) (inner := [.int .u8 49]) (ok := fun _ => True) (okp := fun _ => True) ?hr (Reps.one (show Kd.M (Kd.int .u8) _ _ _ 49 [.int .u8 49] from rfl) (Reps.none _ _)) (fun _ hk => hk) trivial (Below.refl _ _) (Nat.le_refl _) (by simp) ?_
          case hr => first|(go_simp;done)|(go_simp;rfl)
          intro v35 w35 ho hb hg hnew_
          replace HV := Aside0.mk (RB.below HV.out hb)
          obtain ⟨A5,c5,hv5,hc5⟩ := (RB.of_R ho).open_
          have HN5 : Aside0 (∀ g',A5 = some ⟨g',0,none⟩ → some g' ≠ v31.ownBlock) := ⟨by rintro g' rfl e;obtain ⟨b_,hb1,hb2⟩ := hnew_;rw [hv5] at hb1;injection hb1 with hb1;have hb3 : g' = b_ := hb1;have hlt := RB.own_lt (RB.of_R HO.out) g' e.symm;omega⟩
          replace HO := Aside0.mk (Kd.R_below HO.out hb)
          have V5 : Aside0 (RB w35 w.heap.size (.slice A5 1 c5) [49]) := ⟨by have h5 := RB.lower (RB.of_R ho) (below_size HB.out);rw [hv5] at h5;exact h5⟩
          replace HI := Aside0.mk (IsS58.below HI.out hb)
          replace HB := Aside0.mk (below_step HB.out hb)
          subst hv5
          clear ho hb hg hnew_
          refine hK.out _ _ trivial (fun _ => ?_)
          clear hK K
          refine nr_ (some 65) _ ?_
          refine oy_ 4 64 (fun K hK => ?_)
          refine Kd.R_append_rows_step (Kd.int .u8) (w0 := w) w.heap.size (by rfl) (.tmp 60) (.tmp 63) 22 5 (.int .u8 0) 1 rfl Tryz.underlying22 info5 rfl (by decide) (by omega) v31 ([] : List Int) (xs.take c1.toNat) _ _ _ (fun _ => True) (fun _ => False) rfl rfl HO.out (RB.takeC HV.out c1.toNat (by have := Q4.out;have := Q5.out;omega) (by have := Q3.out;omega)) (fun _ _ h => h) (fun _ h => h.elim) (fun _ _ => trivial) HB.out (below_size HB.out) ?aL ?_
          case aL => have := Q3.out;have := Q5.out;have := Q4.out;have := EW.out;simp only [List.length_nil,List.length_append,List.length_take,List.length_drop,List.length_singleton];omega
          intro v32 w32 ho hb hg hat
          rw [List.nil_append] at ho
          have HNn : Aside0 (∀ g',A = some ⟨g',0,none⟩ → some g' ≠ v32.ownBlock) := ⟨by rintro g' rfl e;rcases hat with e1|⟨b_,e1,hb2⟩;exact HN.out g' rfl (e.trans e1);rw [e1] at e;injection e with e;have hlt := RB.old HV.out;omega⟩
          replace HV := Aside0.mk (RB.grown HV.out hg HN.out)
          have HN5n : Aside0 (∀ g',A5 = some ⟨g',0,none⟩ → some g' ≠ v32.ownBlock) := ⟨by rintro g' rfl e;rcases hat with e1|⟨b_,e1,hb2⟩;exact HN5.out g' rfl (e.trans e1);rw [e1] at e;injection e with e;have hlt := RB.old V5.out;omega⟩
          replace V5 := Aside0.mk (RB.grown V5.out hg HN5.out)
          replace HI := Aside0.mk (IsS58.grown HI.out hg (IsS58.own_ne HI.out HO.out (by decide)))
          replace HB := Aside0.mk hb
          clear HO HN HN5
          have HO := Aside0.mk ho
          have HN := HNn
          have HN5 := HN5n
          clear ho hb hg hat HNn HN5n
          refine hK.out _ _ trivial (fun _ => ?_)
          clear hK K
          refine nr_ (some 64) _ ?_
          refine oy_ 6 66 (fun K hK => ?_)
          refine Kd.R_append_rows_step (Kd.int .u8) (w0 := w) w.heap.size (by rfl) (.tmp 64) (.tmp 65) 22 5 (.int .u8 0) 1 rfl Tryz.underlying22 info5 rfl (by decide) (by omega) v32 (xs.take c1.toNat) ([49] : List Int) _ _ _ (fun _ => True) (fun _ => False) rfl rfl HO.out (RB.C V5.out (by simp)) (fun _ _ h => h) (fun _ h => h.elim) (fun _ _ => trivial) HB.out (below_size HB.out) ?aL ?_
          case aL => have := Q3.out;have := Q5.out;have := Q4.out;have := EW.out;simp only [List.length_nil,List.length_append,List.length_take,List.length_drop,List.length_singleton];omega
          intro v33 w33 ho hb hg hat
          have HNn : Aside0 (∀ g',A = some ⟨g',0,none⟩ → some g' ≠ v33.ownBlock) := ⟨by rintro g' rfl e;rcases hat with e1|⟨b_,e1,hb2⟩;exact HN.out g' rfl (e.trans e1);rw [e1] at e;injection e with e;have hlt := RB.old HV.out;omega⟩
          replace HV := Aside0.mk (RB.grown HV.out hg HN.out)
          have HN5n : Aside0 (∀ g',A5 = some ⟨g',0,none⟩ → some g' ≠ v33.ownBlock) := ⟨by rintro g' rfl e;rcases hat with e1|⟨b_,e1,hb2⟩;exact HN5.out g' rfl (e.trans e1);rw [e1] at e;injection e with e;have hlt := RB.old V5.out;omega⟩
          replace V5 := Aside0.mk (RB.grown V5.out hg HN5.out)
          replace HI := Aside0.mk (IsS58.grown HI.out hg (IsS58.own_ne HI.out HO.out (by decide)))
          replace HB := Aside0.mk hb
          clear HO HN HN5
          have HO := Aside0.mk ho
          have HN := HNn
          have HN5 := HN5n
          clear ho hb hg hat HNn HN5n
          refine hK.out _ _ trivial (fun _ => ?_)
          clear hK K
          refine nr_ (some 66) _ ?_
          refine oy_ 10 70 (fun K hK => ?_)
          refine Kd.R_append_rows_step (Kd.int .u8) (w0 := w) w.heap.size (by rfl) (.tmp 66) (.tmp 69) 22 5 (.int .u8 0) 1 rfl Tryz.underlying22 info5 rfl (by decide) (by omega) v33 (xs.take c1.toNat ++ [49]) (xs.drop c1.toNat) _ _ _ (fun _ => True) (fun _ => False) rfl rfl HO.out (RB.dropC HV.out (c1).toNat (by have := Q4.out;have := Q5.out;have := EW.out;omega) HLE.out (by have := Q3.out;omega)) (fun _ _ h => h) (fun _ h => h.elim) (fun _ _ => trivial) HB.out (below_size HB.out) ?aL ?_
          case aL => have := Q3.out;have := Q5.out;have := Q4.out;have := EW.out;simp only [List.length_nil,List.length_append,List.length_take,List.length_drop,List.length_singleton];omega
          intro v34 w34 ho hb hg hat
          have HNn : Aside0 (∀ g',A = some ⟨g',0,none⟩ → some g' ≠ v34.ownBlock) := ⟨by rintro g' rfl e;rcases hat with e1|⟨b_,e1,hb2⟩;exact HN.out g' rfl (e.trans e1);rw [e1] at e;injection e with e;have hlt := RB.old HV.out;omega⟩
          replace HV := Aside0.mk (RB.grown HV.out hg HN.out)
          have HN5n : Aside0 (∀ g',A5 = some ⟨g',0,none⟩ → some g' ≠ v34.ownBlock) := ⟨by rintro g' rfl e;rcases hat with e1|⟨b_,e1,hb2⟩;exact HN5.out g' rfl (e.trans e1);rw [e1] at e;injection e with e;have hlt := RB.old V5.out;omega⟩
          replace V5 := Aside0.mk (RB.grown V5.out hg HN5.out)
          replace HI := Aside0.mk (IsS58.grown HI.out hg (IsS58.own_ne HI.out HO.out (by decide)))
          replace HB := Aside0.mk hb
          clear HO HN HN5
          have HO := Aside0.mk ho
          have HN := HNn
          have HN5 := HN5n
          clear ho hb hg hat HNn HN5n
          refine hK.out _ _ trivial (fun _ => ?_)
          clear hK K
          refine nr_ (some 70) _ ?_
          refine pv_ 11 4 ?_
          refine done_ (done_of HT_.out (by kernel_rfl)) ?_
          go_wp2
          all_goals (
           go_roundg k1
           case measure => have := HK1.out;omega
           case rel => exact ⟨xs.take c1.toNat ++ [49] ++ xs.drop c1.toNat,wrap64 (n - 1),d2,d3,by first|rfl|(simp;done),⟨RB.of_R (by (with_reducible repeat (first|apply Kd.R_alloc|apply Kd.R_drewN|apply Kd.R_drew));exact HO.out)⟩,H',⟨by have := HK1.out;omega⟩,⟨(by repeat (first|exact HI.out|apply IsS58.alloc|apply IsS58.drewN|apply IsS58.drew|(refine IsS58.below ?_ (bw_below _ _ _))))⟩,⟨(by repeat (first|exact HB.out|apply below_alloc|apply pw_below_drewN|apply below_drew1|(refine below_step ?_ (bw_below _ _ _))))⟩⟩)
        ·refine Kd.R_lit_step (Kd.int .u8) _ 5 (by rfl) (N := 65) rfl (xs := ([49] : List Int)) (inner := [.int .u8 49]) (ok := fun _ => True) (okp := fun _ => True) ?hr (Reps.one (show Kd.M (Kd.int .u8) _ _ _ 49 [.int .u8 49] from rfl) (Reps.none _ _)) (fun _ hk => hk) trivial (Below.refl _ _) (Nat.le_refl _) (by simp) ?_
         case hr => first|(go_simp;done)|(go_simp;rfl)
         intro v35 w35 ho hb hg hnew_
         replace HV := Aside0.mk (RB.below HV.out hb)
         obtain ⟨A5,c5,hv5,hc5⟩ := (RB.of_R ho).open_
         have V5 : Aside0 (RB w35 w.heap.size (.slice A5 1 c5) [49]) := ⟨by have h5 := RB.lower (RB.of_R ho) (below_size HB.out);rw [hv5] at h5;exact h5⟩
         replace HI := Aside0.mk (IsS58.below HI.out hb)
         replace HB := Aside0.mk (below_step HB.out hb)
         subst hv5
         clear ho hb hg hnew_
         refine hK.out _ _ trivial (fun _ => ?_)
         clear hK K
         refine nr_ (some 65) _ ?_
         refine oy_ 0 60 (fun K hK => ?_)
         refine Kd.R_lit_step (Kd.int .u8) _ 5 (by rfl) (N := 60) rfl (xs := ([] : List Int)) (inner := []) (ok := fun _ => True) (okp := fun _ => True) ?hr (Reps.none _ _) (fun _ hk => hk) trivial (Below.refl _ _) (Nat.le_refl _) (by simp) ?_
         case hr => first|(go_simp;done)|(go_simp;rfl)
         intro v31 w31 ho hb hg hnew_
         have HN : Aside0 (∀ g',A = some ⟨g',0,none⟩ → some g' ≠ v31.ownBlock) := ⟨by rintro g' rfl e;obtain ⟨b_,hb1,hb2⟩ := hnew_;rw [hb1] at e;injection e with e;have hlt := RB.old HV.out;omega⟩
         have HN5 : Aside0 (∀ g',A5 = some ⟨g',0,none⟩ → some g' ≠ v31.ownBlock) := ⟨by rintro g' rfl e;obtain ⟨b_,hb1,hb2⟩ := hnew_;rw [hb1] at e;injection e with e;have hlt := RB.old V5.out;omega⟩
         replace HV := Aside0.mk (RB.below HV.out hb)
         replace V5 := Aside0.mk (RB.below V5.out hb)
         have HO := Aside0.mk (Kd.R_lower ho (below_size HB.out))
         replace HI := Aside0.mk (IsS58.below HI.out hb)
         replace HB := Aside0.mk (below_step HB.out hb)
         clear ho hb hg hnew_
         refine hK.out _ _ trivial (fun _ => ?_)
         clear hK K
         refine nr_ (some 60) _ ?_
         refine oy_ 4 64 (fun K hK => ?_)
         refine Kd.R_append_rows_step (Kd.int .u8) (w0 := w) w.heap.size (by rfl) (.tmp 60) (.tmp 63) 22 5 (.int .u8 0) 1 rfl Tryz.underlying22 info5 rfl (by decide) (by omega) v31 ([] : List Int) (xs.take c1.toNat) _ _ _ (fun _ => True) (fun _ => False) rfl rfl HO.out (RB.takeC HV.out c1.toNat (by have := Q4.out;have := Q5.out;omega) (by have := Q3.out;omega)) (fun _ _ h => h) (fun _ h => h.elim) (fun _ _ => trivial) HB.out (below_size HB.out) ?aL ?_
         case aL => have := Q3.out;have := Q5.out;have := Q4.out;have := EW.out;simp only [List.length_nil,List.length_append,List.length_take,List.length_drop,List.length_singleton];omega
         intro v32 w32 ho hb hg hat
         rw [List.nil_append] at ho
         have HNn : Aside0 (∀ g',A = some ⟨g',0,none⟩ → some g' ≠ v32.ownBlock) := ⟨by rintro g' rfl e;rcases hat with e1|⟨b_,e1,hb2⟩;exact HN.out g' rfl (e.trans e1);rw [e1] at e;injection e with e;have hlt := RB.old HV.out;omega⟩
         replace HV := Aside0.mk (RB.grown HV.out hg HN.out)
         have HN5n : Aside0 (∀ g',A5 = some ⟨g',0,none⟩ → some g' ≠ v32.ownBlock) := ⟨by rintro g' rfl e;rcases hat with e1|⟨b_,e1,hb2⟩;exact HN5.out g' rfl (e.trans e1);rw [e1] at e;injection e with e;have hlt := RB.old V5.out;omega⟩
         replace V5 := Aside0.mk (RB.grown V5.out hg HN5.out)
         replace HI := Aside0.mk (IsS58.grown HI.out hg (IsS58.own_ne HI.out HO.out (by decide)))
         replace HB := Aside0.mk hb
         clear HO HN HN5
         have HO := Aside0.mk ho
         have HN := HNn
         have HN5 := HN5n
         clear ho hb hg hat HNn HN5n
         refine hK.out _ _ trivial (fun _ => ?_)
         clear hK K
         refine nr_ (some 64) _ ?_
         refine oy_ 6 66 (fun K hK => ?_)
         refine Kd.R_append_rows_step (Kd.int .u8) (w0 := w) w.heap.size (by rfl) (.tmp 64) (.tmp 65) 22 5 (.int .u8 0) 1 rfl Tryz.underlying22 info5 rfl (by decide) (by omega) v32 (xs.take c1.toNat) ([49] : List Int) _ _ _ (fun _ => True) (fun _ => False) rfl rfl HO.out (RB.C V5.out (by simp)) (fun _ _ h => h) (fun _ h => h.elim) (fun _ _ => trivial) HB.out (below_size HB.out) ?aL ?_
         case aL => have := Q3.out;have := Q5.out;have := Q4.out;have := EW.out;simp only [List.length_nil,List.length_append,List.length_take,List.length_drop,List.length_singleton];omega
         intro v33 w33 ho hb hg hat
         have HNn : Aside0 (∀ g',A = some ⟨g',0,none⟩ → some g' ≠ v33.ownBlock) := ⟨by rintro g' rfl e;rcases hat with e1|⟨b_,e1,hb2⟩;exact HN.out g' rfl (e.trans e1);rw [e1] at e;injection e with e;have hlt := RB.old HV.out;omega⟩
         replace HV := Aside0.mk (RB.grown HV.out hg HN.out)
         have HN5n : Aside0 (∀ g',A5 = some ⟨g',0,none⟩ → some g' ≠ v33.ownBlock) := ⟨by rintro g' rfl e;rcases hat with e1|⟨b_,e1,hb2⟩;exact HN5.out g' rfl (e.trans e1);rw [e1] at e;injection e with e;have hlt := RB.old V5.out;omega⟩
         replace V5 := Aside0.mk (RB.grown V5.out hg HN5.out)
         replace HI := Aside0.mk (IsS58.grown HI.out hg (IsS58.own_ne HI.out HO.out (by decide)))
         replace HB := Aside0.mk hb
         clear HO HN HN5
         have HO := Aside0.mk ho
         have HN := HNn
         have HN5 := HN5n
         clear ho hb hg hat HNn HN5n
         refine hK.out _ _ trivial (fun _ => ?_)
         clear hK K
         refine nr_ (some 66) _ ?_
         refine oy_ 10 70 (fun K hK => ?_)
         refine Kd.R_append_rows_step (Kd.int .u8) (w0 := w) w.heap.size (by rfl) (.tmp 66) (.tmp 69) 22 5 (.int .u8 0) 1 rfl Tryz.underlying22 info5 rfl (by decide) (by omega) v33 (xs.take c1.toNat ++ [49]) (xs.drop c1.toNat) _ _ _ (fun _ => True) (fun _ => False) rfl rfl HO.out (RB.dropC HV.out (c1).toNat (by have := Q4.out;have := Q5.out;have := EW.out;omega) HLE.out (by have := Q3.out;omega)) (fun _ _ h => h) (fun _ h => h.elim) (fun _ _ => trivial) HB.out (below_size HB.out) ?aL ?_
         case aL => have := Q3.out;have := Q5.out;have := Q4.out;have := EW.out;simp only [List.length_nil,List.length_append,List.length_take,List.length_drop,List.length_singleton];omega
         intro v34 w34 ho hb hg hat
         have HNn : Aside0 (∀ g',A = some ⟨g',0,none⟩ → some g' ≠ v34.ownBlock) := ⟨by rintro g' rfl e;rcases hat with e1|⟨b_,e1,hb2⟩;exact HN.out g' rfl (e.trans e1);rw [e1] at e;injection e with e;have hlt := RB.old HV.out;omega⟩
         replace HV := Aside0.mk (RB.grown HV.out hg HN.out)
         have HN5n : Aside0 (∀ g',A5 = some ⟨g',0,none⟩ → some g' ≠ v34.ownBlock) := ⟨by rintro g' rfl e;rcases hat with e1|⟨b_,e1,hb2⟩;exact HN5.out g' rfl (e.trans e1);rw [e1] at e;injection e with e;have hlt := RB.old V5.out;omega⟩
         replace V5 := Aside0.mk (RB.grown V5.out hg HN5.out)
         replace HI := Aside0.mk (IsS58.grown HI.out hg (IsS58.own_ne HI.out HO.out (by decide)))
         replace HB := Aside0.mk hb
         clear HO HN HN5
         have HO := Aside0.mk ho
         have HN := HNn
         have HN5 := HN5n
         clear ho hb hg hat HNn HN5n
         refine hK.out _ _ trivial (fun _ => ?_)
         clear hK K
         refine nr_ (some 70) _ ?_
         refine pv_ 11 4 ?_
         refine done_ (done_of HT_.out (by kernel_rfl)) ?_
         go_wp2
         all_goals (
          go_roundg k1
          case measure => have := HK1.out;omega
          case rel => exact ⟨xs.take c1.toNat ++ [49] ++ xs.drop c1.toNat,wrap64 (n - 1),d2,d3,by first|rfl|(simp;done),⟨RB.of_R (by (with_reducible repeat (first|apply Kd.R_alloc|apply Kd.R_drewN|apply Kd.R_drew));exact HO.out)⟩,H',⟨by have := HK1.out;omega⟩,⟨(by repeat (first|exact HI.out|apply IsS58.alloc|apply IsS58.drewN|apply IsS58.drew|(refine IsS58.below ?_ (bw_below _ _ _))))⟩,⟨(by repeat (first|exact HB.out|apply below_alloc|apply pw_below_drewN|apply below_drew1|(refine below_step ?_ (bw_below _ _ _))))⟩⟩)
    ·rw [if_neg q2] at H
     have q2b := decide_eq_false q2
     have q2c : decide (0 < xs.length) = false := decide_eq_false (by omega)
     clear q2
     obtain ⟨hlen,H⟩ : xs.length ≤ 100000000 ∧ strOfNums xs = r := by
      split at H
      ·exact ⟨by assumption,Option.some.inj H⟩
      ·cases H
     subst H
     have hst := Kd.C_string (P := Tryz.prog) (c := c) Tryz.underlying22 Tryz.underlying5 Tryz.underlying9 (RB.C HV.out (by omega))
     go_wp2
     go_ret
     exact ⟨rfl,HB.out⟩
   ·rw [if_neg q1] at H
    have q1b := decide_eq_false q1
    clear q1
    obtain ⟨hlen,H⟩ : xs.length ≤ 100000000 ∧ strOfNums xs = r := by
     split at H
     ·exact ⟨by assumption,Option.some.inj H⟩
     ·cases H
    subst H
    have hst := Kd.C_string (P := Tryz.prog) (c := c) Tryz.underlying22 Tryz.underlying5 Tryz.underlying9 (RB.C HV.out (by omega))
    go_wp2
    go_ret
    exact ⟨rfl,HB.out⟩

/-! ### spec_l2Words: function 24 -/
def spec_l2Words.l0 : Nat → ByteArray → List ByteArray → Int → Int → Option (List ByteArray)
  | 0, _, _, _, _ => none
  | k + 1, x0, x3, x4, x5 => if x5 ≤ (x0.size : Int) then (if x5 = (x0.size : Int) then (if 0 ≤ x4 then (if x4 ≤ x5 then (if x3.length < 8796093022208 then (spec_l2Words.l0 k x0 (x3 ++ [x0.extract (x4 : Int).toNat (x5 : Int).toNat]) (wrap64 (x5 + 1)) (wrap64 (x5 + 1))) else (none)) else (none)) else (none)) else (if 0 ≤ x5 then (if x5 < (x0.size : Int) then (if (bt x0 x5) = 32 then (if 0 ≤ x4 then (if x4 ≤ x5 then (if x3.length < 8796093022208 then (spec_l2Words.l0 k x0 (x3 ++ [x0.extract (x4 : Int).toNat (x5 : Int).toNat]) (wrap64 (x5 + 1)) (wrap64 (x5 + 1))) else (none)) else (none)) else (none)) else (spec_l2Words.l0 k x0 x3 x4 (wrap64 (x5 + 1)))) else (none)) else (none))) else (some x3)
def spec_l2Words.f (k : Nat) (a0 : ByteArray) : Option (List ByteArray) := spec_l2Words.l0 k a0 (([] : List ByteArray)) 0 0

set_option maxHeartbeats 8000000 in
set_option maxRecDepth 100000 in
theorem spec_l2Words.calls (k : Nat) (a0 : ByteArray) (r : List ByteArray) (w : World) (h : spec_l2Words.f k a0 = some r) :
    Calls Tryz.prog 24 #[.string a0] w fun e w' => ∃ v0_ : Value, e = .returned (v0_) ∧ Kd.R Kd.string 9 w' w.heap.size (fun _ => True) v0_ r ∧ Below w.heap.size w w' := by
 have HB := Aside0.mk (Below.refl w.heap.size w)
 have H : (spec_l2Words.l0 k a0 (([] : List ByteArray)) 0 0) = some r := h
 clear h
 obtain ⟨y413,hy413⟩ : ∃ y_ : List ByteArray,y_ = (([] : List ByteArray)) := ⟨_,rfl⟩
 replace H : (spec_l2Words.l0 k a0 y413 0 0) = some r := by first|(rw [hy413];with_reducible exact H)|(have H2_ := (Option.bind_some _ _).symm.trans H;rw [hy413];with_reducible exact H2_)|(have H2_ := (Option.bind_some _ _).symm.trans H;with_reducible exact H2_)|with_reducible exact H|(rw [hy413];exact H)|exact H
 have Ny413 := Aside0.mk hy413
 clear hy413
 have H' := Aside0.mk H
 clear H
 go_enter Tryz.func24,Tryz.ntmps24
 go_wp2_with (first|((with_reducible refine gate_dst (N := 6) rfl ?_);refine Kd.R_lit Kd.string _ 9 ?hg (N := 6) ?hd (xs := ([] : List ByteArray)) (inner := []) (ok := fun _ => True) (okp := fun _ => True) ?hr ?hp (fun _ hk => hk) trivial (Below.refl _ _) (Nat.le_refl _) (by simp) ?_;(case hd => rfl);(case hg => rfl);(case hr => first|(go_simp;done)|(go_simp;rfl));(case hp => exact (Reps.none _ _));intro v414 w2 ho3 hb hg_ hnew_;clear hg_ hnew_;(first|rw [← Ny413.out] at ho3|(simp only [Int.reduceToNat] at ho3;rw [← Ny413.out] at ho3));have HO415 := Aside0.mk (Kd.R_lower ho3 (below_size b_));replace HB := Aside0.mk (below_step b_ hb);clear hb ho3))
 go_loopg [3,4,5] k (fun kq v3 v4 v5 w' => ∃ (x3_1 : List ByteArray) (x4_1 : Int) (x5_1 : Int),v4 = .int .i64 x4_1 ∧ v5 = .int .i64 x5_1 ∧ Aside0 (spec_l2Words.l0 kq a0 x3_1 x4_1 x5_1 = some r) ∧ Aside0 (kq ≤ k) ∧ Aside0 (Kd.R Kd.string 9 w' w.heap.size (fun _ => True) v3 x3_1) ∧ Aside0 (Below w.heap.size w w'))
 case atStart => exact ⟨(y413),(0),(0),rs_,rs_,H',⟨Nat.le_refl _⟩,⟨by (with_reducible repeat (first|apply Kd.R_alloc|apply Kd.R_drewN|apply Kd.R_drew));exact HO415.out⟩,⟨b_⟩⟩
 case round =>
  clear H'
  try clear c2
  try clear p2
  obtain ⟨x3_1,x4_1,x5_1,rfl,rfl,HA,HK1,HO_3,HB⟩ := hrel
  cases gk with
    | zero => exact absurd HA.out (by simp [spec_l2Words.l0])
    | succ k1 =>
   have H := HA.out
   clear HA
   simp only [spec_l2Words.l0] at H
   by_cases c4 : x5_1 ≤ (a0.size : Int)
   ·rw [if_pos c4] at H
    have c4b0 : decide (x5_1 ≤ (a0.size : Int)) = true := decide_eq_true c4
    clear c4
    by_cases c5 : x5_1 = (a0.size : Int)
    ·rw [if_pos c5] at H
     have c5b0 : (x5_1 == (a0.size : Int)) = true := beq_iff_eq.mpr c5
     have c5b1 : (x5_1 != (a0.size : Int)) = false := bne_eq_false_iff_eq.mpr c5
     clear c5
     by_cases c6 : 0 ≤ x4_1
     ·rw [if_pos c6] at H
      have c6b0 := eq_true c6
      have c6b1 : decide (0 ≤ x4_1) = true := decide_eq_true c6
      clear c6
      by_cases c7 : x4_1 ≤ x5_1
      ·rw [if_pos c7] at H
       have c7b0 := eq_true c7
       have c7b1 : decide (x4_1 ≤ x5_1) = true := decide_eq_true c7
       clear c7
       have c8b0 := eq_true (od_ : x5_1 ≤ (a0.size : Int))
       by_cases c9 : x3_1.length < 8796093022208
       ·rw [if_pos c9] at H
        have LMc9 := Aside0.mk c9
        clear c9
        obtain ⟨y416,hy416⟩ : ∃ y_ : List ByteArray,y_ = (x3_1 ++ [a0.extract (x4_1 : Int).toNat (x5_1 : Int).toNat]) := ⟨_,rfl⟩
        replace H : (spec_l2Words.l0 k1 a0 y416 (wrap64 (x5_1 + 1)) (wrap64 (x5_1 + 1))) = some r := by first|(rw [hy416];with_reducible exact H)|(have H2_ := (Option.bind_some _ _).symm.trans H;rw [hy416];with_reducible exact H2_)|(have H2_ := (Option.bind_some _ _).symm.trans H;with_reducible exact H2_)|with_reducible exact H|(rw [hy416];exact H)|exact H
        have Ny416 := Aside0.mk hy416
        clear hy416
        have H' := Aside0.mk H
        clear H
        go_wp2_with (first|((with_reducible refine gblt_ (b := .append) (xs := #[.tmp 23,.tmp 28]) rfl ?_);at_builtin;refine Kd.R_append Kd.string (w0 := w) w.heap.size rfl (.tmp 23) (.tmp 28) 35 9 (.string ⟨#[]⟩) 16 rfl Tryz.underlying35 info9 rfl (by decide) (by omega) u3 x3_1 (a0.extract (x4_1 : Int).toNat (x5_1 : Int).toNat) [.string (a0.extract (x4_1 : Int).toNat (x5_1 : Int).toNat)] (fun _ => True) (fun _ => False) rfl rfl ?aP (fun _ hk => hk.elim) ?aF ?aO ?aB ?aS ?aL ?_;(case aP => exact rfl);(case aB => exact b_);(case aF => exact (fun _ _ => trivial));(case aO => exact (by (with_reducible repeat (first|apply Kd.R_alloc|apply Kd.R_drewN|apply Kd.R_drew));exact HO_3.out));(case aS => exact (below_size b_));(case aL => have := LMc9.out;omega);intro v417 w10 ho hb hg hat;rw [← Ny416.out] at ho;replace HB := Aside0.mk (hb);have HO418 := Aside0.mk (ho);clear HO_3;clear ho hb hg hat))
        go_roundg k1
        case measure => have := HK1.out;omega
        case rel => exact ⟨(y416),(wrap64 (x5_1 + 1)),(wrap64 (x5_1 + 1)),rs_,rs_,H',⟨by have := HK1.out;omega⟩,⟨by (with_reducible repeat (first|apply Kd.R_alloc|apply Kd.R_drewN|apply Kd.R_drew));exact HO418.out⟩,⟨b_⟩⟩
       ·rw [if_neg c9] at H
        exact absurd H (by simp)
      ·rw [if_neg c7] at H
       exact absurd H (by simp)
     ·rw [if_neg c6] at H
      exact absurd H (by simp)
    ·rw [if_neg c5] at H
     have c5b0 : (x5_1 == (a0.size : Int)) = false := beq_eq_false_iff_ne.mpr c5
     have c5b1 : (x5_1 != (a0.size : Int)) = true := bne_iff_ne.mpr c5
     by_cases c11 : 0 ≤ x5_1
     ·rw [if_pos c11] at H
      have c11b0 : decide (0 ≤ x5_1) = true := decide_eq_true c11
      clear c11
      by_cases c12 : x5_1 < (a0.size : Int)
      ·rw [if_pos c12] at H
       have c12b0 : decide (x5_1 < (a0.size : Int)) = true := decide_eq_true c12
       clear c12
       by_cases c14 : (bt a0 x5_1) = 32
       ·rw [if_pos c14] at H
        have c14b0 : ((bt a0 x5_1) == 32) = true := beq_iff_eq.mpr c14
        have c14b1 : ((bt a0 x5_1) != 32) = false := bne_eq_false_iff_eq.mpr c14
        clear c14
        by_cases c15 : 0 ≤ x4_1
        ·rw [if_pos c15] at H
         have c15b0 := eq_true c15
         have c15b1 : decide (0 ≤ x4_1) = true := decide_eq_true c15
         clear c15
         by_cases c16 : x4_1 ≤ x5_1
         ·rw [if_pos c16] at H
          have c16b0 := eq_true c16
          have c16b1 : decide (x4_1 ≤ x5_1) = true := decide_eq_true c16
          clear c16
          have c17b0 := eq_true (od_ : x5_1 ≤ (a0.size : Int))
          by_cases c18 : x3_1.length < 8796093022208
          ·rw [if_pos c18] at H
           have LMc18 := Aside0.mk c18
           clear c18
           obtain ⟨y419,hy419⟩ : ∃ y_ : List ByteArray,y_ = (x3_1 ++ [a0.extract (x4_1 : Int).toNat (x5_1 : Int).toNat]) := ⟨_,rfl⟩
           replace H : (spec_l2Words.l0 k1 a0 y419 (wrap64 (x5_1 + 1)) (wrap64 (x5_1 + 1))) = some r := by first|(rw [hy419];with_reducible exact H)|(have H2_ := (Option.bind_some _ _).symm.trans H;rw [hy419];with_reducible exact H2_)|(have H2_ := (Option.bind_some _ _).symm.trans H;with_reducible exact H2_)|with_reducible exact H|(rw [hy419];exact H)|exact H
           have Ny419 := Aside0.mk hy419
           clear hy419
           have H' := Aside0.mk H
           clear H
           have p13 : 0 ≤ (x5_1 : Int) := od_
           have q13 : x5_1 < (a0.size : Int) := od_
           have hx13 := bt_at a0 x5_1
           replace p13 := eq_true p13
           replace q13 := eq_true q13
           go_wp2_with (first|((with_reducible refine gblt_ (b := .append) (xs := #[.tmp 23,.tmp 28]) rfl ?_);at_builtin;refine Kd.R_append Kd.string (w0 := w) w.heap.size rfl (.tmp 23) (.tmp 28) 35 9 (.string ⟨#[]⟩) 16 rfl Tryz.underlying35 info9 rfl (by decide) (by omega) u3 x3_1 (a0.extract (x4_1 : Int).toNat (x5_1 : Int).toNat) [.string (a0.extract (x4_1 : Int).toNat (x5_1 : Int).toNat)] (fun _ => True) (fun _ => False) rfl rfl ?aP (fun _ hk => hk.elim) ?aF ?aO ?aB ?aS ?aL ?_;(case aP => exact rfl);(case aB => exact b_);(case aF => exact (fun _ _ => trivial));(case aO => exact (by (with_reducible repeat (first|apply Kd.R_alloc|apply Kd.R_drewN|apply Kd.R_drew));exact HO_3.out));(case aS => exact (below_size b_));(case aL => have := LMc18.out;omega);intro v420 w19 ho hb hg hat;rw [← Ny419.out] at ho;replace HB := Aside0.mk (hb);have HO421 := Aside0.mk (ho);clear HO_3;clear ho hb hg hat))
           go_roundg k1
           case measure => have := HK1.out;omega
           case rel => exact ⟨(y419),(wrap64 (x5_1 + 1)),(wrap64 (x5_1 + 1)),rs_,rs_,H',⟨by have := HK1.out;omega⟩,⟨by (with_reducible repeat (first|apply Kd.R_alloc|apply Kd.R_drewN|apply Kd.R_drew));exact HO421.out⟩,⟨b_⟩⟩
          ·rw [if_neg c18] at H
           exact absurd H (by simp)
         ·rw [if_neg c16] at H
          exact absurd H (by simp)
        ·rw [if_neg c15] at H
         exact absurd H (by simp)
       ·rw [if_neg c14] at H
        have c14b0 : ((bt a0 x5_1) == 32) = false := beq_eq_false_iff_ne.mpr c14
        have c14b1 : ((bt a0 x5_1) != 32) = true := bne_iff_ne.mpr c14
        have H' := Aside0.mk H
        clear H
        have p13 : 0 ≤ (x5_1 : Int) := od_
        have q13 : x5_1 < (a0.size : Int) := od_
        have hx13 := bt_at a0 x5_1
        replace p13 := eq_true p13
        replace q13 := eq_true q13
        go_wp2
        go_roundg k1
        case measure => have := HK1.out;omega
        case rel => exact ⟨(x3_1),(x4_1),(wrap64 (x5_1 + 1)),rs_,rs_,H',⟨by have := HK1.out;omega⟩,⟨by (with_reducible repeat (first|apply Kd.R_alloc|apply Kd.R_drewN|apply Kd.R_drew));exact HO_3.out⟩,⟨b_⟩⟩
      ·rw [if_neg c12] at H
       exact absurd H (by simp)
     ·rw [if_neg c11] at H
      exact absurd H (by simp)
   ·rw [if_neg c4] at H
    have c4b0 : decide (x5_1 ≤ (a0.size : Int)) = false := decide_eq_false c4
    clear c4
    obtain rfl := Option.some.inj H
    go_wp2
    go_ret
    exact ⟨_,rf_,by (with_reducible repeat (first|apply Kd.R_alloc|apply Kd.R_drewN|apply Kd.R_drew));exact HO_3.out,b_⟩

end Go.Proofs.YtnilfnkdgdfnnaaGreatDoor.XRe
