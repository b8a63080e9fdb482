/- Proved: of each Go function here that a call comes to what the Lean function of its name tells. Written by a program of this session over the translation. No conditions beyond each theorem's own. -/
import Derived.Test.YthplaakckfhaaaaXRp0
import Derived.Test.YthplaakckfhaaaaXRp14
import Derived.Test.YthplaakckfhaaaaXRp15
namespace Go.Proofs.Ythplaakckfhaaaa.XRp
open Go.RowKit Go.Proofs.Ythplaakckfhaaaa.Aid Go.Proofs.YthplaakckfhaaaaW.PrintWords Go.Proofs.YthplaakckfhaaaaW.PrintLast Go.Proofs.YthplaakckfhaaaaW.PrintMore
set_option linter.unusedVariables false
set_option linter.unusedSimpArgs false

/-! ### words for (*Machine).replace: the place of a region among the copies -/
def pos1 (a : Int) (l : List S79) : Nat := (l.takeWhile fun x => decide (x.f0 < a)).length
theorem pos1_le (a : Int) : ∀ l : List S79, pos1 a l ≤ l.length
  | [] => Nat.le_refl _
  | x :: l => by
    unfold pos1
    rw [List.takeWhile_cons]
    split
    ·rw [List.length_cons,List.length_cons];exact Nat.succ_le_succ (pos1_le a l)
    ·exact Nat.zero_le _
theorem pos1_lt (a : Int) : ∀ (l : List S79) (t : Nat) (ht : t < l.length), t < pos1 a l → l[t].f0 < a
  | [], t, ht, _ => by simp at ht
  | x :: l, t, ht, h => by
    unfold pos1 at h
    rw [List.takeWhile_cons] at h
    split at h
    ·rename_i hx
     cases t with
     | zero => simpa using hx
     | succ t => exact pos1_lt a l t (by simpa using ht) (by rw [List.length_cons] at h;exact Nat.lt_of_succ_lt_succ h)
    ·simp at h
theorem pos1_ge {a : Int} {l : List S79} (h : ((l.drop (pos1 a l)).all fun x => !decide (x.f0 < a)) = true) (t : Nat) (ht : t < l.length) (h2 : pos1 a l ≤ t) : ¬ l[t].f0 < a := by
 rw [List.all_eq_true] at h
 have hm : l[t] ∈ l.drop (pos1 a l) := by
  obtain ⟨d,rfl⟩ := Nat.exists_eq_add_of_le h2
  have : (l.drop (pos1 a l))[d]? = some l[pos1 a l + d] := by rw [List.getElem?_drop,List.getElem?_eq_getElem ht]
  exact List.mem_of_getElem? this
 have := h _ hm
 simpa using this
def foundAt (a : Int) (l : List S79) : Bool := decide (∃ ht : pos1 a l < l.length, l[pos1 a l].f0 = a)
def putC (a : Int) (c : List S92) (l : List S79) : List S79 := if foundAt a l = true then l.set (pos1 a l) ⟨a, c⟩ else l.take (pos1 a l) ++ [(⟨a, c⟩ : S79)] ++ l.drop (pos1 a l)
theorem rawc_at_ {w : World} {base g n cap : Nat} {rows : List (List Value)} (h : (Kd.raw 2).R 79 w base (fun _ => True) (.slice (some ⟨g, 0, none⟩) n cap) rows) (i : Nat) (hi : i < rows.length) :
  (∃ u,w.cell? ⟨g,i * 2,none⟩ = some u) ∧ (∃ u,w.cell? ⟨g,i * 2 + 1,none⟩ = some u) ∧ ∀ j,w.frozen? ⟨g,i * 2 + j,none⟩ = false := by
 obtain ⟨cur,k1,k2,k3,k4,k5,k6,k7,k8⟩ := cells_of_rows_ (s := 2) h
 have hl := flat_len_ rows (fun r h => (k7 r h).1)
 refine ⟨⟨_,by rw [blk_cell k1,Array.getElem?_eq_getElem (by omega)]⟩,⟨_,by rw [blk_cell k1,Array.getElem?_eq_getElem (by omega)]⟩,fun j => blk_frozen k1 _⟩
theorem rawc_put_ {w : World} {base g n cap : Nat} {rows : List (List Value)} (h : (Kd.raw 2).R 79 w base (fun _ => True) (.slice (some ⟨g, 0, none⟩) n cap) rows) (i : Nat) (hi : i < rows.length) (c' : List Value) (hl : c'.length = 2) (h1 : ∀ u ∈ c', u.oneCell' = true) :
  (Kd.raw 2).R 79 (w.setCells g (i * 2) c') base (fun _ => True) (.slice (some ⟨g,0,none⟩) n cap) (rows.set i c') ∧ w.grownBy (w.setCells g (i * 2) c') (some g) := by
 have hn := (Kd.R_reads' h).1
 obtain ⟨c,hcl,hM,hcc,hfr⟩ := Kd.R_elem h [] (i : Int) (by omega) (by omega)
 have hcl' : c.length = 2 := hcl
 have e : c.take 0 ++ c' ++ c.drop (0 + c'.length) = c' := by rw [List.take_zero,List.nil_append,List.drop_of_length_le (by omega),List.append_nil]
 have hp := Kd.R_seg h (i : Int) (by omega) (by omega) (c := c) (seg := c') (j := 0) (x' := c') (okp := fun _ => False) hcl hcc (by show 0 + c'.length ≤ 2;omega) ⟨e,by rw [e];exact hl,by rw [e];exact h1⟩ (fun _ hk => hk.elim)
 rw [Int.toNat_natCast] at hp
 exact hp
/-! ### impl_Machine_replace: function 87 -/
theorem hold_87 {p : Prop} (h : Aside0 p) : p := h.out
def impl_Machine_replace.f (p1 : List S79) (a1 : Int) (l2 : List S92) : Option (List S79) := (impl_Cell_60.f l2).bind fun c => if ((p1.drop (pos1 a1 p1)).all fun x => !decide (x.f0 < a1)) = true ∧ p1.length < 4398046511103 then some (putC a1 c p1) else none
set_option maxHeartbeats 8000000 in
set_option maxRecDepth 100000 in
theorem impl_Machine_replace.calls (P1_ : Nat → Prop) (gb : Nat) (b : Bool) (s2 s3 : Value) (A1 : Option Addr) (c1 : Nat) (p1 : List S79) (a1 : Int) (A2 : Option Addr) (c2 : Nat) (l2 : List S92) (r1 : List S79) (w0 w : World) (hB : Below w0.heap.size w0 w) (hg0 : w0.heap.size ≤ gb) (hx : w.heap[gb]? = some (.cells #[.bool b, .slice A1 p1.length c1, s2, s3] 32 (0, 0))) (hP : ¬ P1_ gb) (ho : Kd.S k79 79 w w0.heap.size P1_ (.slice A1 p1.length c1) p1) (hr : Kd.C k92 w A2 l2.length l2) (hc : l2.length ≤ c2) (h : impl_Machine_replace.f p1 a1 l2 = some r1) :
    Calls Try.prog 87 #[.pointer (some ⟨gb, 0, none⟩), .int .i64 a1, .slice A2 l2.length c2] w fun e w' => e = .returned (.tuple #[]) ∧ ∃ (A4 : Option Addr) (c4 : Nat), w'.heap[gb]? = some (.cells #[.bool b, .slice A4 r1.length c4, s2, s3] 32 (0, 0)) ∧ Kd.S k79 79 w' w0.heap.size (fun k_ => (P1_ k_ ∨ w.heap.size ≤ k_) ∧ k_ ≠ gb) (.slice A4 r1.length c4) r1 ∧ Below w0.heap.size w0 w' ∧ Kept w w' (fun k_ => P1_ k_ ∨ k_ = gb) := by
 have hu := Try.underlying32
 have hu2 := Try.underlying79
 obtain ⟨cc,E0,h1⟩ := Option.bind_eq_some_iff.1 h
 clear h
 have FC := Aside0.mk E0
 clear E0
 by_cases hb : ((p1.drop (pos1 a1 p1)).all fun x => !decide (x.f0 < a1)) = true ∧ p1.length < 4398046511103
 rotate_left
 ·rw [if_neg hb] at h1;cases h1
 rw [if_pos hb] at h1
 obtain rfl := Option.some.inj h1
 clear h1
 obtain ⟨m,hmd⟩ : ∃ m,m = pos1 a1 p1 := ⟨_,rfl⟩
 have M1 : Aside0 (m ≤ p1.length) := ⟨hmd ▸ pos1_le a1 p1⟩
 have M2 : Aside0 (∀ t (ht : t < p1.length),t < m → p1[t].f0 < a1) := ⟨fun t ht h => pos1_lt a1 p1 t ht (hmd ▸ h)⟩
 have M3 : Aside0 (∀ t (ht : t < p1.length),m ≤ t → ¬ p1[t].f0 < a1) := ⟨fun t ht h => pos1_ge hb.1 t ht (hmd ▸ h)⟩
 have HS := Aside0.mk hb.2
 clear hb
 have HFD : Aside0 (foundAt a1 p1 = decide (∃ ht : m < p1.length,p1[m].f0 = a1)) := ⟨by subst hmd;rfl⟩
 have HMD := Aside0.mk hmd
 clear hmd
 have BG := Aside0.mk hx
 have GG := Aside0.mk hg0
 have HB := Aside0.mk hB
 have P1 := Aside0.mk hP
 have HRR := Aside0.mk hr
 have HRC := Aside0.mk hc
 have T1 := Aside0.mk (Kd.S_mono (ok' := fun k_ => P1_ k_ ∧ k_ < w.heap.size) (Kd.S_bound ho) (fun _ h_ => ⟨h_.1,h_.2.2.1⟩))
 have HK := Aside0.mk (Kept.refl w (fun k_ => P1_ k_ ∨ k_ = gb))
 have W0 := Aside0.mk hB.size
 have LG := Aside0.mk (blk_lt hx)
 clear hx hg0 hB hP hr hc ho
 go_enter Try.func87,Try.ntmps87
 have hcgb1_0 : w.cell? ⟨gb,0,none⟩ = some (.bool b) := (blk_cell BG.out 0).trans rfl
 have hcgb1_1 : w.cell? ⟨gb,1,none⟩ = some (.slice A1 p1.length c1) := (blk_cell BG.out 1).trans rfl
 have hcgb1_2 : w.cell? ⟨gb,2,none⟩ = some (s2) := (blk_cell BG.out 2).trans rfl
 have hcgb1_3 : w.cell? ⟨gb,3,none⟩ = some (s3) := (blk_cell BG.out 3).trans rfl
 go_wp2_with ((with_reducible refine gcal_ (f := 126) rfl ?_);refine goesL_ (some 15) rfl rfl Try.func126 (by kernel_rfl) rfl #[.slice A1 p1.length c1,.int .i64 a1,.func (.func 127) #[] #[]] rfl (by (try simp only [List.map_toArray,List.map_cons,List.map_nil]);first|done|rfl) ?_;refine (slices_BinarySearchFunc_Copy.calls A1 c1 p1 a1 m M1.out M2.out M3.out _ (Kd.S_reads' T1.out).2.2 (Kd.S_reads' T1.out).2.1 (by have := HS.out;omega)).mono ?_;rintro e w2 ⟨rfl,B⟩;refine ⟨_,rfl,?_⟩;refine hold_87 ?_)
 refine ⟨?_⟩
 have HRR := Aside0.mk (Kd.C_below HRR.out B)
 have BG := Aside0.mk (blk_below BG.out B)
 have T1 := Aside0.mk (Kd.S_below T1.out B)
 have HB := Aside0.mk (below_step HB.out B)
 have HK := Aside0.mk (HK.out.below B)
 clear B hcgb1_0 hcgb1_1 hcgb1_2 hcgb1_3
 rw [← HFD.out]
 go_wp2_with ((with_reducible refine gcal_ (f := 60) rfl ?_);refine goesL_ (some 20) rfl rfl Try.func60 (by kernel_rfl) rfl #[.slice A2 l2.length c2] rfl (by (try simp only [List.map_toArray,List.map_cons,List.map_nil]);first|done|rfl) ?_;refine (impl_Cell_60.calls A2 c2 l2 cc _ HRR.out HRC.out FC.out).mono ?_;rintro e w3 ⟨vn,rfl,S,B⟩;refine ⟨_,rfl,?_⟩;refine hold_87 ?_)
 refine ⟨?_⟩
 obtain ⟨An,cn,rfl⟩ := Kd.R_slice S
 have NV := Aside0.mk (Nat.le_trans HK.out.1 (Nat.le_refl _))
 have N := Aside0.mk S
 have NB := Aside0.mk B.size
 have BG := Aside0.mk (blk_below BG.out B)
 have T1 := Aside0.mk (Kd.S_below T1.out B)
 have HB := Aside0.mk (below_step HB.out B)
 have HK := Aside0.mk (HK.out.below B)
 clear S B HRR
 go_wp2_with ((with_reducible refine gate_dst (N := 8) rfl ?_);refine bx_ 8 #[.int .i64 0,.slice none 0 0] 79 ?_;intro gc hg w4 hbox hb;have hge := Aside0.mk (Nat.le_of_eq hg.symm);clear hg;refine hold_87 ?_)
 refine ⟨?_⟩
 have BZ := Aside0.mk hbox
 have Q0 := Aside0.mk hb
 have HGE := hge
 clear hbox hb hge
 have hcgcy_0 : w4.cell? ⟨gc,0,none⟩ = some (.int .i64 0) := (blk_cell BZ.out 0).trans rfl
 have hcgcy_1 : w4.cell? ⟨gc,1,none⟩ = some (.slice none 0 0) := (blk_cell BZ.out 1).trans rfl
 have hfy_0 := blk_frozen BZ.out 0
 have hfy_1 := blk_frozen BZ.out 1
 go_upto_region 2 with (fail)
 have n0_ : Aside0 (Below w3.heap.size w3 ((w4.setCell ⟨gc,0,none⟩ (.int .i64 a1)).setCell ⟨gc,1,none⟩ (.slice An cc.length cn))) := ⟨below_set (below_set Q0.out HGE.out) HGE.out⟩
 have n1_ : Aside0 (((w4.setCell ⟨gc,0,none⟩ (.int .i64 a1)).setCell ⟨gc,1,none⟩ (.slice An cc.length cn)).heap[gc]? = some (.cells #[.int .i64 a1,.slice An cc.length cn] 79 (0,0))) := ⟨by refine blk_put (cs := #[.int .i64 a1,.slice none 0 0]) ?_ 1 _ rfl;refine blk_put (cs := #[.int .i64 0,.slice none 0 0]) ?_ 0 _ rfl;exact BZ.out⟩
 clear BZ Q0
 clear hcgcy_0 hfy_0 hcgcy_1 hfy_1
 generalize ((w4.setCell ⟨gc,0,none⟩ (.int .i64 a1)).setCell ⟨gc,1,none⟩ (.slice An cc.length cn)) = w5 at n0_ n1_ ⊢
 have B := n0_.out
 have BC := n1_
 clear n0_ n1_
 have BG := Aside0.mk (blk_below BG.out B)
 have T1 := Aside0.mk (Kd.S_below T1.out B)
 have HB := Aside0.mk (below_step HB.out B)
 have HK := Aside0.mk (HK.out.below B)
 have N := Aside0.mk (Kd.R_mono (ok' := fun k_ => w2.heap.size ≤ k_ ∧ k_ < w3.heap.size) (Kd.R_below (Kd.R_bound N.out) B) (fun _ h_ => ⟨h_.2.1,h_.2.2.1⟩))
 have GC : Aside0 (w3.heap.size ≤ gc) := HGE
 clear B
 have NBW : Aside0 (w.heap.size ≤ w2.heap.size) := NV
 have OKX : Aside0 (∀ k_,(w2.heap.size ≤ k_ ∧ k_ < w3.heap.size) → w.heap.size ≤ k_) := ⟨fun k_ h_ => Nat.le_trans NBW.out h_.1⟩
 have N0 : Aside0 (Kd.R k92 92 w5 w0.heap.size (fun k_ => w2.heap.size ≤ k_ ∧ k_ < w3.heap.size) (.slice An cc.length cn) cc) := ⟨Kd.R_lower N.out (by have := HB.out.size;have := NBW.out;first|exact Nat.le_trans W0.out NBW.out|omega)⟩
 have MX : Aside0 (k79.M w5 w0.heap.size (fun k_ => w2.heap.size ≤ k_ ∧ k_ < w3.heap.size) (⟨a1,cc⟩ : S79) [.int .i64 a1,.slice An cc.length cn]) := ⟨k79_mkM _ _ _ (⟨a1,cc⟩ : S79) N0.out⟩
 have W3 := Aside0.mk (Nat.le_trans (Nat.le_of_lt_succ (Nat.lt_succ_of_le GC.out)) (Nat.le_of_lt (blk_lt BC.out)))
 clear N N0 NV
 cases hf : foundAt a1 p1 with
  | true =>
  have HLT : Aside0 (m < p1.length) := ⟨by have h_ := HFD.out;rw [hf] at h_;exact (of_decide_eq_true h_.symm).1⟩
  obtain ⟨g,cg,eg,hgbase,_,_⟩ := Kd.S_form T1.out (by have := HLT.out;omega)
  obtain rfl : A1 = some ⟨g,0,none⟩ := (by injection eg)
  obtain rfl : c1 = cg := (by injection eg)
  have HGB : Aside0 (w0.heap.size ≤ g) := ⟨hgbase⟩
  clear eg
  have hci : (m : Int) < (p1.length : Int) := by have := HLT.out;omega
  have hj0 : (0 : Int) ≤ (m : Int) := by omega
  go_upto_region 3 with (fail)
  have B : Below w5.heap.size w5 w5.drew := below_drew1 (Below.refl _ _)
  have BG := Aside0.mk (blk_below BG.out B)
  have T1 := Aside0.mk (Kd.S_below T1.out B)
  have HB := Aside0.mk (below_step HB.out B)
  have HK := Aside0.mk (HK.out.below B)
  have BC := Aside0.mk (blk_below BC.out B)
  have MX := Aside0.mk (Kd.M_below MX.out B)
  clear B
  refine start_ (n := 8) (S := fun w' => w'.cell? ⟨gb,0,none⟩ = some (.bool b) ∧ w'.cell? ⟨gb,1,none⟩ = some (.slice (some ⟨g,0,none⟩) p1.length c1) ∧ w'.cell? ⟨gb,2,none⟩ = some (s2) ∧ w'.cell? ⟨gb,3,none⟩ = some (s3) ∧ w'.cell? ⟨gc,0,none⟩ = some (.int .i64 a1) ∧ w'.cell? ⟨gc,1,none⟩ = some (.slice An cc.length cn)) (ds := [7]) #[false,false,false,false,false,false,false,false] (by kernel_rfl) rfl rfl ⟨(blk_cell BG.out 0).trans rfl,(blk_cell BG.out 1).trans rfl,(blk_cell BG.out 2).trans rfl,(blk_cell BG.out 3).trans rfl,(blk_cell BC.out 0).trans rfl,(blk_cell BC.out 1).trans rfl⟩ (fun hHeld => ?_)
  generalize w5.drew = wc at BG BC T1 MX HB HK hHeld ⊢
  refine pure_ (i := 0) (N := some 23) (v := ?_) (a' := ?_) #[true,false,false,false,false,false,false,false] rfl rfl (by kernel_rfl) (fun _ _ _ h => h) (Or.inl ⟨by rfl,?_⟩) ?_ ?_
  rotate_left
  ·intro w'
   go_simp
   with_reducible rfl
  rotate_left
  ·simp only [Act.put,q1,q2,q3,i64_w,i32_w]
   rfl
  refine pure_ (i := 1) (N := some 24) (v := ?_) (a' := ?_) #[true,true,false,false,false,false,false,false] rfl rfl (by kernel_rfl) (fun _ _ _ h => h) (Or.inl ⟨by rfl,?_⟩) ?_ ?_
  rotate_left
  ·intro w'
   go_simp
   with_reducible rfl
  rotate_left
  ·simp only [Act.put,q1,q2,q3,i64_w,i32_w]
   rfl
  refine pure_ (i := 2) (N := some 25) (v := ?_) (a' := ?_) #[true,true,true,false,false,false,false,false] rfl rfl (by kernel_rfl) (fun _ _ _ h => h) (Or.inl ⟨by rfl,?_⟩) ?_ ?_
  rotate_left
  ·intro w'
   go_simp
   with_reducible rfl
  rotate_left
  ·simp only [Act.put,q1,q2,q3,i64_w,i32_w]
   rfl
  refine take_ (i := 3) (N := some 26) (v := ?_) (a' := ?_) #[true,true,true,true,false,false,false,false] rfl rfl (by kernel_rfl) (fun _ _ _ h => h) (Or.inl ⟨by rfl,?_⟩) hHeld ?_ ?_
  rotate_left
  ·rintro w' ⟨s0,s1,s2,s3,s4,s5⟩
   go_simp
   with_reducible rfl
  rotate_left
  ·simp only [Act.put,q1,q2,q3,i64_w,i32_w]
   rfl
  refine pure_ (i := 4) (N := some 27) (v := ?_) (a' := ?_) #[true,true,true,true,true,false,false,false] rfl rfl (by kernel_rfl) (fun _ _ _ h => h) (Or.inl ⟨by rfl,?_⟩) ?_ ?_
  rotate_left
  ·intro w'
   go_simp
   with_reducible rfl
  rotate_left
  ·simp only [Act.put,q1,q2,q3,i64_w,i32_w]
   rfl
  refine take_ (i := 5) (N := some 28) (v := ?_) (a' := ?_) #[true,true,true,true,true,true,false,false] rfl rfl (by kernel_rfl) (fun _ _ _ h => h) (Or.inl ⟨by rfl,?_⟩) hHeld ?_ ?_
  rotate_left
  ·rintro w' ⟨s0,s1,s2,s3,s4,s5⟩
   go_simp
   with_reducible rfl
  rotate_left
  ·simp only [Act.put,q1,q2,q3,i64_w,i32_w]
   rfl
  refine pure_ (i := 6) (N := some 29) (v := ?_) (a' := ?_) #[true,true,true,true,true,true,true,false] rfl rfl (by kernel_rfl) (fun _ _ _ h => h) (Or.inl ⟨by rfl,?_⟩) ?_ ?_
  rotate_left
  ·intro w'
   go_simp
   with_reducible rfl
  rotate_left
  ·simp only [Act.put,q1,q2,q3,i64_w,i32_w]
   rfl
  refine last_ (i := 7) (N := none) #[true,true,true,true,true,true,true,true] rfl rfl (by kernel_rfl) (by decide) (fun K hK => ?_)
  have LX : Aside0 (w3.heap.size ≤ wc.heap.size) := ⟨Nat.le_trans GC.out (Nat.le_of_lt (blk_lt BC.out))⟩
  obtain ⟨f,rows0,hl,hbok,hraw,hM⟩ := S_rows_ T1.out
  have hml : m < rows0.length := by rw [hl];exact HLT.out
  obtain ⟨⟨u0,hs0⟩,⟨u1,hs1⟩,hfr⟩ := rawc_at_ hraw m hml
  have hf0 := hfr 0
  have hf1 := hfr 1
  rw [Nat.add_zero] at hf0
  obtain ⟨hp1,hp2⟩ := rawc_put_ hraw m hml [.int .i64 a1,.slice An cc.length cn] rfl (by intro u hu;simp at hu;rcases hu with rfl|rfl <;> rfl)
  have E0 := Aside0.mk hp1
  have E1 := Aside0.mk hp2
  have E2 := Aside0.mk hl
  have E3 := Aside0.mk hM
  have E4 := Aside0.mk hbok
  clear hp1 hp2 hl hM hbok hraw hml hfr
  refine skip_ (w1 := ((wc.setCell ⟨g,m * 2,none⟩ (.int .i64 a1)).setCell ⟨g,m * 2 + 1,none⟩ (.slice An cc.length cn))) (by rfl) rfl ?_ ?_
  ·first|(go_simp;done)|(go_simp;rfl)|(go_simp;simp)
  refine hK.out _ _ ?_
  clear hK K
  refine done_ (by kernel_rfl) ?_
  clear hs0 hs1 hf0 hf1 hHeld
  go_wp2
  go_end0
  have er : putC a1 cc p1 = p1.set m ⟨a1,cc⟩ := by unfold putC;rw [if_pos hf,HMD.out]
  have el : (p1.set m (⟨a1,cc⟩ : S79)).length = p1.length := List.length_set
  rw [er,el]
  have hng : gb ≠ g := fun e_ => P1.out (e_ ▸ E4.out.1)
  have hk : ∀ k,k ≠ g → k < wc.heap.size → (((wc.setCell ⟨g,m * 2,none⟩ (.int .i64 a1)).setCell ⟨g,m * 2 + 1,none⟩ (.slice An cc.length cn))).heap[k]? = wc.heap[k]? := fun k h1 h2 => E1.out.block k h2 (fun e_ => h1 (by injection e_))
  refine ⟨rfl,some ⟨g,0,none⟩,c1,(hk gb hng (blk_lt BG.out)).trans BG.out,Kd.S_mono (ok := fun k_ => (P1_ k_ ∨ w.heap.size ≤ k_) ∧ k_ ≠ gb) (set_fin_ (d := k79) (w := wc) (f := f) (okm := fun k => (P1_ k ∧ k < w.heap.size) ∧ k ≠ g) (okx := fun k_ => w2.heap.size ≤ k_ ∧ k_ < w3.heap.size) (cx := [.int .i64 a1,.slice An cc.length cn]) E2.out HLT.out E3.out MX.out (fun k h h2 => absurd h2.1.2 (Nat.not_lt.2 (OKX.out k h))) (fun k h h2 => hk k h.2 h2) (fun k h h2 => hk k (fun e_ => absurd E4.out.2 (Nat.not_lt.2 (e_ ▸ OKX.out k h))) h2) (fun k h => ⟨⟨.inl h.1.1,fun e_ => P1.out (e_ ▸ h.1.1)⟩,h.2⟩) (fun k h => ⟨⟨.inr (OKX.out k h),fun e_ => absurd LG.out (Nat.not_lt.2 (e_ ▸ OKX.out k h))⟩,fun e_ => absurd E4.out.2 (Nat.not_lt.2 (e_ ▸ OKX.out k h))⟩) ⟨.inl E4.out.1,fun e_ => P1.out (e_ ▸ E4.out.1)⟩ E0.out) (fun _ h_ => h_),?_,?_⟩
  ·exact below_set (below_set HB.out HGB.out) HGB.out
  ·exact (HK.out.setCell (p := ⟨g,m * 2,none⟩) (.inl (.inl E4.out.1)) _).setCell (p := ⟨g,m * 2 + 1,none⟩) (.inl (.inl E4.out.1)) _
  | false =>
  go_upto_region 4 with (fail)
  have B : Below w5.heap.size w5 w5.drew := below_drew1 (Below.refl _ _)
  have BG := Aside0.mk (blk_below BG.out B)
  have T1 := Aside0.mk (Kd.S_below T1.out B)
  have HB := Aside0.mk (below_step HB.out B)
  have HK := Aside0.mk (HK.out.below B)
  have BC := Aside0.mk (blk_below BC.out B)
  have MX := Aside0.mk (Kd.M_below MX.out B)
  clear B
  refine start_ (n := 12) (S := fun w' => w'.cell? ⟨gb,0,none⟩ = some (.bool b) ∧ w'.cell? ⟨gb,1,none⟩ = some (.slice A1 p1.length c1) ∧ w'.cell? ⟨gb,2,none⟩ = some (s2) ∧ w'.cell? ⟨gb,3,none⟩ = some (s3) ∧ w'.cell? ⟨gc,0,none⟩ = some (.int .i64 a1) ∧ w'.cell? ⟨gc,1,none⟩ = some (.slice An cc.length cn)) (ds := [11]) #[false,false,false,false,false,false,false,false,false,false,false,false] (by kernel_rfl) rfl rfl ⟨(blk_cell BG.out 0).trans rfl,(blk_cell BG.out 1).trans rfl,(blk_cell BG.out 2).trans rfl,(blk_cell BG.out 3).trans rfl,(blk_cell BC.out 0).trans rfl,(blk_cell BC.out 1).trans rfl⟩ (fun hHeld => ?_)
  generalize w5.drew = wd at BG BC T1 MX HB HK hHeld ⊢
  have LX : Aside0 (w3.heap.size ≤ wd.heap.size) := ⟨Nat.le_trans GC.out (Nat.le_of_lt (blk_lt BC.out))⟩
  refine pure_ (i := 0) (N := some 30) (v := ?_) (a' := ?_) #[true,false,false,false,false,false,false,false,false,false,false,false] rfl rfl (by kernel_rfl) (fun _ _ _ h => h) (Or.inl ⟨by rfl,?_⟩) ?_ ?_
  rotate_left
  ·intro w'
   go_simp
   with_reducible rfl
  rotate_left
  ·simp only [Act.put,q1,q2,q3,i64_w,i32_w]
   rfl
  refine pure_ (i := 1) (N := some 31) (v := ?_) (a' := ?_) #[true,true,false,false,false,false,false,false,false,false,false,false] rfl rfl (by kernel_rfl) (fun _ _ _ h => h) (Or.inl ⟨by rfl,?_⟩) ?_ ?_
  rotate_left
  ·intro w'
   go_simp
   with_reducible rfl
  rotate_left
  ·simp only [Act.put,q1,q2,q3,i64_w,i32_w]
   rfl
  refine pure_ (i := 2) (N := some 32) (v := ?_) (a' := ?_) #[true,true,true,false,false,false,false,false,false,false,false,false] rfl rfl (by kernel_rfl) (fun _ _ _ h => h) (Or.inl ⟨by rfl,?_⟩) ?_ ?_
  rotate_left
  ·intro w'
   go_simp
   with_reducible rfl
  rotate_left
  ·simp only [Act.put,q1,q2,q3,i64_w,i32_w]
   rfl
  refine pure_ (i := 3) (N := some 33) (v := ?_) (a' := ?_) #[true,true,true,true,false,false,false,false,false,false,false,false] rfl rfl (by kernel_rfl) (fun _ _ _ h => h) (Or.inl ⟨by rfl,?_⟩) ?_ ?_
  rotate_left
  ·intro w'
   go_simp
   with_reducible rfl
  rotate_left
  ·simp only [Act.put,q1,q2,q3,i64_w,i32_w]
   rfl
  refine take_ (i := 4) (N := some 34) (v := ?_) (a' := ?_) #[true,true,true,true,true,false,false,false,false,false,false,false] rfl rfl (by kernel_rfl) (fun _ _ _ h => h) (Or.inl ⟨by rfl,?_⟩) hHeld ?_ ?_
  rotate_left
  ·rintro w' ⟨s0,s1,s2,s3,s4,s5⟩
   go_simp
   with_reducible rfl
  rotate_left
  ·simp only [Act.put,q1,q2,q3,i64_w,i32_w]
   rfl
  refine pure_ (i := 5) (N := some 35) (v := ?_) (a' := ?_) #[true,true,true,true,true,true,false,false,false,false,false,false] rfl rfl (by kernel_rfl) (fun _ _ _ h => h) (Or.inl ⟨by rfl,?_⟩) ?_ ?_
  rotate_left
  ·intro w'
   go_simp
   with_reducible rfl
  rotate_left
  ·simp only [Act.put,q1,q2,q3,i64_w,i32_w]
   rfl
  refine take_ (i := 6) (N := some 36) (v := ?_) (a' := ?_) #[true,true,true,true,true,true,true,false,false,false,false,false] rfl rfl (by kernel_rfl) (fun _ _ _ h => h) (Or.inl ⟨by rfl,?_⟩) hHeld ?_ ?_
  rotate_left
  ·rintro w' ⟨s0,s1,s2,s3,s4,s5⟩
   go_simp
   with_reducible rfl
  rotate_left
  ·simp only [Act.put,q1,q2,q3,i64_w,i32_w]
   rfl
  refine one_ (i := 7) (N := some 37) #[true,true,true,true,true,true,true,true,false,false,false,false] rfl rfl (by kernel_rfl) (by decide) (fun K hK => ?_)
  refine value_ (w1 := ?_) (v := ?_) (by rfl) rfl ?_ ?_
  rotate_left 2
  ·go_simp
   constructor
   ·rfl
   ·rfl
  have BV := Aside0.mk (blk_new wd (.cells #[.int .i64 a1,.slice An cc.length cn] 79))
  have B : Below wd.heap.size wd (wd.alloc (.cells #[.int .i64 a1,.slice An cc.length cn] 79)) := below_alloc (Below.refl _ _) _
  have NV := Aside0.mk HK.out.1
  have BG := Aside0.mk (blk_below BG.out B)
  have T1 := Aside0.mk (Kd.S_below T1.out B)
  have HB := Aside0.mk (below_step HB.out B)
  have HK := Aside0.mk (HK.out.below B)
  have BC := Aside0.mk (blk_below BC.out B)
  have MX := Aside0.mk (Kd.M_below MX.out B)
  have LX := Aside0.mk (Nat.le_trans LX.out B.size)
  clear B
  generalize wd.alloc (.cells #[.int .i64 a1,.slice An cc.length cn] 79) = we at BV BG BC T1 MX HB HK LX ⊢
  refine hK.out _ _ ⟨(blk_cell BG.out 0).trans rfl,(blk_cell BG.out 1).trans rfl,(blk_cell BG.out 2).trans rfl,(blk_cell BG.out 3).trans rfl,(blk_cell BC.out 0).trans rfl,(blk_cell BC.out 1).trans rfl⟩ (fun hHeld => ?_)
  clear hK K
  refine nr_ (some 37) _ ?_
  refine one_ (i := 8) (N := some 38) #[true,true,true,true,true,true,true,true,true,false,false,false] rfl rfl (by kernel_rfl) (by decide) (fun K hK => ?_)
  refine goes_ Try.func129 (by kernel_rfl) rfl #[.slice A1 p1.length c1,.int .i64 (m : Int),.slice (some ⟨wd.heap.size,0,none⟩) 1 1] (by rfl) rfl rfl (by (try simp only [List.map_toArray,List.map_cons,List.map_nil]);first|done|rfl) ?_
  refine (slices_Insert_Copy.calls (fun k_ => P1_ k_ ∧ k_ < w.heap.size) (fun k_ => w2.heap.size ≤ k_ ∧ k_ < w3.heap.size) A1 c1 p1 m (⟨a1,cc⟩ : S79) (.int .i64 a1) (.slice An cc.length cn) wd.heap.size w0 _ HB.out (fun h_ => absurd h_.2 (Nat.not_lt.2 NV.out)) BV.out MX.out ⟨rfl,rfl⟩ (fun k h h2 => absurd h2.2 (Nat.not_lt.2 (OKX.out k h))) (fun k h => Nat.lt_of_lt_of_le h.2 LX.out) (fun k h => Nat.lt_of_lt_of_le h.2 HK.out.1) T1.out HS.out M1.out).mono ?_
  rintro e w6 ⟨A5,c5,rfl,S,B,K⟩
  refine ⟨_,rfl,?_⟩
  have BG := Aside0.mk (blk_kept BG.out K (fun h_ => P1.out h_.1))
  have BC := Aside0.mk (blk_kept BC.out K (fun h_ => absurd h_.2 (Nat.not_lt.2 (Nat.le_trans NBW.out (Nat.le_trans NB.out GC.out)))))
  have T1 := Aside0.mk (Kd.S_mono (ok' := fun k_ => (P1_ k_ ∨ w.heap.size ≤ k_) ∧ k_ ≠ gb) S (fun k_ h_ => h_.elim (fun h1_ => h1_.elim (fun h2_ => ⟨.inl h2_.1,fun e_ => P1.out (e_ ▸ h2_.1)⟩) (fun h2_ => ⟨.inr (OKX.out k_ h2_),fun e_ => absurd LG.out (Nat.not_lt.2 (e_ ▸ OKX.out k_ h2_))⟩)) (fun h1_ => ⟨.inr (Nat.le_trans HK.out.1 h1_),fun e_ => absurd LG.out (Nat.not_lt.2 (e_ ▸ Nat.le_trans HK.out.1 h1_))⟩)))
  have HB := Aside0.mk B
  have HK := Aside0.mk (HK.out.then_ K (fun _ h_ => .inl (.inl h_.1)))
  clear S B K BV
  refine hK.out _ _ ⟨(blk_cell BG.out 0).trans rfl,(blk_cell BG.out 1).trans rfl,(blk_cell BG.out 2).trans rfl,(blk_cell BG.out 3).trans rfl,(blk_cell BC.out 0).trans rfl,(blk_cell BC.out 1).trans rfl⟩ (fun hHeld => ?_)
  clear hK K
  refine nr_ (some 38) _ ?_
  refine pure_ (i := 9) (N := some 39) (v := ?_) (a' := ?_) #[true,true,true,true,true,true,true,true,true,true,false,false] rfl rfl (by kernel_rfl) (fun _ _ _ h => h) (Or.inl ⟨by rfl,?_⟩) ?_ ?_
  rotate_left
  ·intro w'
   go_simp
   with_reducible rfl
  rotate_left
  ·simp only [Act.put,q1,q2,q3,i64_w,i32_w]
   rfl
  refine pure_ (i := 10) (N := some 40) (v := ?_) (a' := ?_) #[true,true,true,true,true,true,true,true,true,true,true,false] rfl rfl (by kernel_rfl) (fun _ _ _ h => h) (Or.inl ⟨by rfl,?_⟩) ?_ ?_
  rotate_left
  ·intro w'
   go_simp
   with_reducible rfl
  rotate_left
  ·simp only [Act.put,q1,q2,q3,i64_w,i32_w]
   rfl
  refine last_ (i := 11) (N := none) #[true,true,true,true,true,true,true,true,true,true,true,true] rfl rfl (by kernel_rfl) (by decide) (fun K hK => ?_)
  have hs_ : w6.cell? ⟨gb,1,none⟩ = some (.slice A1 p1.length c1) := (blk_cell BG.out 1).trans rfl
  have hf_ := blk_frozen BG.out 1
  refine skip_ (w1 := (w6.setCell ⟨gb,1,none⟩ (.slice A5 (p1.length + 1) c5))) (by rfl) rfl ?_ ?_
  ·first|(go_simp;done)|(go_simp;rfl)|(go_simp;simp)
  refine hK.out _ _ ?_
  clear hK K
  refine done_ (by kernel_rfl) ?_
  clear hs_ hf_ hHeld
  go_wp2
  go_end0
  have er : putC a1 cc p1 = p1.take m ++ [(⟨a1,cc⟩ : S79)] ++ p1.drop m := by unfold putC;rw [if_neg (by rw [hf];simp),HMD.out]
  have el : (p1.take m ++ [(⟨a1,cc⟩ : S79)] ++ p1.drop m).length = p1.length + 1 := by have := M1.out;simp;omega
  rw [er,el]
  exact ⟨rfl,A5,c5,(by refine blk_put (cs := #[.bool b,.slice A1 p1.length c1,s2,s3]) ?_ 1 _ rfl;exact BG.out),Kd.S_far (p := ⟨gb,1,none⟩) T1.out (fun _ h_ => h_.2) _,below_set HB.out GG.out,HK.out.setCell (p := ⟨gb,1,none⟩) (.inl (.inr rfl)) _⟩

end Go.Proofs.Ythplaakckfhaaaa.XRp
