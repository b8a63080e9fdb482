/- Proved: a call of each Go function here comes to what its Lean function tells. -/
import Derived.Test.YthplaakckfhaaaaGreatXMs0
import Derived.Test.YthplaakckfhaaaaGreatXMs1
import Derived.Test.YthplaakckfhaaaaGreatXMs2
import Derived.Test.YthplaakckfhaaaaGreatXMs9
import Derived.Test.YthplaakckfhaaaaGreatXMs11
import Derived.Test.YthplaakckfhaaaaGreatXMs15
import Derived.Test.YthplaakckfhaaaaGreatXMs16
import Derived.Test.YthplaakckfhaaaaGreatXMs17
import Derived.Test.YthplaakckfhaaaaGreatXMs18
import Derived.Test.YthplaakckfhaaaaGreatXMs19
namespace Go.Proofs.YthplaakckfhaaaaGreat.XMs
open Go.RowKit Go.Proofs.YthplaakckfhaaaaGreat.Aid Go.Proofs.YthplaakckfhaaaaGreatW.PrintWords Go.Proofs.YthplaakckfhaaaaGreatW.PrintLast Go.Proofs.YthplaakckfhaaaaGreatW.PrintMore
attribute [local go_sem] max2_int min2_int max_two min_two max_three min_three max_four min_four   -- for this text's walks alone
set_option linter.unusedVariables false
set_option maxHeartbeats 8000000
set_option maxRecDepth 100000
set_option linter.unusedSimpArgs false

attribute [local go_sem high] eqA87 eqA119
theorem kept_cell0_ {w W : World} (h : Kept w W (fun _ => False)) {a : Addr} {v : Value} (hc : w.cell? a = some v) : W.cell? a = some v := by
 have := h.2 a.block (World.block_lt_of_cell? w a hc) (fun h => h)
 simpa [World.cell?,this] using hc
/-! ### words for spec.l6Replace -/
theorem pos1_stop (a : Int) : ∀ (l : List S83) (ht : pos1 a l < l.length), ¬ l[pos1 a l].f0 < a
  | [], ht => by simp at ht
  | x :: l, ht => by
    by_cases hx : x.f0 < a
    ·have e : pos1 a (x :: l) = pos1 a l + 1 := by
      unfold pos1
      rw [List.takeWhile_cons,if_pos (by simpa using hx),List.length_cons]
     have ht2 : pos1 a l < l.length := by rw [e] at ht;simpa using ht
     have := pos1_stop a l ht2
     simp only [e,List.getElem_cons_succ]
     exact this
    ·have e : pos1 a (x :: l) = 0 := by
      unfold pos1
      rw [List.takeWhile_cons,if_neg (by simpa using hx)];rfl
     simp only [e,List.getElem_cons_zero]
     exact hx
theorem rowc_ {w : World} {base : Nat} {ok : Nat → Prop} {x : S83} {c : List Value} (h : k83.M w base ok x c) : ∃ A c1, c = [.int .i64 x.f0, .slice A x.f1.length c1] := by
 obtain ⟨v3,rfl,h3⟩ := k83_openM h
 obtain ⟨A,c3,rfl⟩ := Kd.R_slice h3
 exact ⟨A,c3,rfl⟩
/-- A row's elements, told apart, whatever its address. -/
theorem elemsC_ {w : World} {base : Nat} {ok : Nat → Prop} {A : Option Addr} {n cap : Nat} {xs : List S83} (h : Kd.S k83 83 w base ok (.slice A n cap) xs) :
  ∃ (f : Nat → Nat) (rows : List (List Value)),rows.length = xs.length ∧ (Kd.raw 2).C w A rows.length rows ∧ (∀ (j : Nat) (x : S83) (c : List Value),xs[j]? = some x → rows[j]? = some c → k83.M w base (fun k => ok k ∧ f k = j) x c) ∧ ∀ (j : Nat) (c : List Value),rows[j]? = some c → ∃ g,A = some ⟨g,0,none⟩ ∧ ∀ i v,c[i]? = some v → w.cell? ⟨g,j * 2 + i,none⟩ = some v := by
 by_cases hx : xs = []
 ·subst hx
  exact ⟨fun _ => 0,[],rfl,by
   have hn := (Kd.S_reads' h).1
   refine ⟨rfl,by simp,fun h => absurd h (Nat.lt_irrefl 0)⟩,fun j x c hj => by simp at hj,fun j c hj => by simp at hj⟩
 ·have hn := (Kd.S_reads' h).1
  obtain ⟨g,c0,e1,_⟩ := Kd.S_form h (by have := hn;have := List.length_pos_iff.2 hx;omega)
  obtain rfl : A = some ⟨g,0,none⟩ := (by injection e1)
  obtain ⟨f,rows,h1,h2,h3,h4⟩ := S_rows_ h
  have hr := Kd.R_reads' h3
  obtain ⟨cur,k1,k2,k3,k4,k5,k6,k7,k8⟩ := cells_of_rows_ (s := 2) h3
  have hfl := flat_len_ rows (fun r h => (k7 r h).1)
  refine ⟨f,rows,h1,by have := hr.2.2;first|exact this|(rw [hr.1] at this;exact this),fun j x c hj hc => k83.M_mono (fun k hk => ⟨hk.1.1,hk.2⟩) (h4 j x c hj hc),fun j c hc => ⟨g,rfl,fun i v hi => ?_⟩⟩
  have hjl := (List.getElem?_eq_some_iff.1 hc).1
  have hcl := (k7 c (List.mem_of_getElem? hc)).1
  have hil := (List.getElem?_eq_some_iff.1 hi).1
  have e := flat_at_ (s := 2) rows j c (fun r h => (k7 r h).1) hc
  have hb : j * 2 + i < rows.flatten.length := by omega
  rw [blk_cell k1,k8 _ hb]
  rw [← e,List.getElem?_take_of_lt (by omega),List.getElem?_drop,List.getElem?_eq_getElem hb] at hi
  exact hi
theorem rawc_seg_ {w : World} {base g n cap : Nat} {rows : List (List Value)} (h : (Kd.raw 2).R 83 w base (fun _ => True) (.slice (some ⟨g, 0, none⟩) n cap) rows) (i : Nat) (c0 c1 u : Value) (hi : rows[i]? = some [c0, c1]) (h0 : c0.oneCell' = true) (h1 : u.oneCell' = true) :
  (Kd.raw 2).R 83 (w.setCells g (i * 2 + 1) [u]) base (fun _ => True) (.slice (some ⟨g,0,none⟩) n cap) (rows.set i [c0,u]) ∧ w.grownBy (w.setCells g (i * 2 + 1) [u]) (some g) := by
 have hn := (Kd.R_reads' h).1
 have hil := (List.getElem?_eq_some_iff.1 hi).1
 obtain ⟨c,hcl,hM,hcc,hfr⟩ := Kd.R_elem h [] (i : Int) (by omega) (by omega)
 have ec : c = [c0,c1] := by
  have : c = rows.getD (i : Int).toNat [] ∧ _ := hM
  rw [this.1,Int.toNat_natCast,List.getD_eq_getElem?_getD,hi];rfl
 subst ec
 have hp := Kd.R_seg h (i : Int) (by omega) (by omega) (c := [c0,c1]) (seg := [u]) (j := 1) (x' := [c0,u]) (okp := fun _ => False) hcl hcc (by show 1 + 1 ≤ 2;omega) ⟨rfl,rfl,by intro v hv;simp at hv;rcases hv with rfl|rfl;exact h0;exact h1⟩ (fun _ hk => hk.elim)
 rw [Int.toNat_natCast] at hp
 exact hp
theorem rawC_kept_ {w W : World} {A : Option Addr} {n : Nat} {rows : List (List Value)} (h : (Kd.raw 2).C w A n rows) (hk : Kept w W (fun _ => False)) : (Kd.raw 2).C W A n rows := by
 refine ⟨h.1,h.2.1,fun hp => ?_⟩
 obtain ⟨ad,e1,h3⟩ := h.2.2 hp
 refine ⟨ad,e1,fun j p hj => ?_⟩
 obtain ⟨c,h4,h5,h6⟩ := h3 j p hj
 exact ⟨c,h4,h5,fun i u hi => kept_cell0_ hk (h6 i u hi)⟩
/-! ### spec_l6Replace: function 59 -/
theorem hold_59 {p : Prop} (h : Aside0 p) : p := h.out
def spec_l6Replace.f (k : Nat) (b : Bool) (p1 : List S83) (p3 : List S50) (p4 : List Int) (a1 : Int) (l2 : List S87) : Option (List S83) := (spec_l6At.f k b p1 p3 p4 a1).bind fun i => if 0 ≤ i then (if i < (p1.length : Int) then some (p1.set i.toNat ⟨(p1.getD i.toNat z83).f0, l2⟩) else none) else if p1.length < 4398046511103 then some (p1.take (pos1 a1 p1) ++ [(⟨a1, l2⟩ : S83)] ++ p1.drop (pos1 a1 p1)) else none
theorem spec_l6Replace.calls (k : Nat) (P1_ okx : Nat → Prop) (gb : Nat) (b : Bool) (A1 : Option Addr) (c1 : Nat) (p1 : List S83) (A3 : Option Addr) (c3 : Nat) (p3 : List S50) (A4 : Option Addr) (c4 : Nat) (p4 : List Int) (a1 : Int) (A2 : Option Addr) (c2 : Nat) (l2 : List S87) (r1 : List S83) (w0 w : World) (hB : Below w0.heap.size w0 w) (hg0 : w0.heap.size ≤ gb) (hx : w.heap[gb]? = some (.cells #[.bool b, .slice A1 p1.length c1, .slice A3 p3.length c3, .slice A4 p4.length c4] 31 (0, 0))) (hP : ¬ P1_ gb) (ho : Kd.S k83 83 w w0.heap.size P1_ (.slice A1 p1.length c1) p1) (hr3 : Kd.C k50 w A3 p3.length p3) (hc3 : p3.length ≤ c3) (hr4 : Kd.C (Kd.int .i64) w A4 p4.length p4) (hc4 : p4.length ≤ c4) (ho2 : Kd.R k87 87 w w0.heap.size okx (.slice A2 l2.length c2) l2) (hxP : ∀ k, okx k → ¬ P1_ k) (hxg : ¬ okx gb) (h : spec_l6Replace.f k b p1 p3 p4 a1 l2 = some r1) :
    Calls Tryz.prog 59 #[.pointer (some ⟨gb, 0, none⟩), .int .i64 a1, .slice A2 l2.length c2] w fun e w' => e = .returned (.tuple #[]) ∧ ∃ (A5 : Option Addr) (c5 : Nat), w'.heap[gb]? = some (.cells #[.bool b, .slice A5 r1.length c5, .slice A3 p3.length c3, .slice A4 p4.length c4] 31 (0, 0)) ∧ Kd.S k83 83 w' w0.heap.size (fun k_ => ((P1_ k_ ∨ okx k_) ∨ w.heap.size ≤ k_) ∧ k_ ≠ gb) (.slice A5 r1.length c5) r1 ∧ Below w0.heap.size w0 w' ∧ Kept w w' (fun k_ => P1_ k_ ∨ k_ = gb) := by
 have hu := Tryz.underlying31
 have hu2 := Tryz.underlying83
 obtain ⟨i,E0,h1⟩ := Option.bind_eq_some_iff.1 h
 clear h
 have F0 := ak E0
 have H1 := ak h1
 clear E0 h1
 have BG := ak hx
 have GG := ak hg0
 have HB := ak hB
 have P1 := ak hP
 have PX := ak hxg
 have XP := ak hxP
 have HR3 := ak hr3
 have HC3 := ak hc3
 have HR4 := ak hr4
 have HC4 := ak hc4
 have W0 := ak hB.size
 have T1 := ak (Kd.S_mono (ok' := fun k_ => P1_ k_ ∧ k_ < w.heap.size) (Kd.S_bound ho) (fun _ h_ => ⟨h_.1,h_.2.2.1⟩))
 have N := ak (Kd.R_mono (ok' := fun k_ => okx k_ ∧ k_ < w.heap.size) (Kd.R_bound ho2) (fun _ h_ => ⟨h_.1,h_.2.2.1⟩))
 have HK := ak (Kept.refl w (fun k_ => P1_ k_ ∨ k_ = gb))
 have LG := ak (blk_lt hx)
 clear hx hg0 hB hP hr3 hc3 hr4 hc4 ho ho2 hxg hxP
 go_enter Tryz.func59,Tryz.ntmps59
 have hcgb1_0 : w.cell? ⟨gb,0,none⟩ = some (.bool b) := (blk_cell BG.out 0).trans rfl
 have hcgb1_1 : w.cell? ⟨gb,1,none⟩ = some (.slice A1 p1.length c1) := (blk_cell BG.out 1).trans rfl
 have hcgb1_2 : w.cell? ⟨gb,2,none⟩ = some (.slice A3 p3.length c3) := (blk_cell BG.out 2).trans rfl
 have hcgb1_3 : w.cell? ⟨gb,3,none⟩ = some (.slice A4 p4.length c4) := (blk_cell BG.out 3).trans rfl
 go_wp2_with ((with_reducible refine gcal_ (f := 108) rfl ?_);refine gz_ (some 13) Tryz.func108 #[.agg #[.bool b,.slice A1 p1.length c1,.slice A3 p3.length c3,.slice A4 p4.length c4],.int .i64 a1] ?_;refine (spec_l6At.calls k b A1 c1 p1 A3 c3 p3 A4 c4 p4 a1 i _ (Kd.S_reads' T1.out).2.2 (Kd.S_reads' T1.out).2.1 HR3.out HC3.out HR4.out HC4.out F0.out).mono ?_;rintro e w2 ⟨rfl,B⟩;refine ⟨_,rfl,?_⟩;refine hold_59 ?_)
 refine ⟨?_⟩
 have BG := ak (blk_below BG.out B)
 have T1 := ak (Kd.S_below T1.out B)
 have N := ak (Kd.R_below N.out B)
 have HB := ak (below_step HB.out B)
 have HK := ak (HK.out.below B)
 have LW := ak B.size
 clear B HR3 HR4 hcgb1_0 hcgb1_1 hcgb1_2 hcgb1_3
 have hcgb2_0 : w2.cell? ⟨gb,0,none⟩ = some (.bool b) := (blk_cell BG.out 0).trans rfl
 have hcgb2_1 : w2.cell? ⟨gb,1,none⟩ = some (.slice A1 p1.length c1) := (blk_cell BG.out 1).trans rfl
 have hcgb2_2 : w2.cell? ⟨gb,2,none⟩ = some (.slice A3 p3.length c3) := (blk_cell BG.out 2).trans rfl
 have hcgb2_3 : w2.cell? ⟨gb,3,none⟩ = some (.slice A4 p4.length c4) := (blk_cell BG.out 3).trans rfl
 have W2 : Aside0 (w0.heap.size ≤ w2.heap.size) := ⟨HB.out.size⟩
 by_cases hi : 0 ≤ i
 ·have h1 := H1.out
  rw [if_pos hi] at h1
  by_cases hil : i < (p1.length : Int)
  rotate_left
  ·rw [if_neg hil] at h1;cases h1
  rw [if_pos hil] at h1
  obtain rfl := Option.some.inj h1
  clear h1 H1
  obtain ⟨j,rfl⟩ := Int.eq_ofNat_of_zero_le hi
  have hjl : j < p1.length := by omega
  have hgd : p1.getD j z83 = p1[j] := by rw [List.getD_eq_getElem?_getD,List.getElem?_eq_getElem hjl];rfl
  have HGD := ak hgd
  obtain ⟨g,cg,eg,hgbase,_,_⟩ := Kd.S_form T1.out (by omega)
  obtain rfl : A1 = some ⟨g,0,none⟩ := (by injection eg)
  clear eg
  obtain ⟨f,rows0,hl,hbok,hraw,hM⟩ := S_rows_ T1.out
  have hml : j < rows0.length := by omega
  obtain ⟨⟨u0,hs0⟩,⟨u1,hs1⟩,hfr⟩ := rawc_at_ hraw j hml
  have hf1 := hfr 1
  have hr0 : rows0[j]? = some rows0[j] := List.getElem?_eq_getElem hml
  obtain ⟨Ae,ce,er⟩ := rowc_ (hM j _ _ (List.getElem?_eq_getElem hjl) hr0)
  rw [er] at hr0
  obtain ⟨hp1,hp2⟩ := rawc_seg_ hraw j _ _ (.slice A2 l2.length c2) hr0 rfl rfl
  have MX := ak (k83_mkM _ _ _ (⟨p1[j].f0,l2⟩ : S83) N.out)
  have hge : decide ((j : Int) ≥ 0) = true := decide_eq_true hi
  have hci : (j : Int) < (p1.length : Int) := hil
  have E0 := ak hp1
  have E1 := ak hp2
  have E2 := ak hl
  have E3 := ak hM
  have E4 := ak hbok
  have E5 := ak hgbase
  have JL := ak hjl
  clear hp1 hp2 hl hM hbok hraw hml hfr hr0 hgd er hgbase hs0
  go_wp2
  first|go_end0|((try simp only [Exit.inBlock,Exit.then]);refine bodyPost_ret (results_none rfl _ _ _) rfl ?_)
  have hng : gb ≠ g := fun e_ => P1.out (e_ ▸ E4.out.1)
  have hk : ∀ k,k ≠ g → k < w2.heap.size → ((w2.setCell ⟨g,j * 2 + 1,none⟩ (.slice A2 l2.length c2))).heap[k]? = w2.heap[k]? := fun k h1 h2 => E1.out.block k h2 (fun e_ => h1 (by injection e_))
  have hS : Kd.S k83 83 ((w2.setCell ⟨g,j * 2 + 1,none⟩ (.slice A2 l2.length c2))) w0.heap.size (fun k_ => ((P1_ k_ ∨ okx k_) ∨ w.heap.size ≤ k_) ∧ k_ ≠ gb) (.slice (some ⟨g,0,none⟩) p1.length c1) (p1.set j (⟨p1[j].f0,l2⟩ : S83)) := set_fin_ (d := k83) (w := w2) (f := f) (okm := fun k => (P1_ k ∧ k < w.heap.size) ∧ k ≠ g) (okx := fun k_ => okx k_ ∧ k_ < w.heap.size) (cx := [.int .i64 p1[j].f0,.slice A2 l2.length c2]) E2.out JL.out E3.out MX.out (fun k h h2 => XP.out k h.1 h2.1.1) (fun k h h2 => hk k h.2 h2) (fun k h h2 => hk k (fun e_ => XP.out k h.1 (e_ ▸ E4.out.1)) h2) (fun k h => ⟨⟨.inl (.inl h.1.1),fun e_ => P1.out (e_ ▸ h.1.1)⟩,h.2⟩) (fun k h => ⟨⟨.inl (.inr h.1),fun e_ => PX.out (e_ ▸ h.1)⟩,fun e_ => XP.out k h.1 (e_ ▸ E4.out.1)⟩) ⟨.inl (.inl E4.out.1),fun e_ => P1.out (e_ ▸ E4.out.1)⟩ E0.out
  exact ⟨rfl,some ⟨g,0,none⟩,c1,(hk gb hng (blk_lt BG.out)).trans BG.out,hS,below_set HB.out E5.out,HK.out.setCell (p := ⟨g,j * 2 + 1,none⟩) (.inl (.inl E4.out.1)) _⟩
 ·have h1 := H1.out
  rw [if_neg hi] at h1
  by_cases hL : p1.length < 4398046511103
  rotate_left
  ·rw [if_neg hL] at h1;cases h1
  rw [if_pos hL] at h1
  obtain rfl := Option.some.inj h1
  clear h1 H1
  have HLL := ak hL
  have hge : decide (i ≥ 0) = false := decide_eq_false hi
  obtain ⟨m,hmd⟩ : ∃ m,m = pos1 a1 p1 := ⟨_,rfl⟩
  have M1 : Aside0 (m ≤ p1.length) := ⟨hmd ▸ pos1_le a1 p1⟩
  have M2 : Aside0 (∀ t (ht : t < p1.length),t < m → p1[t].f0 < a1) := ⟨fun t ht h => pos1_lt a1 p1 t ht (hmd ▸ h)⟩
  have M3 : Aside0 (∀ ht : m < p1.length,¬ p1[m].f0 < a1) := ⟨by subst hmd;exact pos1_stop a1 p1⟩
  have HMD := ak hmd
  clear hmd
  obtain ⟨f,rows0,hl,hC,hM,hcells⟩ := elemsC_ T1.out
  have hc1 := (Kd.S_reads' T1.out).2.1
  have E2 := ak hl
  have E3 := ak hM
  have E6 := ak hcells
  have E7 := ak hC
  have HC1 := ak hc1
  have BG2 := BG
  clear hl hM hcells hC BG hcgb2_0 hcgb2_1 hcgb2_2 hcgb2_3
  have hcgb3_1 : w2.cell? ⟨gb,1,none⟩ = some (.slice A1 p1.length c1) := (blk_cell BG2.out 1).trans rfl
  go_wp2
  have h0w : w0.heap.size ≤ w2.heap.size := HB.out.size
  have hS0 : (Kd.raw 2).R 83 (w2.alloc (.cells #[] 83)) w0.heap.size (fun k_ => w2.heap.size ≤ k_) (.slice (some ⟨w2.heap.size,0,none⟩) 0 0) ([] : List (List Value)) := rows_of_cells_ (s := 2) (cur := #[]) (blk_new _ _) h0w (Nat.le_refl _) (Nat.le_refl _) (by decide) rfl rfl (fun r hr => by simp at hr) (fun j hj => by simp at hj)
  have HS0 := ak hS0
  clear hS0 hcgb3_1
  go_loopg [7,8] m (fun gg v7 v8 wr => ∃ (j : Nat),v8 = .int .i64 j ∧ j ≤ m ∧ m - j ≤ gg ∧ Aside0 ((Kd.raw 2).R 83 wr w0.heap.size (fun k_ => w2.heap.size ≤ k_) v7 (rows0.take j)) ∧ Aside0 (Kept w2 wr (fun _ => False)) ∧ Aside0 (Below w0.heap.size w0 wr))
  case atStart => exact ⟨0,rfl,Nat.zero_le _,by omega,HS0,⟨(Kept.refl _ _).alloc _⟩,⟨below_alloc HB.out _⟩⟩
  case round =>
   clear HS0 HB
   obtain ⟨j,rfl,hjm,hgg,HS,HK2,HB⟩ := hrel
   have hcgb4_1 : wr.cell? ⟨gb,1,none⟩ = some (.slice A1 p1.length c1) := (blk_cell (blk_kept BG2.out HK2.out (fun h => h)) 1).trans rfl
   by_cases hlt : j < m
   ·have hjl : j < p1.length := by have := M1.out;omega
    have hjr : j < rows0.length := by have := E2.out;omega
    have hx : p1[j]? = some p1[j] := List.getElem?_eq_getElem hjl
    have hr0 : rows0[j]? = some rows0[j] := List.getElem?_eq_getElem hjr
    obtain ⟨Ae,ce,er⟩ := rowc_ (E3.out j _ _ hx hr0)
    obtain ⟨g,ea,hcc⟩ := E6.out j _ hr0
    rw [er] at hcc
    have hx0 := kept_cell0_ HK2.out (hcc 0 _ rfl)
    have hx1 := kept_cell0_ HK2.out (hcc 1 _ rfl)
    rw [Nat.add_zero] at hx0
    have hci : (j : Int) < (p1.length : Int) := by omega
    have hj0 : (0 : Int) ≤ (j : Int) := by omega
    have hv : decide (p1[j].f0 < a1) = true := decide_eq_true (M2.out j hjl hlt)
    have htk : rows0.take (j + 1) = rows0.take j ++ [rows0[j]] := List.take_succ_eq_append_getElem _
    rw [er] at htk
    have HTK := ak htk
    clear htk hr0 er hcc hx
    generalize p1[j] = x at *
    subst ea
    go_wp2_with (first|((with_reducible refine gblt_ (b := .append) (xs := #[.tmp 46,.tmp 54]) rfl ?_);at_builtin;refine Kd.R_append (Kd.raw 2) (w0 := w0) w0.heap.size rfl (.tmp 46) (.tmp 54) 28 83 (.agg #[.int .i64 0,.slice none 0 0]) 32 rfl Tryz.underlying28 info83 rfl (by decide) (by omega) u7 (rows0.take j) [.int .i64 x.f0,.slice Ae x.f1.length ce] [.int .i64 x.f0,.slice Ae x.f1.length ce] (fun k_ => w2.heap.size ≤ k_) (fun _ => False) rfl rfl ⟨rfl,rfl,by intro u hu;simp at hu;rcases hu with rfl|rfl <;> rfl⟩ (fun _ hk => hk.elim) (fun k_ h_ => Nat.le_trans HK2.out.1 h_) HS.out HB.out (Nat.le_trans W2.out HK2.out.1) ?aL ?_;(case aL => have h2 := List.length_take_le j rows0;have := HLL.out;have := E2.out;have := M1.out;omega);intro v1 w1 ho hb hg hat))
    go_roundg (m - (j + 1))
    case measure => omega
    case rel => exact ⟨j + 1,by go_num,by omega,by omega,⟨by rw [HTK.out];exact ho⟩,⟨Kept.of_grown hg HK2.out (fun k_ e_ => .inr (HS.out.1 k_ e_))⟩,⟨hb⟩⟩
   ·have hjm2 : j = m := by omega
    subst hjm2
    obtain ⟨A7,c7,e7⟩ := Kd.R_slice HS.out
    have et : (rows0.take j).length = j := by rw [List.length_take];have := E2.out;have := M1.out;omega
    rw [et] at e7
    subst e7
    by_cases hjl : j < p1.length
    ·have hjr : j < rows0.length := by have := E2.out;omega
     have hx : p1[j]? = some p1[j] := List.getElem?_eq_getElem hjl
     have hr0 : rows0[j]? = some rows0[j] := List.getElem?_eq_getElem hjr
     obtain ⟨Ae,ce,er⟩ := rowc_ (E3.out j _ _ hx hr0)
     obtain ⟨g,ea,hcc⟩ := E6.out j _ hr0
     rw [er] at hcc
     have hx0 := kept_cell0_ HK2.out (hcc 0 _ rfl)
     have hx1 := kept_cell0_ HK2.out (hcc 1 _ rfl)
     rw [Nat.add_zero] at hx0
     have hci : (j : Int) < (p1.length : Int) := by omega
     have hj0 : (0 : Int) ≤ (j : Int) := by omega
     have hv : decide (p1[j].f0 < a1) = false := decide_eq_false (by have := M3.out hjl;omega)
     clear hr0 er hcc hx
     subst ea
     go_upto_region 8 with (fail)
     have BG := ak (blk_kept BG2.out HK2.out (fun h => h))
     have B : Below wr.heap.size wr wr.drew := below_drew1 (Below.refl _ _)
     have BG := ak (blk_below BG.out B)
     have HS := ak (Kd.R_below HS.out B)
     have HK2 := ak (HK2.out.below B)
     have HB := ak (below_step HB.out B)
     clear B
     obtain ⟨i0,hi0,_,hsz0,_⟩ := info_parts info83
     have hcut := cut_from (P := Tryz.prog) 28 83 .i64 Tryz.underlying28 hi0 2 hsz0 (some ⟨g,0,none⟩) p1.length c1 (j : Int) (by omega) (by have := M1.out;omega)
     have qj : ((j : Int) ≤ (p1.length : Int)) = True := eq_true (by have := M1.out;omega)
     have qj0 : (0 : Int) ≤ (j : Int) := by omega
     rw [Int.toNat_natCast] at hcut
     have hCd := Kd.C_drop (m := j) (c := c1) E7.out (by have := E2.out;have := M1.out;omega) (by rw [E2.out];exact HC1.out)
     have edl : (rows0.drop j).length = p1.length - j := by rw [List.length_drop,E2.out]
     rw [edl] at hCd
     obtain ⟨AD,hAD⟩ : ∃ A_,A_ = (if c1 = j then (some ⟨g,0,none⟩) else ((some ⟨g,0,none⟩) : Option Addr).map (·.add (j * 2))) := ⟨_,rfl⟩
     rw [← hAD] at hcut
     have hCd2 : (Kd.raw 2).C w2 AD (p1.length - j) (rows0.drop j) := by rw [hAD];exact hCd
     have CD := ak hCd2
     have EDL := ak edl
     clear hCd hCd2 hAD edl hi0 hsz0
     refine start_ (n := 15) (S := fun w' => w'.cell? ⟨gb,0,none⟩ = some (.bool b) ∧ w'.cell? ⟨gb,1,none⟩ = some (.slice (some ⟨g,0,none⟩) p1.length c1) ∧ w'.cell? ⟨gb,2,none⟩ = some (.slice A3 p3.length c3) ∧ w'.cell? ⟨gb,3,none⟩ = some (.slice A4 p4.length c4)) (ds := []) #[false,false,false,false,false,false,false,false,false,false,false,false,false,false,false] (by kernel_rfl) rfl rfl ⟨(blk_cell BG.out 0).trans rfl,(blk_cell BG.out 1).trans rfl,(blk_cell BG.out 2).trans rfl,(blk_cell BG.out 3).trans rfl⟩ (fun hHeld => ?_)
     generalize wr.drew = wc at BG HS HK2 HB hHeld ⊢
     refine pure_ (i := 0) (N := some 56) (v := ?_) (a' := ?_) #[true,false,false,false,false,false,false,false,false,false,false,false,false,false,false] rfl rfl (by kernel_rfl) (fun _ _ _ h => h) (Or.inl ⟨by rfl,?_⟩) ?_ ?_
     rotate_left
     ·intro w'
      go_simp
      with_reducible rfl
     rotate_left
     ·simp only [Act.put,q1,q2,q3,i64_w,i32_w]
      rfl
     refine pure_ (i := 1) (N := some 57) (v := ?_) (a' := ?_) #[true,true,false,false,false,false,false,false,false,false,false,false,false,false,false] rfl rfl (by kernel_rfl) (fun _ _ _ h => h) (Or.inl ⟨by rfl,?_⟩) ?_ ?_
     rotate_left
     ·intro w'
      go_simp
      with_reducible rfl
     rotate_left
     ·simp only [Act.put,q1,q2,q3,i64_w,i32_w]
      rfl
     refine pure_ (i := 2) (N := some 58) (v := ?_) (a' := ?_) #[true,true,true,false,false,false,false,false,false,false,false,false,false,false,false] rfl rfl (by kernel_rfl) (fun _ _ _ h => h) (Or.inl ⟨by rfl,?_⟩) ?_ ?_
     rotate_left
     ·intro w'
      go_simp
      with_reducible rfl
     rotate_left
     ·simp only [Act.put,q1,q2,q3,i64_w,i32_w]
      rfl
     refine pure_ (i := 3) (N := some 59) (v := ?_) (a' := ?_) #[true,true,true,true,false,false,false,false,false,false,false,false,false,false,false] rfl rfl (by kernel_rfl) (fun _ _ _ h => h) (Or.inl ⟨by rfl,?_⟩) ?_ ?_
     rotate_left
     ·intro w'
      go_simp
      with_reducible rfl
     rotate_left
     ·simp only [Act.put,q1,q2,q3,i64_w,i32_w]
      rfl
     refine pure_ (i := 6) (N := some 62) (v := ?_) (a' := ?_) #[true,true,true,true,false,false,true,false,false,false,false,false,false,false,false] rfl rfl (by kernel_rfl) (fun _ _ _ h => h) (Or.inl ⟨by rfl,?_⟩) ?_ ?_
     rotate_left
     ·intro w'
      go_simp
      with_reducible rfl
     rotate_left
     ·simp only [Act.put,q1,q2,q3,i64_w,i32_w]
      rfl
     refine pure_ (i := 7) (N := some 63) (v := ?_) (a' := ?_) #[true,true,true,true,false,false,true,true,false,false,false,false,false,false,false] rfl rfl (by kernel_rfl) (fun _ _ _ h => h) (Or.inl ⟨by rfl,?_⟩) ?_ ?_
     rotate_left
     ·intro w'
      go_simp
      with_reducible rfl
     rotate_left
     ·simp only [Act.put,q1,q2,q3,i64_w,i32_w]
      rfl
     refine pure_ (i := 8) (N := some 64) (v := ?_) (a' := ?_) #[true,true,true,true,false,false,true,true,true,false,false,false,false,false,false] rfl rfl (by kernel_rfl) (fun _ _ _ h => h) (Or.inl ⟨by rfl,?_⟩) ?_ ?_
     rotate_left
     ·intro w'
      go_simp
      with_reducible rfl
     rotate_left
     ·simp only [Act.put,q1,q2,q3,i64_w,i32_w]
      rfl
     refine take_ (i := 9) (N := some 65) (v := ?_) (a' := ?_) #[true,true,true,true,false,false,true,true,true,true,false,false,false,false,false] rfl rfl (by kernel_rfl) (fun _ _ _ h => h) (Or.inl ⟨by rfl,?_⟩) hHeld ?_ ?_
     rotate_left
     ·rintro w' ⟨s0,s1,s2,s3⟩
      go_simp
      with_reducible rfl
     rotate_left
     ·simp only [Act.put,q1,q2,q3,i64_w,i32_w]
      rfl
     refine pure_ (i := 10) (N := some 66) (v := ?_) (a' := ?_) #[true,true,true,true,false,false,true,true,true,true,true,false,false,false,false] rfl rfl (by kernel_rfl) (fun _ _ _ h => h) (Or.inl ⟨by rfl,?_⟩) ?_ ?_
     rotate_left
     ·intro w'
      go_simp
      with_reducible rfl
     rotate_left
     ·simp only [Act.put,q1,q2,q3,i64_w,i32_w]
      rfl
     refine pure_ (i := 11) (N := some 67) (v := ?_) (a' := ?_) #[true,true,true,true,false,false,true,true,true,true,true,true,false,false,false] rfl rfl (by kernel_rfl) (fun _ _ _ h => h) (Or.inl ⟨by rfl,?_⟩) ?_ ?_
     rotate_left
     ·intro w'
      go_simp
      with_reducible rfl
     rotate_left
     ·simp only [Act.put,q1,q2,q3,i64_w,i32_w]
      rfl
     refine pure_ (i := 12) (N := some 68) (v := ?_) (a' := ?_) #[true,true,true,true,false,false,true,true,true,true,true,true,true,false,false] rfl rfl (by kernel_rfl) (fun _ _ _ h => h) (Or.inl ⟨by rfl,?_⟩) ?_ ?_
     rotate_left
     ·intro w'
      go_simp
      with_reducible rfl
     rotate_left
     ·simp only [Act.put,q1,q2,q3,i64_w,i32_w]
      rfl
     refine one_ (i := 4) (N := some 60) #[true,true,true,true,true,false,true,true,true,true,true,true,true,false,false] rfl rfl (by kernel_rfl) (by decide) (fun K hK => ?_)
     refine value_ (w1 := ?_) (v := ?_) (by rfl) rfl ?_ ?_
     rotate_left 2
     ·go_simp
      constructor
      ·rfl
      ·rfl
     refine hK.out _ _ ⟨(blk_cell (blk_alloc BG.out _) 0).trans rfl,(blk_cell (blk_alloc BG.out _) 1).trans rfl,(blk_cell (blk_alloc BG.out _) 2).trans rfl,(blk_cell (blk_alloc BG.out _) 3).trans rfl⟩ (fun hHeld => ?_)
     clear hK K
     refine nr_ (some 60) _ ?_
     refine one_ (i := 5) (N := some 61) #[true,true,true,true,true,true,true,true,true,true,true,true,true,false,false] rfl rfl (by kernel_rfl) (by decide) (fun K hK => ?_)
     refine Kd.R_append_step (Kd.raw 2) (w0 := w0) w0.heap.size (by rfl) (.tmp 56) (.tmp 60) 28 83 (.agg #[.int .i64 0,.slice none 0 0]) 32 rfl Tryz.underlying28 info83 rfl (by decide) (by omega) (.slice A7 j c7) (rows0.take j) [.int .i64 a1,.slice A2 l2.length c2] [.int .i64 a1,.slice A2 l2.length c2] (fun k_ => w2.heap.size ≤ k_) (fun _ => False) rfl rfl ⟨rfl,rfl,by intro u hu;simp at hu;rcases hu with rfl|rfl <;> rfl⟩ (fun _ hk => hk.elim) (fun k_ h_ => Nat.le_trans HK2.out.1 h_) HS.out HB.out (Nat.le_trans W2.out HK2.out.1) ?aL ?_
     (case aL => have h2 := List.length_take_le j rows0;have := HLL.out;have := E2.out;have := M1.out;omega)
     intro v5 wq ho hb hg hat
     have BG := ak (blk_kept BG2.out (Kept.of_grown hg HK2.out (fun k_ e_ => .inr (HS.out.1 k_ e_))) (fun h => h))
     have HK2 := ak (Kept.of_grown hg HK2.out (fun k_ e_ => .inr (HS.out.1 k_ e_)))
     have HS := ak ho
     have HB := ak hb
     clear ho hb hg hat
     refine hK.out _ _ ⟨(blk_cell BG.out 0).trans rfl,(blk_cell BG.out 1).trans rfl,(blk_cell BG.out 2).trans rfl,(blk_cell BG.out 3).trans rfl⟩ (fun hHeld => ?_)
     clear hK K
     refine nr_ (some 61) _ ?_
     refine one_ (i := 13) (N := some 69) #[true,true,true,true,true,true,true,true,true,true,true,true,true,true,false] rfl rfl (by kernel_rfl) (by decide) (fun K hK => ?_)
     refine Kd.R_append_rows_step (Kd.raw 2) (w0 := w0) w0.heap.size (by rfl) (.tmp 61) (.tmp 68) 28 83 (.agg #[.int .i64 0,.slice none 0 0]) 32 rfl Tryz.underlying28 info83 rfl (by decide) (by omega) v5 (rows0.take j ++ [[.int .i64 a1,.slice A2 l2.length c2]]) (rows0.drop j) AD (p1.length - j) (c1 - j) (fun k_ => w2.heap.size ≤ k_) (fun _ => False) rfl rfl HS.out ?aR (fun _ _ h => h) (fun _ h => h.elim) (fun k_ h_ => Nat.le_trans HK2.out.1 h_) HB.out (Nat.le_trans W2.out HK2.out.1) ?aL ?_
     (case aR => exact rawC_kept_ CD.out HK2.out)
     (case aL => have h2 := List.length_take_le j rows0;have := HLL.out;have := E2.out;have := M1.out;simp;omega)
     intro v6 wz ho hb hg hat
     have BG := ak (blk_kept BG2.out (Kept.of_grown hg HK2.out (fun k_ e_ => .inr (HS.out.1 k_ e_))) (fun h => h))
     have HK2 := ak (Kept.of_grown hg HK2.out (fun k_ e_ => .inr (HS.out.1 k_ e_)))
     have HS := ak ho
     have HB := ak hb
     clear ho hb hg hat
     refine hK.out _ _ ⟨(blk_cell BG.out 0).trans rfl,(blk_cell BG.out 1).trans rfl,(blk_cell BG.out 2).trans rfl,(blk_cell BG.out 3).trans rfl⟩ (fun hHeld => ?_)
     clear hK K
     refine nr_ (some 69) _ ?_
     refine pure_ (i := 14) (N := some 7) (v := ?_) (a' := ?_) #[true,true,true,true,true,true,true,true,true,true,true,true,true,true,true] rfl rfl (by kernel_rfl) (fun _ _ _ h => h) (Or.inl ⟨by rfl,?_⟩) ?_ ?_
     rotate_left
     ·intro w'
      go_simp
      with_reducible rfl
     rotate_left
     ·simp only [Act.put,q1,q2,q3,i64_w,i32_w]
      rfl
     refine done_ (by kernel_rfl) ?_
     clear hHeld hcut qj
     obtain ⟨gN,cN,eN,hgN,_,_⟩ := Kd.R_form HS.out (by simp;omega)
     have eln : (rows0.take j ++ [[Value.int .i64 a1,Value.slice A2 l2.length c2]] ++ rows0.drop j).length = p1.length + 1 := by have := E2.out;have := M1.out;simp;omega
     rw [eln] at eN
     subst eN
     have hcgb9_0 : wz.cell? ⟨gb,0,none⟩ = some (.bool b) := (blk_cell BG.out 0).trans rfl
     have hcgb9_1 : wz.cell? ⟨gb,1,none⟩ = some (.slice (some ⟨g,0,none⟩) p1.length c1) := (blk_cell BG.out 1).trans rfl
     have hcgb9_2 : wz.cell? ⟨gb,2,none⟩ = some (.slice A3 p3.length c3) := (blk_cell BG.out 2).trans rfl
     have hcgb9_3 : wz.cell? ⟨gb,3,none⟩ = some (.slice A4 p4.length c4) := (blk_cell BG.out 3).trans rfl
     have hfgb9_1 := blk_frozen BG.out 1
     have ELN := ak eln
     clear eln
     go_wp2
     go_end0
     try rw [← HMD.out]
     have elp : (p1.take j ++ [(⟨a1,l2⟩ : S83)] ++ p1.drop j).length = p1.length + 1 := by have := M1.out;simp;omega
     have elm : min j p1.length + (p1.length - j + 1) = p1.length + 1 := by have := M1.out;omega
     first|rw [elp]|rw [elm]
     have hgN2 : w2.heap.size ≤ gN := HS.out.1 gN (by simp [Value.ownBlock])
     have hkw : ∀ k,k < w.heap.size → wz.heap[k]? = w2.heap[k]? := fun k h => HK2.out.2 k (Nat.lt_of_lt_of_le h LW.out) (fun h => h)
     have hfin : Kd.S k83 83 wz w0.heap.size (fun k_ => ((P1_ k_ ∨ okx k_) ∨ w.heap.size ≤ k_) ∧ k_ ≠ gb) (.slice (some ⟨gN,0,none⟩) (p1.length + 1) cN) (p1.take j ++ [(⟨a1,l2⟩ : S83)] ++ p1.drop j) := ins_fin_ (d := k83) (w := w2) (f := f) (okm := fun k => P1_ k ∧ k < w.heap.size) (okx := fun k_ => okx k_ ∧ k_ < w.heap.size) (cx := [.int .i64 a1,.slice A2 l2.length c2]) E2.out M1.out E3.out (k83_mkM _ _ _ (⟨a1,l2⟩ : S83) N.out) (fun k h h2 => XP.out k h.1 h2.1) (fun k h _ => hkw k h.2) (fun k h _ => hkw k h.2) (fun k h => ⟨⟨.inl (.inl h.1),fun e_ => P1.out (e_ ▸ h.1)⟩,fun e_ => absurd h.2 (Nat.not_lt.2 (Nat.le_trans LW.out (e_ ▸ hgN2)))⟩) (fun k h => ⟨⟨.inl (.inr h.1),fun e_ => PX.out (e_ ▸ h.1)⟩,fun e_ => absurd h.2 (Nat.not_lt.2 (Nat.le_trans LW.out (e_ ▸ hgN2)))⟩) ⟨.inr (Nat.le_trans LW.out hgN2),fun e_ => absurd LG.out (Nat.not_lt.2 (Nat.le_trans LW.out (e_ ▸ hgN2)))⟩ (Kd.R_mono HS.out (fun _ _ => trivial))
     exact ⟨rfl,some ⟨gN,0,none⟩,cN,(by refine blk_put (cs := #[.bool b,.slice (some ⟨g,0,none⟩) p1.length c1,.slice A3 p3.length c3,.slice A4 p4.length c4]) ?_ 1 _ rfl;exact BG.out),(by first|exact Kd.S_far (p := ⟨gb,1,none⟩) hfin (fun _ h_ => h_.2) _|(rw [List.append_assoc,List.cons_append,List.nil_append] at hfin;exact Kd.S_far (p := ⟨gb,1,none⟩) hfin (fun _ h_ => h_.2) _)),below_set HB.out GG.out,(HK.out.then_ HK2.out (fun _ h_ => h_.elim)).setCell (p := ⟨gb,1,none⟩) (.inl (.inr rfl)) _⟩
    ·have hci : ¬ (j : Int) < (p1.length : Int) := by omega
     go_upto_region 8 with (fail)
     have BG := ak (blk_kept BG2.out HK2.out (fun h => h))
     have B : Below wr.heap.size wr wr.drew := below_drew1 (Below.refl _ _)
     have BG := ak (blk_below BG.out B)
     have HS := ak (Kd.R_below HS.out B)
     have HK2 := ak (HK2.out.below B)
     have HB := ak (below_step HB.out B)
     clear B
     obtain ⟨i0,hi0,_,hsz0,_⟩ := info_parts info83
     have hcut := cut_from (P := Tryz.prog) 28 83 .i64 Tryz.underlying28 hi0 2 hsz0 A1 p1.length c1 (j : Int) (by omega) (by have := M1.out;omega)
     have qj : ((j : Int) ≤ (p1.length : Int)) = True := eq_true (by have := M1.out;omega)
     have qj0 : (0 : Int) ≤ (j : Int) := by omega
     rw [Int.toNat_natCast] at hcut
     have hCd := Kd.C_drop (m := j) (c := c1) E7.out (by have := E2.out;have := M1.out;omega) (by rw [E2.out];exact HC1.out)
     have edl : (rows0.drop j).length = p1.length - j := by rw [List.length_drop,E2.out]
     rw [edl] at hCd
     obtain ⟨AD,hAD⟩ : ∃ A_,A_ = (if c1 = j then A1 else A1.map (·.add (j * 2))) := ⟨_,rfl⟩
     rw [← hAD] at hcut
     have hCd2 : (Kd.raw 2).C w2 AD (p1.length - j) (rows0.drop j) := by rw [hAD];exact hCd
     have CD := ak hCd2
     have EDL := ak edl
     clear hCd hCd2 hAD edl hi0 hsz0
     refine start_ (n := 15) (S := fun w' => w'.cell? ⟨gb,0,none⟩ = some (.bool b) ∧ w'.cell? ⟨gb,1,none⟩ = some (.slice A1 p1.length c1) ∧ w'.cell? ⟨gb,2,none⟩ = some (.slice A3 p3.length c3) ∧ w'.cell? ⟨gb,3,none⟩ = some (.slice A4 p4.length c4)) (ds := []) #[false,false,false,false,false,false,false,false,false,false,false,false,false,false,false] (by kernel_rfl) rfl rfl ⟨(blk_cell BG.out 0).trans rfl,(blk_cell BG.out 1).trans rfl,(blk_cell BG.out 2).trans rfl,(blk_cell BG.out 3).trans rfl⟩ (fun hHeld => ?_)
     generalize wr.drew = wc at BG HS HK2 HB hHeld ⊢
     refine pure_ (i := 0) (N := some 56) (v := ?_) (a' := ?_) #[true,false,false,false,false,false,false,false,false,false,false,false,false,false,false] rfl rfl (by kernel_rfl) (fun _ _ _ h => h) (Or.inl ⟨by rfl,?_⟩) ?_ ?_
     rotate_left
     ·intro w'
      go_simp
      with_reducible rfl
     rotate_left
     ·simp only [Act.put,q1,q2,q3,i64_w,i32_w]
      rfl
     refine pure_ (i := 1) (N := some 57) (v := ?_) (a' := ?_) #[true,true,false,false,false,false,false,false,false,false,false,false,false,false,false] rfl rfl (by kernel_rfl) (fun _ _ _ h => h) (Or.inl ⟨by rfl,?_⟩) ?_ ?_
     rotate_left
     ·intro w'
      go_simp
      with_reducible rfl
     rotate_left
     ·simp only [Act.put,q1,q2,q3,i64_w,i32_w]
      rfl
     refine pure_ (i := 2) (N := some 58) (v := ?_) (a' := ?_) #[true,true,true,false,false,false,false,false,false,false,false,false,false,false,false] rfl rfl (by kernel_rfl) (fun _ _ _ h => h) (Or.inl ⟨by rfl,?_⟩) ?_ ?_
     rotate_left
     ·intro w'
      go_simp
      with_reducible rfl
     rotate_left
     ·simp only [Act.put,q1,q2,q3,i64_w,i32_w]
      rfl
     refine pure_ (i := 3) (N := some 59) (v := ?_) (a' := ?_) #[true,true,true,true,false,false,false,false,false,false,false,false,false,false,false] rfl rfl (by kernel_rfl) (fun _ _ _ h => h) (Or.inl ⟨by rfl,?_⟩) ?_ ?_
     rotate_left
     ·intro w'
      go_simp
      with_reducible rfl
     rotate_left
     ·simp only [Act.put,q1,q2,q3,i64_w,i32_w]
      rfl
     refine pure_ (i := 6) (N := some 62) (v := ?_) (a' := ?_) #[true,true,true,true,false,false,true,false,false,false,false,false,false,false,false] rfl rfl (by kernel_rfl) (fun _ _ _ h => h) (Or.inl ⟨by rfl,?_⟩) ?_ ?_
     rotate_left
     ·intro w'
      go_simp
      with_reducible rfl
     rotate_left
     ·simp only [Act.put,q1,q2,q3,i64_w,i32_w]
      rfl
     refine pure_ (i := 7) (N := some 63) (v := ?_) (a' := ?_) #[true,true,true,true,false,false,true,true,false,false,false,false,false,false,false] rfl rfl (by kernel_rfl) (fun _ _ _ h => h) (Or.inl ⟨by rfl,?_⟩) ?_ ?_
     rotate_left
     ·intro w'
      go_simp
      with_reducible rfl
     rotate_left
     ·simp only [Act.put,q1,q2,q3,i64_w,i32_w]
      rfl
     refine pure_ (i := 8) (N := some 64) (v := ?_) (a' := ?_) #[true,true,true,true,false,false,true,true,true,false,false,false,false,false,false] rfl rfl (by kernel_rfl) (fun _ _ _ h => h) (Or.inl ⟨by rfl,?_⟩) ?_ ?_
     rotate_left
     ·intro w'
      go_simp
      with_reducible rfl
     rotate_left
     ·simp only [Act.put,q1,q2,q3,i64_w,i32_w]
      rfl
     refine take_ (i := 9) (N := some 65) (v := ?_) (a' := ?_) #[true,true,true,true,false,false,true,true,true,true,false,false,false,false,false] rfl rfl (by kernel_rfl) (fun _ _ _ h => h) (Or.inl ⟨by rfl,?_⟩) hHeld ?_ ?_
     rotate_left
     ·rintro w' ⟨s0,s1,s2,s3⟩
      go_simp
      with_reducible rfl
     rotate_left
     ·simp only [Act.put,q1,q2,q3,i64_w,i32_w]
      rfl
     refine pure_ (i := 10) (N := some 66) (v := ?_) (a' := ?_) #[true,true,true,true,false,false,true,true,true,true,true,false,false,false,false] rfl rfl (by kernel_rfl) (fun _ _ _ h => h) (Or.inl ⟨by rfl,?_⟩) ?_ ?_
     rotate_left
     ·intro w'
      go_simp
      with_reducible rfl
     rotate_left
     ·simp only [Act.put,q1,q2,q3,i64_w,i32_w]
      rfl
     refine pure_ (i := 11) (N := some 67) (v := ?_) (a' := ?_) #[true,true,true,true,false,false,true,true,true,true,true,true,false,false,false] rfl rfl (by kernel_rfl) (fun _ _ _ h => h) (Or.inl ⟨by rfl,?_⟩) ?_ ?_
     rotate_left
     ·intro w'
      go_simp
      with_reducible rfl
     rotate_left
     ·simp only [Act.put,q1,q2,q3,i64_w,i32_w]
      rfl
     refine pure_ (i := 12) (N := some 68) (v := ?_) (a' := ?_) #[true,true,true,true,false,false,true,true,true,true,true,true,true,false,false] rfl rfl (by kernel_rfl) (fun _ _ _ h => h) (Or.inl ⟨by rfl,?_⟩) ?_ ?_
     rotate_left
     ·intro w'
      go_simp
      with_reducible rfl
     rotate_left
     ·simp only [Act.put,q1,q2,q3,i64_w,i32_w]
      rfl
     refine one_ (i := 4) (N := some 60) #[true,true,true,true,true,false,true,true,true,true,true,true,true,false,false] rfl rfl (by kernel_rfl) (by decide) (fun K hK => ?_)
     refine value_ (w1 := ?_) (v := ?_) (by rfl) rfl ?_ ?_
     rotate_left 2
     ·go_simp
      constructor
      ·rfl
      ·rfl
     refine hK.out _ _ ⟨(blk_cell (blk_alloc BG.out _) 0).trans rfl,(blk_cell (blk_alloc BG.out _) 1).trans rfl,(blk_cell (blk_alloc BG.out _) 2).trans rfl,(blk_cell (blk_alloc BG.out _) 3).trans rfl⟩ (fun hHeld => ?_)
     clear hK K
     refine nr_ (some 60) _ ?_
     refine one_ (i := 5) (N := some 61) #[true,true,true,true,true,true,true,true,true,true,true,true,true,false,false] rfl rfl (by kernel_rfl) (by decide) (fun K hK => ?_)
     refine Kd.R_append_step (Kd.raw 2) (w0 := w0) w0.heap.size (by rfl) (.tmp 56) (.tmp 60) 28 83 (.agg #[.int .i64 0,.slice none 0 0]) 32 rfl Tryz.underlying28 info83 rfl (by decide) (by omega) (.slice A7 j c7) (rows0.take j) [.int .i64 a1,.slice A2 l2.length c2] [.int .i64 a1,.slice A2 l2.length c2] (fun k_ => w2.heap.size ≤ k_) (fun _ => False) rfl rfl ⟨rfl,rfl,by intro u hu;simp at hu;rcases hu with rfl|rfl <;> rfl⟩ (fun _ hk => hk.elim) (fun k_ h_ => Nat.le_trans HK2.out.1 h_) HS.out HB.out (Nat.le_trans W2.out HK2.out.1) ?aL ?_
     (case aL => have h2 := List.length_take_le j rows0;have := HLL.out;have := E2.out;have := M1.out;omega)
     intro v5 wq ho hb hg hat
     have BG := ak (blk_kept BG2.out (Kept.of_grown hg HK2.out (fun k_ e_ => .inr (HS.out.1 k_ e_))) (fun h => h))
     have HK2 := ak (Kept.of_grown hg HK2.out (fun k_ e_ => .inr (HS.out.1 k_ e_)))
     have HS := ak ho
     have HB := ak hb
     clear ho hb hg hat
     refine hK.out _ _ ⟨(blk_cell BG.out 0).trans rfl,(blk_cell BG.out 1).trans rfl,(blk_cell BG.out 2).trans rfl,(blk_cell BG.out 3).trans rfl⟩ (fun hHeld => ?_)
     clear hK K
     refine nr_ (some 61) _ ?_
     refine one_ (i := 13) (N := some 69) #[true,true,true,true,true,true,true,true,true,true,true,true,true,true,false] rfl rfl (by kernel_rfl) (by decide) (fun K hK => ?_)
     refine Kd.R_append_rows_step (Kd.raw 2) (w0 := w0) w0.heap.size (by rfl) (.tmp 61) (.tmp 68) 28 83 (.agg #[.int .i64 0,.slice none 0 0]) 32 rfl Tryz.underlying28 info83 rfl (by decide) (by omega) v5 (rows0.take j ++ [[.int .i64 a1,.slice A2 l2.length c2]]) (rows0.drop j) AD (p1.length - j) (c1 - j) (fun k_ => w2.heap.size ≤ k_) (fun _ => False) rfl rfl HS.out ?aR (fun _ _ h => h) (fun _ h => h.elim) (fun k_ h_ => Nat.le_trans HK2.out.1 h_) HB.out (Nat.le_trans W2.out HK2.out.1) ?aL ?_
     (case aR => exact rawC_kept_ CD.out HK2.out)
     (case aL => have h2 := List.length_take_le j rows0;have := HLL.out;have := E2.out;have := M1.out;simp;omega)
     intro v6 wz ho hb hg hat
     have BG := ak (blk_kept BG2.out (Kept.of_grown hg HK2.out (fun k_ e_ => .inr (HS.out.1 k_ e_))) (fun h => h))
     have HK2 := ak (Kept.of_grown hg HK2.out (fun k_ e_ => .inr (HS.out.1 k_ e_)))
     have HS := ak ho
     have HB := ak hb
     clear ho hb hg hat
     refine hK.out _ _ ⟨(blk_cell BG.out 0).trans rfl,(blk_cell BG.out 1).trans rfl,(blk_cell BG.out 2).trans rfl,(blk_cell BG.out 3).trans rfl⟩ (fun hHeld => ?_)
     clear hK K
     refine nr_ (some 69) _ ?_
     refine pure_ (i := 14) (N := some 7) (v := ?_) (a' := ?_) #[true,true,true,true,true,true,true,true,true,true,true,true,true,true,true] rfl rfl (by kernel_rfl) (fun _ _ _ h => h) (Or.inl ⟨by rfl,?_⟩) ?_ ?_
     rotate_left
     ·intro w'
      go_simp
      with_reducible rfl
     rotate_left
     ·simp only [Act.put,q1,q2,q3,i64_w,i32_w]
      rfl
     refine done_ (by kernel_rfl) ?_
     clear hHeld hcut qj
     obtain ⟨gN,cN,eN,hgN,_,_⟩ := Kd.R_form HS.out (by simp;omega)
     have eln : (rows0.take j ++ [[Value.int .i64 a1,Value.slice A2 l2.length c2]] ++ rows0.drop j).length = p1.length + 1 := by have := E2.out;have := M1.out;simp;omega
     rw [eln] at eN
     subst eN
     have hcgb9_0 : wz.cell? ⟨gb,0,none⟩ = some (.bool b) := (blk_cell BG.out 0).trans rfl
     have hcgb9_1 : wz.cell? ⟨gb,1,none⟩ = some (.slice A1 p1.length c1) := (blk_cell BG.out 1).trans rfl
     have hcgb9_2 : wz.cell? ⟨gb,2,none⟩ = some (.slice A3 p3.length c3) := (blk_cell BG.out 2).trans rfl
     have hcgb9_3 : wz.cell? ⟨gb,3,none⟩ = some (.slice A4 p4.length c4) := (blk_cell BG.out 3).trans rfl
     have hfgb9_1 := blk_frozen BG.out 1
     have ELN := ak eln
     clear eln
     go_wp2
     go_end0
     try rw [← HMD.out]
     have elp : (p1.take j ++ [(⟨a1,l2⟩ : S83)] ++ p1.drop j).length = p1.length + 1 := by have := M1.out;simp;omega
     have elm : min j p1.length + (p1.length - j + 1) = p1.length + 1 := by have := M1.out;omega
     first|rw [elp]|rw [elm]
     have hgN2 : w2.heap.size ≤ gN := HS.out.1 gN (by simp [Value.ownBlock])
     have hkw : ∀ k,k < w.heap.size → wz.heap[k]? = w2.heap[k]? := fun k h => HK2.out.2 k (Nat.lt_of_lt_of_le h LW.out) (fun h => h)
     have hfin : Kd.S k83 83 wz w0.heap.size (fun k_ => ((P1_ k_ ∨ okx k_) ∨ w.heap.size ≤ k_) ∧ k_ ≠ gb) (.slice (some ⟨gN,0,none⟩) (p1.length + 1) cN) (p1.take j ++ [(⟨a1,l2⟩ : S83)] ++ p1.drop j) := ins_fin_ (d := k83) (w := w2) (f := f) (okm := fun k => P1_ k ∧ k < w.heap.size) (okx := fun k_ => okx k_ ∧ k_ < w.heap.size) (cx := [.int .i64 a1,.slice A2 l2.length c2]) E2.out M1.out E3.out (k83_mkM _ _ _ (⟨a1,l2⟩ : S83) N.out) (fun k h h2 => XP.out k h.1 h2.1) (fun k h _ => hkw k h.2) (fun k h _ => hkw k h.2) (fun k h => ⟨⟨.inl (.inl h.1),fun e_ => P1.out (e_ ▸ h.1)⟩,fun e_ => absurd h.2 (Nat.not_lt.2 (Nat.le_trans LW.out (e_ ▸ hgN2)))⟩) (fun k h => ⟨⟨.inl (.inr h.1),fun e_ => PX.out (e_ ▸ h.1)⟩,fun e_ => absurd h.2 (Nat.not_lt.2 (Nat.le_trans LW.out (e_ ▸ hgN2)))⟩) ⟨.inr (Nat.le_trans LW.out hgN2),fun e_ => absurd LG.out (Nat.not_lt.2 (Nat.le_trans LW.out (e_ ▸ hgN2)))⟩ (Kd.R_mono HS.out (fun _ _ => trivial))
     exact ⟨rfl,some ⟨gN,0,none⟩,cN,(by refine blk_put (cs := #[.bool b,.slice A1 p1.length c1,.slice A3 p3.length c3,.slice A4 p4.length c4]) ?_ 1 _ rfl;exact BG.out),(by first|exact Kd.S_far (p := ⟨gb,1,none⟩) hfin (fun _ h_ => h_.2) _|(rw [List.append_assoc,List.cons_append,List.nil_append] at hfin;exact Kd.S_far (p := ⟨gb,1,none⟩) hfin (fun _ h_ => h_.2) _)),below_set HB.out GG.out,(HK.out.then_ HK2.out (fun _ h_ => h_.elim)).setCell (p := ⟨gb,1,none⟩) (.inl (.inr rfl)) _⟩

/-! ### spec_Replace: function 15 -/
theorem hold_15 {p : Prop} (h : Aside0 p) : p := h.out
theorem ty_15 {w : World} {k : Nat} {a b : List Nat} (h1 : ∃ q, q ∈ a ∧ ∃ cs, w.heap[k]? = some (.cells cs q (0, 0))) (h2 : ∃ q, q ∈ b ∧ ∃ cs, w.heap[k]? = some (.cells cs q (0, 0))) (hd : ∀ q, q ∈ a → ¬ q ∈ b) : False := by
 obtain ⟨q,hq,cs,h1⟩ := h1
 obtain ⟨q2,hq2,cs2,h2⟩ := h2
 rw [h1] at h2
 injection h2 with h2
 injection h2 with _ h2
 exact hd q hq (h2 ▸ hq2)
def spec_Replace.f (k : Nat) (a0_0 : Bool) (l0_1 : List (S83)) (l0_2 : List (S50)) (l0_3 : List Int) (a1 : Int) (l2 : List (S87)) : Option (Bool × (List (S83)) × (List (S50)) × List Int × Bool) := (spec_MachineOk.f k a0_0 l0_1 l0_2 l0_3).bind fun t => if t = true then ((spec_l1Region.f a1).bind fun t2 => if t2 = true then ((spec_CellsOk.f k l2).bind fun t3 => if t3 = true then ((spec_l6Copy.f k a0_0 l0_1 l0_2 l0_3).bind fun c => (spec_l3Copy.f l2).bind fun y => (spec_l6Replace.f k c.1 c.2.1 c.2.2.1 c.2.2.2 a1 y).bind fun q => some (c.1, q, c.2.2.1, c.2.2.2, true)) else some (false, [], [], [], false)) else some (false, [], [], [], false)) else some (false, [], [], [], false)
theorem spec_Replace.calls (k : Nat) (a0_0 : Bool) (A0_1 : Option Addr) (c0_1 : Nat) (l0_1 : List (S83)) (A0_2 : Option Addr) (c0_2 : Nat) (l0_2 : List (S50)) (A0_3 : Option Addr) (c0_3 : Nat) (l0_3 : List Int) (a1 : Int) (A2 : Option Addr) (c2 : Nat) (l2 : List (S87)) (r1 : Bool) (r2 : List (S83)) (r3 : List (S50)) (r4 : List Int) (r5 : Bool) (w : World) (hr0_1 : Kd.C k83 w A0_1 l0_1.length l0_1) (hc0_1 : l0_1.length ≤ c0_1) (hr0_2 : Kd.C k50 w A0_2 l0_2.length l0_2) (hc0_2 : l0_2.length ≤ c0_2) (hr0_3 : Kd.C (Kd.int .i64) w A0_3 l0_3.length l0_3) (hc0_3 : l0_3.length ≤ c0_3) (hr2 : Kd.C k87 w A2 l2.length l2) (hc2 : l2.length ≤ c2) (h : spec_Replace.f k a0_0 l0_1 l0_2 l0_3 a1 l2 = some (r1, r2, r3, r4, r5)) :
    Calls Tryz.prog 15 #[.agg #[.bool a0_0, .slice A0_1 l0_1.length c0_1, .slice A0_2 l0_2.length c0_2, .slice A0_3 l0_3.length c0_3], .int .i64 a1, .slice A2 l2.length c2] w fun e w' => ∃ v1_ v2_ v3_ : Value, e = .returned (.tuple #[.agg #[.bool r1, v1_, v2_, v3_], .bool r5]) ∧ Kd.S k83 83 w' w.heap.size (fun _ => True) v1_ r2 ∧ Kd.S k50 50 w' w.heap.size (fun _ => True) v2_ r3 ∧ Kd.R (Kd.int .i64) 2 w' w.heap.size (fun _ => True) v3_ r4 ∧ Below w.heap.size w w' := by
 have hu := Tryz.underlying31
 have HR1 := ak hr0_1
 have HC1 := ak hc0_1
 clear hr0_1 hc0_1
 have HR2 := ak hr0_2
 have HC2 := ak hc0_2
 clear hr0_2 hc0_2
 have HR3 := ak hr0_3
 have HC3 := ak hc0_3
 clear hr0_3 hc0_3
 have HRR := ak hr2
 have HRC := ak hc2
 clear hr2 hc2
 obtain ⟨t,E0,h1⟩ := Option.bind_eq_some_iff.1 h
 clear h
 have H1 := ak h1
 have F0 := ak E0
 clear h1 E0
 go_enter Tryz.func15,Tryz.ntmps15
 go_wp2_with ((with_reducible refine gate_dst (N := 3) rfl ?_);refine bx_ 3 #[.bool a0_0,.slice A0_1 l0_1.length c0_1,.slice A0_2 l0_2.length c0_2,.slice A0_3 l0_3.length c0_3] 31 ?_;intro ga hg w1 hbox hb;have hge := ak (Nat.le_of_eq hg.symm);clear hg;refine hold_15 ?_)
 refine ⟨?_⟩
 have D1 := ak hb
 have BM := ak hbox
 clear hb hbox hge
 go_wp2_with ((with_reducible refine gate_dst (N := 6) rfl ?_);refine bx_ 6 #[.bool false,.slice none 0 0,.slice none 0 0,.slice none 0 0] 31 ?_;intro gr hg w2 hbox hb;have hge := ak (Nat.le_of_eq hg.symm);clear hg;refine hold_15 ?_)
 refine ⟨?_⟩
 have GR : Aside0 (w.heap.size ≤ gr) := ⟨Nat.le_trans D1.out.size hge.out⟩
 have D2 := ak (below_step D1.out hb)
 have BM := ak (blk_below BM.out hb)
 have BR := ak hbox
 clear hb hbox hge
 have hcga2_0 : w2.cell? ⟨ga,0,none⟩ = some (.bool a0_0) := (blk_cell BM.out 0).trans rfl
 have hcga2_1 : w2.cell? ⟨ga,1,none⟩ = some (.slice A0_1 l0_1.length c0_1) := (blk_cell BM.out 1).trans rfl
 have hcga2_2 : w2.cell? ⟨ga,2,none⟩ = some (.slice A0_2 l0_2.length c0_2) := (blk_cell BM.out 2).trans rfl
 have hcga2_3 : w2.cell? ⟨ga,3,none⟩ = some (.slice A0_3 l0_3.length c0_3) := (blk_cell BM.out 3).trans rfl
 go_wp2_with ((with_reducible refine gcal_ (f := 28) rfl ?_);refine gz_ (some 10) Tryz.func28 #[.agg #[.bool a0_0,.slice A0_1 l0_1.length c0_1,.slice A0_2 l0_2.length c0_2,.slice A0_3 l0_3.length c0_3]] ?_;refine (spec_MachineOk.calls k a0_0 A0_1 c0_1 l0_1 A0_2 c0_2 l0_2 A0_3 c0_3 l0_3 t _ (Kd.C_below HR1.out D2.out) HC1.out (Kd.C_below HR2.out D2.out) HC2.out (Kd.C_below HR3.out D2.out) HC3.out F0.out).mono ?_;rintro e w2b ⟨rfl,B⟩;refine ⟨_,rfl,?_⟩;refine hold_15 ?_)
 refine ⟨?_⟩
 have D3 := ak (below_step D2.out B)
 have BM := ak (blk_below BM.out B)
 have BR := ak (blk_below BR.out B)
 clear B
 obtain ⟨⟨hcgr3_0,hcgr3_1,hcgr3_2,hcgr3_3⟩,hfr3_0,hfr3_1,hfr3_2,hfr3_3⟩ := cl4_ BR.out
 cases t with
  | false =>
  have h1 := H1.out
  rw [if_neg (by simp)] at h1
  clear H1
  simp only [Option.some.injEq,Prod.mk.injEq] at h1
  obtain ⟨rfl,rfl,rfl,rfl,rfl⟩ := h1
  go_wp2
  refine bodyPost_ret (results_ct rfl _ _ gr 31 #[.bool false,.slice none 0 0,.slice none 0 0,.slice none 0 0] (0,0) _ rfl (pt4_ BR.out _ _ _ _) Tryz.underlying31 rfl (by kernel_rfl)) rfl ?_
  exact ⟨.slice none 0 0,.slice none 0 0,.slice none 0 0,by first|rfl|(simp;done),Kd.S_nil _ _ _ _ _,Kd.S_nil _ _ _ _ _,Kd.R_nil _ _ _ _ _,below_set (below_set (below_set (below_set D3.out GR.out) GR.out) GR.out) GR.out⟩
  | true =>
 have h1 := H1.out
 rw [if_pos rfl] at h1
 clear H1
 obtain ⟨t2,E9,h2⟩ := Option.bind_eq_some_iff.1 h1
 clear h1
 have H1 := ak h2
 have F9 := ak E9
 clear h2 E9
 go_wp2_with (go_at_call 57;refine (spec_l1Region.calls a1 t2 _ F9.out).mono ?_;rintro e w3a ⟨rfl,B0⟩;(try dsimp only);refine hold_15 ?_)
 refine ⟨?_⟩
 have B := B0.below
 have D3 := ak (below_step D3.out B)
 have BM := ak (blk_below BM.out B)
 have BR := ak (blk_below BR.out B)
 clear B B0
 clear hcgr3_0 hfr3_0 hcgr3_1 hfr3_1 hcgr3_2 hfr3_2 hcgr3_3 hfr3_3
 clear F9
 obtain ⟨⟨hcgr4_0,hcgr4_1,hcgr4_2,hcgr4_3⟩,hfr4_0,hfr4_1,hfr4_2,hfr4_3⟩ := cl4_ BR.out
 cases t2 with
  | false =>
  have h1 := H1.out
  rw [if_neg (by simp)] at h1
  clear H1
  simp only [Option.some.injEq,Prod.mk.injEq] at h1
  obtain ⟨rfl,rfl,rfl,rfl,rfl⟩ := h1
  go_wp2
  refine bodyPost_ret (results_ct rfl _ _ gr 31 #[.bool false,.slice none 0 0,.slice none 0 0,.slice none 0 0] (0,0) _ rfl (pt4_ BR.out _ _ _ _) Tryz.underlying31 rfl (by kernel_rfl)) rfl ?_
  exact ⟨.slice none 0 0,.slice none 0 0,.slice none 0 0,by first|rfl|(simp;done),Kd.S_nil _ _ _ _ _,Kd.S_nil _ _ _ _ _,Kd.R_nil _ _ _ _ _,below_set (below_set (below_set (below_set D3.out GR.out) GR.out) GR.out) GR.out⟩
  | true =>
 have h1 := H1.out
 rw [if_pos rfl] at h1
 clear H1
 obtain ⟨t3,E9,h2⟩ := Option.bind_eq_some_iff.1 h1
 clear h1
 have H1 := ak h2
 have F9 := ak E9
 clear h2 E9
 go_wp2_with (go_at_call 58;refine (spec_CellsOk.calls k A2 c2 l2 t3 _ (Kd.C_below HRR.out D3.out) HRC.out F9.out).mono ?_;rintro e w3 ⟨rfl,B⟩;(try dsimp only);refine hold_15 ?_)
 refine ⟨?_⟩
 have D3 := ak (below_step D3.out B)
 have BM := ak (blk_below BM.out B)
 have BR := ak (blk_below BR.out B)
 clear B
 clear hcgr4_0 hfr4_0 hcgr4_1 hfr4_1 hcgr4_2 hfr4_2 hcgr4_3 hfr4_3
 clear F9
 obtain ⟨⟨hcgr5_0,hcgr5_1,hcgr5_2,hcgr5_3⟩,hfr5_0,hfr5_1,hfr5_2,hfr5_3⟩ := cl4_ BR.out
 have hcga5_0 : w3.cell? ⟨ga,0,none⟩ = some (.bool a0_0) := (blk_cell BM.out 0).trans rfl
 have hcga5_1 : w3.cell? ⟨ga,1,none⟩ = some (.slice A0_1 l0_1.length c0_1) := (blk_cell BM.out 1).trans rfl
 have hcga5_2 : w3.cell? ⟨ga,2,none⟩ = some (.slice A0_2 l0_2.length c0_2) := (blk_cell BM.out 2).trans rfl
 have hcga5_3 : w3.cell? ⟨ga,3,none⟩ = some (.slice A0_3 l0_3.length c0_3) := (blk_cell BM.out 3).trans rfl
 cases t3 with
  | false =>
  have h1 := H1.out
  rw [if_neg (by simp)] at h1
  clear H1
  simp only [Option.some.injEq,Prod.mk.injEq] at h1
  obtain ⟨rfl,rfl,rfl,rfl,rfl⟩ := h1
  go_wp2
  refine bodyPost_ret (results_ct rfl _ _ gr 31 #[.bool false,.slice none 0 0,.slice none 0 0,.slice none 0 0] (0,0) _ rfl (pt4_ BR.out _ _ _ _) Tryz.underlying31 rfl (by kernel_rfl)) rfl ?_
  exact ⟨.slice none 0 0,.slice none 0 0,.slice none 0 0,by first|rfl|(simp;done),Kd.S_nil _ _ _ _ _,Kd.S_nil _ _ _ _ _,Kd.R_nil _ _ _ _ _,below_set (below_set (below_set (below_set D3.out GR.out) GR.out) GR.out) GR.out⟩
  | true =>
 have h1 := H1.out
 rw [if_pos rfl] at h1
 clear H1
 obtain ⟨⟨b,p1,p2,p3⟩,E1,h2⟩ := Option.bind_eq_some_iff.1 h1
 clear h1
 obtain ⟨y,E3,h4⟩ := Option.bind_eq_some_iff.1 h2
 clear h2
 have h2 := h4
 have F3 := ak E3
 clear E3 h4
 obtain ⟨q1,E2,h3⟩ := Option.bind_eq_some_iff.1 h2
 clear h2
 simp only [Option.some.injEq,Prod.mk.injEq] at h3
 obtain ⟨rfl,rfl,rfl,rfl,rfl⟩ := h3
 have F1 := ak E1
 have F2 := ak E2
 clear E1 E2
 go_wp2_with ((with_reducible refine gcal_ (f := 31) rfl ?_);refine gz_ (some 24) Tryz.func31 #[.agg #[.bool a0_0,.slice A0_1 l0_1.length c0_1,.slice A0_2 l0_2.length c0_2,.slice A0_3 l0_3.length c0_3]] ?_;refine (spec_l6Copy.calls k a0_0 A0_1 c0_1 l0_1 A0_2 c0_2 l0_2 A0_3 c0_3 l0_3 b p1 p2 p3 _ (Kd.C_below HR1.out D3.out) HC1.out (Kd.C_below HR2.out D3.out) HC2.out (Kd.C_below HR3.out D3.out) HC3.out F1.out).mono ?_;rintro e w4 ⟨v1,v2,v3,rfl,S1,S2,S3,B⟩;refine ⟨_,rfl,?_⟩;refine hold_15 ?_)
 refine ⟨?_⟩
 clear hcgr5_0 hfr5_0 hcgr5_1 hfr5_1 hcgr5_2 hfr5_2 hcgr5_3 hfr5_3 hcga5_0 hcga5_1 hcga5_2 hcga5_3
 have T1 := ak S1
 have T2 := ak S2
 have T3 := ak S3
 have LG := ak (blk_lt BR.out)
 have G := ak B
 have D4 := ak (below_step D3.out B)
 have BR := ak (blk_below BR.out B)
 clear S1 S2 S3 B BM
 obtain ⟨B1,d1,e1_⟩ := Kd.S_slice T1.out
 subst e1_
 obtain ⟨B2,d2,e2_⟩ := Kd.S_slice T2.out
 subst e2_
 obtain ⟨B3,d3,e3_⟩ := Kd.R_slice T3.out
 subst e3_
 go_wp2_with ((with_reducible refine gate_dst (N := 8) rfl ?_);refine bx_ 8 #[.bool false,.slice none 0 0,.slice none 0 0,.slice none 0 0] 31 ?_;intro go hg w5 hbox hb;have hge := ak (Nat.le_of_eq hg.symm);clear hg;refine hold_15 ?_)
 refine ⟨?_⟩
 have BZ := ak hbox
 have Q0 := ak hb
 have HGE := hge
 clear hbox hb hge
 obtain ⟨⟨hcgoy_0, hcgoy_1, hcgoy_2, hcgoy_3⟩, hfy_0, hfy_1, hfy_2, hfy_3⟩ := cl4_ BZ.out
 go_upto_region 4 with (fail)
 obtain ⟨n0_, n1_⟩ := fl4_ Q0.out HGE.out BZ.out (.bool b) (.slice B1 p1.length d1) (.slice B2 p2.length d2) (.slice B3 p3.length d3)
 clear BZ Q0
 clear hcgoy_0 hfy_0 hcgoy_1 hfy_1 hcgoy_2 hfy_2 hcgoy_3 hfy_3
 generalize ((((w5.setCell ⟨go,0,none⟩ (.bool b)).setCell ⟨go,1,none⟩ (.slice B1 p1.length d1)).setCell ⟨go,2,none⟩ (.slice B2 p2.length d2)).setCell ⟨go,3,none⟩ (.slice B3 p3.length d3)) = w6 at n0_ n1_ ⊢
 have B := n0_.out
 have BG := n1_
 clear n0_ n1_
 have T1 := ak (Kd.S_bound (Kd.S_below T1.out B))
 have T2 := ak (Kd.S_bound (Kd.S_below T2.out B))
 have T3 := ak (Kd.R_bound (Kd.R_below T3.out B))
 have GO : Aside0 (w3.heap.size ≤ go) := ⟨Nat.le_trans G.out.size HGE.out⟩
 have G := ak (below_step G.out B)
 have D6 := ak (below_step D4.out B)
 have BR := ak (blk_below BR.out B)
 clear B D4
 have NG : Aside0 (gr ≠ go) := ⟨Nat.ne_of_lt (Nat.lt_of_lt_of_le LG.out GO.out)⟩
 have LGO := ak (blk_lt BG.out)
 have BG6 := BG
 have BR6 := BR
 go_wp2_with ((with_reducible refine gcal_ (f := 60) rfl ?_);refine gz_ (some 27) Tryz.func60 #[.slice A2 l2.length c2] ?_;refine (spec_l3Copy.calls A2 c2 l2 y _ (Kd.C_below HRR.out D6.out) HRC.out F3.out).mono ?_;rintro e w6c ⟨vy,rfl,S,B⟩;refine ⟨_,rfl,?_⟩;refine hold_15 ?_)
 refine ⟨?_⟩
 have TY := ak (Kd.R_lower (Kd.R_bound S) G.out.size)
 have T1 := ak (Kd.S_below T1.out B)
 have T2 := ak (Kd.S_below T2.out B)
 have T3 := ak (Kd.R_below T3.out B)
 have G := ak (below_step G.out B)
 have BG := ak (blk_below BG.out B)
 have BR := ak (blk_below BR.out B)
 clear S B
 obtain ⟨A5,c5,e5_⟩ := Kd.R_slice TY.out
 subst e5_
 go_wp2_with ((with_reducible refine gcal_ (f := 59) rfl ?_);refine gz_ (some 28) Tryz.func59 #[.pointer (some ⟨go,0,none⟩),.int .i64 a1,.slice A5 y.length c5] ?_;refine (spec_l6Replace.calls k (fun k_ => True ∧ w3.heap.size ≤ k_ ∧ k_ < w6.heap.size ∧ ∃ q,q ∈ 83 :: (k83).E ∧ ∃ cells,w6.heap[k_]? = some (.cells cells q (0,0))) (fun k_ => True ∧ w6.heap.size ≤ k_ ∧ k_ < w6c.heap.size ∧ ∃ q,q ∈ 87 :: (k87).E ∧ ∃ cells,w6c.heap[k_]? = some (.cells cells q (0,0))) go b B1 d1 p1 B2 d2 p2 B3 d3 p3 a1 A5 c5 y q1 w3 _ G.out GO.out BG.out (fun hs_ => ty_15 ⟨31,List.mem_singleton.2 rfl,_,BG6.out⟩ hs_.2.2.2 (by decide)) T1.out (Kd.S_reads' T2.out).2.2 (Kd.S_reads' T2.out).2.1 (Kd.R_reads' T3.out).2.2 (Kd.R_reads' T3.out).2.1 TY.out (fun k_ h1_ h2_ => absurd h2_.2.2.1 (Nat.not_lt.2 h1_.2.1)) (fun h_ => absurd LGO.out (Nat.not_lt.2 h_.2.1)) F2.out).mono ?_;rintro e w7 ⟨rfl,B4,d4,BG2,S,B,K⟩;refine ⟨_,rfl,?_⟩;refine hold_15 ?_)
 refine ⟨?_⟩
 have T2 := ak (Kd.S_kept T2.out K (fun k_ hk_ hs_ => hs_.elim (fun h_ => ty_15 hk_.2.2.2 h_.2.2.2 (by decide)) (fun e_ => ty_15 (e_ ▸ hk_.2.2.2) ⟨31,List.mem_singleton.2 rfl,_,BG6.out⟩ (by decide))))
 have T3 := ak (Kd.R_kept T3.out K (fun k_ hk_ hs_ => hs_.elim (fun h_ => ty_15 hk_.2.2.2 h_.2.2.2 (by decide)) (fun e_ => ty_15 (e_ ▸ hk_.2.2.2) ⟨31,List.mem_singleton.2 rfl,_,BG6.out⟩ (by decide))))
 have T1 := ak S
 have BR2 := ak (blk_kept BR.out K (fun hs_ => hs_.elim (fun hs_ => ty_15 ⟨31,List.mem_singleton.2 rfl,_,BR6.out⟩ hs_.2.2.2 (by decide)) NG.out))
 have BG := ak BG2
 have D7 := ak (below_step D3.out B)
 clear S B K BG2 BR
 have BR := BR2
 clear BR2
 have hcgo7_0 : w7.cell? ⟨go,0,none⟩ = some (.bool b) := (blk_cell BG.out 0).trans rfl
 have hcgo7_1 : w7.cell? ⟨go,1,none⟩ = some (.slice B4 q1.length d4) := (blk_cell BG.out 1).trans rfl
 have hcgo7_2 : w7.cell? ⟨go,2,none⟩ = some (.slice B2 p2.length d2) := (blk_cell BG.out 2).trans rfl
 have hcgo7_3 : w7.cell? ⟨go,3,none⟩ = some (.slice B3 p3.length d3) := (blk_cell BG.out 3).trans rfl
 obtain ⟨⟨hcgr7_0,hcgr7_1,hcgr7_2,hcgr7_3⟩,hfr7_0,hfr7_1,hfr7_2,hfr7_3⟩ := cl4_ BR.out
 go_wp2
 refine bodyPost_ret (results_ct rfl _ _ gr 31 #[.bool b,.slice B4 q1.length d4,.slice B2 p2.length d2,.slice B3 p3.length d3] (0,0) _ rfl (pt4_ BR.out _ _ _ _) Tryz.underlying31 rfl (by kernel_rfl)) rfl ?_
 exact ⟨.slice B4 q1.length d4,.slice B2 p2.length d2,.slice B3 p3.length d3,by first|rfl|(simp;done),Kd.S_mono (Kd.S_far (p := ⟨gr,3,none⟩) (Kd.S_far (p := ⟨gr,2,none⟩) (Kd.S_far (p := ⟨gr,1,none⟩) (Kd.S_far (p := ⟨gr,0,none⟩) (Kd.S_types (Kd.S_lower T1.out D3.out.size) BR.out (by decide)) (fun _ h_ => h_.2) (.bool b)) (fun _ h_ => h_.2) (.slice B4 q1.length d4)) (fun _ h_ => h_.2) (.slice B2 p2.length d2)) (fun _ h_ => h_.2) (.slice B3 p3.length d3)) (fun _ _ => trivial),Kd.S_mono (Kd.S_far (p := ⟨gr,3,none⟩) (Kd.S_far (p := ⟨gr,2,none⟩) (Kd.S_far (p := ⟨gr,1,none⟩) (Kd.S_far (p := ⟨gr,0,none⟩) (Kd.S_types (Kd.S_lower T2.out D3.out.size) BR.out (by decide)) (fun _ h_ => h_.2) (.bool b)) (fun _ h_ => h_.2) (.slice B4 q1.length d4)) (fun _ h_ => h_.2) (.slice B2 p2.length d2)) (fun _ h_ => h_.2) (.slice B3 p3.length d3)) (fun _ _ => trivial),Kd.R_mono (Kd.R_far (p := ⟨gr,3,none⟩) (Kd.R_far (p := ⟨gr,2,none⟩) (Kd.R_far (p := ⟨gr,1,none⟩) (Kd.R_far (p := ⟨gr,0,none⟩) (Kd.R_types (Kd.R_lower T3.out D3.out.size) BR.out (by decide)) (fun _ h_ => h_.2) (.bool b)) (fun _ h_ => h_.2) (.slice B4 q1.length d4)) (fun _ h_ => h_.2) (.slice B2 p2.length d2)) (fun _ h_ => h_.2) (.slice B3 p3.length d3)) (fun _ _ => trivial),below_set (below_set (below_set (below_set D7.out GR.out) GR.out) GR.out) GR.out⟩

/-! ### laws_likeCells: function 18 -/
def laws_likeCells.l0 : Nat → List (S87) → List (S87) → Int → Option (Bool)
  | 0, _, _, _ => none
  | k + 1, x0, x1, x5 => if x5 < (x0.length : Int) then (if 0 ≤ x5 then (if x5 < (x1.length : Int) then (if (!(((rd_T87 x0 x5).f0) == ((rd_T87 x1 x5).f0)) || (!(((rd_T87 x0 x5).f1) == ((rd_T87 x1 x5).f1)))) = true then (some false) else (laws_likeCells.l0 k x0 x1 (wrap64 (x5 + 1)))) else (none)) else (none)) else (some true)
def laws_likeCells.f (k : Nat) (l0 : List (S87)) (l1 : List (S87)) : Option (Bool) := if (l0.length : Int) = (l1.length : Int) then (laws_likeCells.l0 k l0 l1 0) else (some false)

theorem laws_likeCells.calls (k : Nat) (A0 : Option Addr) (c0 : Nat) (l0 : List (S87)) (A1 : Option Addr) (c1 : Nat) (l1 : List (S87)) (r : Bool) (w : World) (hr0 : Kd.C k87 w A0 l0.length l0) (hc0 : l0.length ≤ c0) (hr1 : Kd.C k87 w A1 l1.length l1) (hc1 : l1.length ≤ c1) (h : laws_likeCells.f k l0 l1 = some r) :
    Calls Tryz.prog 18 #[.slice A0 l0.length c0, .slice A1 l1.length c1] w fun e w' => e = .returned (.bool r) ∧ Drawn0 w w' := by
 have hu87 := Tryz.underlying87
 have HR0 := ak hr0
 have HC0 := ak hc0
 clear hr0 hc0
 have HR1 := ak hr1
 have HC1 := ak hc1
 clear hr1 hc1
 have H : (if (l0.length : Int) = (l1.length : Int) then (laws_likeCells.l0 k l0 l1 0) else (some false)) = some r := h
 clear h
 by_cases c3 : (l0.length : Int) = (l1.length : Int)
 ·rw [if_pos c3] at H
  have c3b0 : ((l0.length : Int) == (l1.length : Int)) = true := beq_iff_eq.mpr c3
  have c3b1 : ((l0.length : Int) != (l1.length : Int)) = false := bne_eq_false_iff_eq.mpr c3
  have c3b2 : (l0.length == l1.length) = true := by first|simpa using c3|(simp at c3 ⊢;omega)
  clear c3
  have H' := ak H
  clear H
  go_enter Tryz.func18,Tryz.ntmps18
  go_wp2
  repeat (go_quiet (fail);try go_wp2)
  go_loopg [5] k (fun kq v5 w' => ∃ (x5_1 : Int),v5 = .int .i64 x5_1 ∧ Aside0 (laws_likeCells.l0 kq l0 l1 x5_1 = some r) ∧ Aside0 (kq ≤ k) ∧ Drawn0 w w')
  case atStart => exact ⟨(0),rs_,H',⟨Nat.le_refl _⟩,by repeat (first|exact Drawn0.refl _|apply Drawn0.step)⟩
  case round =>
   clear H'
   try clear c1
   try clear p2
   try clear c3
   try clear c3b0
   try clear c3b1
   try clear c3b2
   obtain ⟨x5_1,rfl,HA,HK1,⟨m1,rfl⟩⟩ := hrel
   cases gk with
   | zero => exact absurd HA.out (by simp [laws_likeCells.l0])
   | succ k1 =>
    have H := HA.out
    clear HA
    simp only [laws_likeCells.l0] at H
    by_cases c4 : x5_1 < (l0.length : Int)
    ·rw [if_pos c4] at H
     have c4b0 : decide (x5_1 < (l0.length : Int)) = true := decide_eq_true c4
     clear c4
     by_cases c5 : 0 ≤ x5_1
     ·rw [if_pos c5] at H
      have c5b0 : decide (0 ≤ x5_1) = true := decide_eq_true c5
      clear c5
      by_cases c6 : x5_1 < (l1.length : Int)
      ·rw [if_pos c6] at H
       have c6b0 : decide (x5_1 < (l1.length : Int)) = true := decide_eq_true c6
       clear c6
       by_cases c7 : (!(((rd_T87 l0 x5_1).f0) == ((rd_T87 l1 x5_1).f0)) || (!(((rd_T87 l0 x5_1).f1) == ((rd_T87 l1 x5_1).f1)))) = true
       ·rw [if_pos c7] at H
        have c7b0 : (!(((rd_T87 l0 x5_1).f0) == ((rd_T87 l1 x5_1).f0)) || (!(((rd_T87 l0 x5_1).f1) == ((rd_T87 l1 x5_1).f1)))) = true := c7
        clear c7
        obtain rfl := Option.some.inj H
        have p328 : 0 ≤ (x5_1 : Int) := od_
        have q328 : x5_1 < (l0.length : Int) := od_
        obtain ⟨ad328,e328,hx328_0,hx328_1⟩ := at_T87 HR0.out x5_1 p328 q328
        cases e328
        replace p328 := eq_true p328
        replace q328 := eq_true q328
        have p329 : 0 ≤ (x5_1 : Int) := od_
        have q329 : x5_1 < (l1.length : Int) := od_
        obtain ⟨ad329,e329,hx329_0,hx329_1⟩ := at_T87 HR1.out x5_1 p329 q329
        cases e329
        replace p329 := eq_true p329
        replace q329 := eq_true q329
        go_wp2
        repeat (go_quiet (fail);try go_wp2)
        go_ret
        exact ⟨rs_,by repeat (first|exact Drawn0.refl _|apply Drawn0.step)⟩
       ·rw [if_neg c7] at H
        have c7b0 : (!(((rd_T87 l0 x5_1).f0) == ((rd_T87 l1 x5_1).f0)) || (!(((rd_T87 l0 x5_1).f1) == ((rd_T87 l1 x5_1).f1)))) = false := by simpa using c7
        clear c7
        have H' := ak H
        clear H
        have p328 : 0 ≤ (x5_1 : Int) := od_
        have q328 : x5_1 < (l0.length : Int) := od_
        obtain ⟨ad328,e328,hx328_0,hx328_1⟩ := at_T87 HR0.out x5_1 p328 q328
        cases e328
        replace p328 := eq_true p328
        replace q328 := eq_true q328
        have p329 : 0 ≤ (x5_1 : Int) := od_
        have q329 : x5_1 < (l1.length : Int) := od_
        obtain ⟨ad329,e329,hx329_0,hx329_1⟩ := at_T87 HR1.out x5_1 p329 q329
        cases e329
        replace p329 := eq_true p329
        replace q329 := eq_true q329
        go_wp2
        repeat (go_quiet (fail);try go_wp2)
        go_roundg k1
        case measure => have := HK1.out;omega
        case rel => exact ⟨(wrap64 (x5_1 + 1)),rs_,H',⟨by have := HK1.out;omega⟩,by repeat (first|exact Drawn0.refl _|apply Drawn0.step)⟩
      ·rw [if_neg c6] at H
       exact absurd H (by simp)
     ·rw [if_neg c5] at H
      exact absurd H (by simp)
    ·rw [if_neg c4] at H
     have c4b0 : decide (x5_1 < (l0.length : Int)) = false := decide_eq_false c4
     clear c4
     obtain rfl := Option.some.inj H
     go_wp2
     repeat (go_quiet (fail);try go_wp2)
     go_ret
     exact ⟨rs_,by repeat (first|exact Drawn0.refl _|apply Drawn0.step)⟩
 ·rw [if_neg c3] at H
  have c3b0 : ((l0.length : Int) == (l1.length : Int)) = false := beq_eq_false_iff_ne.mpr c3
  have c3b1 : ((l0.length : Int) != (l1.length : Int)) = true := bne_iff_ne.mpr c3
  have c3b2 : (l0.length == l1.length) = false := by first|simpa using c3|(simp at c3 ⊢;omega)
  obtain rfl := Option.some.inj H
  go_enter Tryz.func18,Tryz.ntmps18
  go_wp2
  repeat (go_quiet (fail);try go_wp2)
  go_ret
  exact ⟨rs_,by repeat (first|exact Drawn0.refl _|apply Drawn0.step)⟩

/-! ### laws_likeInts: function 24 -/
def laws_likeInts.l0 : Nat → List Int → List Int → Int → Option (Bool)
  | 0, _, _, _ => none
  | k + 1, x0, x1, x5 => if x5 < (x0.length : Int) then (if 0 ≤ x5 then (if x5 < (x1.length : Int) then (if (rd x0 x5) = (rd x1 x5) then (laws_likeInts.l0 k x0 x1 (wrap64 (x5 + 1))) else (some false)) else (none)) else (none)) else (some true)
def laws_likeInts.f (k : Nat) (l0 : List Int) (l1 : List Int) : Option (Bool) := if (l0.length : Int) = (l1.length : Int) then (laws_likeInts.l0 k l0 l1 0) else (some false)

theorem laws_likeInts.calls (k : Nat) (A0 : Option Addr) (c0 : Nat) (l0 : List Int) (A1 : Option Addr) (c1 : Nat) (l1 : List Int) (r : Bool) (w : World) (hr0 : Kd.C (Kd.int .i64) w A0 l0.length l0) (hc0 : l0.length ≤ c0) (hr1 : Kd.C (Kd.int .i64) w A1 l1.length l1) (hc1 : l1.length ≤ c1) (h : laws_likeInts.f k l0 l1 = some r) :
    Calls Tryz.prog 24 #[.slice A0 l0.length c0, .slice A1 l1.length c1] w fun e w' => e = .returned (.bool r) ∧ Drawn0 w w' := by
 have HR0 := ak hr0
 have HC0 := ak hc0
 clear hr0 hc0
 have HR1 := ak hr1
 have HC1 := ak hc1
 clear hr1 hc1
 have H : (if (l0.length : Int) = (l1.length : Int) then (laws_likeInts.l0 k l0 l1 0) else (some false)) = some r := h
 clear h
 by_cases c3 : (l0.length : Int) = (l1.length : Int)
 ·rw [if_pos c3] at H
  have c3b0 : ((l0.length : Int) == (l1.length : Int)) = true := beq_iff_eq.mpr c3
  have c3b1 : ((l0.length : Int) != (l1.length : Int)) = false := bne_eq_false_iff_eq.mpr c3
  have c3b2 : (l0.length == l1.length) = true := by first|simpa using c3|(simp at c3 ⊢;omega)
  clear c3
  have H' := ak H
  clear H
  go_enter Tryz.func24,Tryz.ntmps24
  go_wp2
  repeat (go_quiet (fail);try go_wp2)
  go_loopg [5] k (fun kq v5 w' => ∃ (x5_1 : Int),v5 = .int .i64 x5_1 ∧ Aside0 (laws_likeInts.l0 kq l0 l1 x5_1 = some r) ∧ Aside0 (kq ≤ k) ∧ Drawn0 w w')
  case atStart => exact ⟨(0),rs_,H',⟨Nat.le_refl _⟩,by repeat (first|exact Drawn0.refl _|apply Drawn0.step)⟩
  case round =>
   clear H'
   try clear c1
   try clear c2
   try clear p2
   try clear c3
   try clear c3b0
   try clear c3b1
   try clear c3b2
   obtain ⟨x5_1,rfl,HA,HK1,⟨m1,rfl⟩⟩ := hrel
   cases gk with
   | zero => exact absurd HA.out (by simp [laws_likeInts.l0])
   | succ k1 =>
    have H := HA.out
    clear HA
    simp only [laws_likeInts.l0] at H
    by_cases c4 : x5_1 < (l0.length : Int)
    ·rw [if_pos c4] at H
     have c4b0 : decide (x5_1 < (l0.length : Int)) = true := decide_eq_true c4
     clear c4
     by_cases c5 : 0 ≤ x5_1
     ·rw [if_pos c5] at H
      have c5b0 : decide (0 ≤ x5_1) = true := decide_eq_true c5
      clear c5
      by_cases c6 : x5_1 < (l1.length : Int)
      ·rw [if_pos c6] at H
       have c6b0 : decide (x5_1 < (l1.length : Int)) = true := decide_eq_true c6
       clear c6
       by_cases c7 : (rd l0 x5_1) = (rd l1 x5_1)
       ·rw [if_pos c7] at H
        have c7b0 : ((rd l0 x5_1) == (rd l1 x5_1)) = true := beq_iff_eq.mpr c7
        have c7b1 : ((rd l0 x5_1) != (rd l1 x5_1)) = false := bne_eq_false_iff_eq.mpr c7
        clear c7
        have H' := ak H
        clear H
        have p330 : 0 ≤ (x5_1 : Int) := od_
        have q330 : x5_1 < (l0.length : Int) := od_
        obtain ⟨ad330,e330,hx330_0⟩ := Kd.at_int HR0.out x5_1 p330 q330
        cases e330
        replace p330 := eq_true p330
        replace q330 := eq_true q330
        have p331 : 0 ≤ (x5_1 : Int) := od_
        have q331 : x5_1 < (l1.length : Int) := od_
        obtain ⟨ad331,e331,hx331_0⟩ := Kd.at_int HR1.out x5_1 p331 q331
        cases e331
        replace p331 := eq_true p331
        replace q331 := eq_true q331
        go_wp2
        repeat (go_quiet (fail);try go_wp2)
        go_roundg k1
        case measure => have := HK1.out;omega
        case rel => exact ⟨(wrap64 (x5_1 + 1)),rs_,H',⟨by have := HK1.out;omega⟩,by repeat (first|exact Drawn0.refl _|apply Drawn0.step)⟩
       ·rw [if_neg c7] at H
        have c7b0 : ((rd l0 x5_1) == (rd l1 x5_1)) = false := beq_eq_false_iff_ne.mpr c7
        have c7b1 : ((rd l0 x5_1) != (rd l1 x5_1)) = true := bne_iff_ne.mpr c7
        obtain rfl := Option.some.inj H
        have p330 : 0 ≤ (x5_1 : Int) := od_
        have q330 : x5_1 < (l0.length : Int) := od_
        obtain ⟨ad330,e330,hx330_0⟩ := Kd.at_int HR0.out x5_1 p330 q330
        cases e330
        replace p330 := eq_true p330
        replace q330 := eq_true q330
        have p331 : 0 ≤ (x5_1 : Int) := od_
        have q331 : x5_1 < (l1.length : Int) := od_
        obtain ⟨ad331,e331,hx331_0⟩ := Kd.at_int HR1.out x5_1 p331 q331
        cases e331
        replace p331 := eq_true p331
        replace q331 := eq_true q331
        go_wp2
        repeat (go_quiet (fail);try go_wp2)
        go_ret
        exact ⟨rs_,by repeat (first|exact Drawn0.refl _|apply Drawn0.step)⟩
      ·rw [if_neg c6] at H
       exact absurd H (by simp)
     ·rw [if_neg c5] at H
      exact absurd H (by simp)
    ·rw [if_neg c4] at H
     have c4b0 : decide (x5_1 < (l0.length : Int)) = false := decide_eq_false c4
     clear c4
     obtain rfl := Option.some.inj H
     go_wp2
     repeat (go_quiet (fail);try go_wp2)
     go_ret
     exact ⟨rs_,by repeat (first|exact Drawn0.refl _|apply Drawn0.step)⟩
 ·rw [if_neg c3] at H
  have c3b0 : ((l0.length : Int) == (l1.length : Int)) = false := beq_eq_false_iff_ne.mpr c3
  have c3b1 : ((l0.length : Int) != (l1.length : Int)) = true := bne_iff_ne.mpr c3
  have c3b2 : (l0.length == l1.length) = false := by first|simpa using c3|(simp at c3 ⊢;omega)
  obtain rfl := Option.some.inj H
  go_enter Tryz.func24,Tryz.ntmps24
  go_wp2
  repeat (go_quiet (fail);try go_wp2)
  go_ret
  exact ⟨rs_,by repeat (first|exact Drawn0.refl _|apply Drawn0.step)⟩

/-! ### laws_likeSets: function 109 -/
def laws_likeSets.l0 : Nat → List (S119) → List (S119) → Int → Option (Bool)
  | 0, _, _, _ => none
  | k + 1, x0, x1, x5 => if x5 < (x0.length : Int) then (if 0 ≤ x5 then (if x5 < (x1.length : Int) then (if (!(((rd_T119 x0 x5).f0) == ((rd_T119 x1 x5).f0)) || (!(((rd_T119 x0 x5).f1) == ((rd_T119 x1 x5).f1)) || (!(((rd_T119 x0 x5).f2) == ((rd_T119 x1 x5).f2)) || (!(((rd_T119 x0 x5).f3) == ((rd_T119 x1 x5).f3)) || (!(((rd_T119 x0 x5).f4) == ((rd_T119 x1 x5).f4))))))) = true then (some false) else (laws_likeSets.l0 k x0 x1 (wrap64 (x5 + 1)))) else (none)) else (none)) else (some true)
def laws_likeSets.f (k : Nat) (l0 : List (S119)) (l1 : List (S119)) : Option (Bool) := if (l0.length : Int) = (l1.length : Int) then (laws_likeSets.l0 k l0 l1 0) else (some false)

theorem laws_likeSets.calls (k : Nat) (A0 : Option Addr) (c0 : Nat) (l0 : List (S119)) (A1 : Option Addr) (c1 : Nat) (l1 : List (S119)) (r : Bool) (w : World) (hr0 : Kd.C k119 w A0 l0.length l0) (hc0 : l0.length ≤ c0) (hr1 : Kd.C k119 w A1 l1.length l1) (hc1 : l1.length ≤ c1) (h : laws_likeSets.f k l0 l1 = some r) :
    Calls Tryz.prog 109 #[.slice A0 l0.length c0, .slice A1 l1.length c1] w fun e w' => e = .returned (.bool r) ∧ Drawn0 w w' := by
 have hu119 := Tryz.underlying119
 have HR0 := ak hr0
 have HC0 := ak hc0
 clear hr0 hc0
 have HR1 := ak hr1
 have HC1 := ak hc1
 clear hr1 hc1
 have H : (if (l0.length : Int) = (l1.length : Int) then (laws_likeSets.l0 k l0 l1 0) else (some false)) = some r := h
 clear h
 by_cases c3 : (l0.length : Int) = (l1.length : Int)
 ·rw [if_pos c3] at H
  have c3b0 : ((l0.length : Int) == (l1.length : Int)) = true := beq_iff_eq.mpr c3
  have c3b1 : ((l0.length : Int) != (l1.length : Int)) = false := bne_eq_false_iff_eq.mpr c3
  have c3b2 : (l0.length == l1.length) = true := by first|simpa using c3|(simp at c3 ⊢;omega)
  clear c3
  have H' := ak H
  clear H
  go_enter Tryz.func109,Tryz.ntmps109
  go_wp2
  repeat (go_quiet (fail);try go_wp2)
  go_loopg [5] k (fun kq v5 w' => ∃ (x5_1 : Int),v5 = .int .i64 x5_1 ∧ Aside0 (laws_likeSets.l0 kq l0 l1 x5_1 = some r) ∧ Aside0 (kq ≤ k) ∧ Drawn0 w w')
  case atStart => exact ⟨(0),rs_,H',⟨Nat.le_refl _⟩,by repeat (first|exact Drawn0.refl _|apply Drawn0.step)⟩
  case round =>
   clear H'
   try clear c1
   try clear p2
   try clear c3
   try clear c3b0
   try clear c3b1
   try clear c3b2
   obtain ⟨x5_1,rfl,HA,HK1,⟨m1,rfl⟩⟩ := hrel
   cases gk with
   | zero => exact absurd HA.out (by simp [laws_likeSets.l0])
   | succ k1 =>
    have H := HA.out
    clear HA
    simp only [laws_likeSets.l0] at H
    by_cases c4 : x5_1 < (l0.length : Int)
    ·rw [if_pos c4] at H
     have c4b0 : decide (x5_1 < (l0.length : Int)) = true := decide_eq_true c4
     clear c4
     by_cases c5 : 0 ≤ x5_1
     ·rw [if_pos c5] at H
      have c5b0 : decide (0 ≤ x5_1) = true := decide_eq_true c5
      clear c5
      by_cases c6 : x5_1 < (l1.length : Int)
      ·rw [if_pos c6] at H
       have c6b0 : decide (x5_1 < (l1.length : Int)) = true := decide_eq_true c6
       clear c6
       by_cases c7 : (!(((rd_T119 l0 x5_1).f0) == ((rd_T119 l1 x5_1).f0)) || (!(((rd_T119 l0 x5_1).f1) == ((rd_T119 l1 x5_1).f1)) || (!(((rd_T119 l0 x5_1).f2) == ((rd_T119 l1 x5_1).f2)) || (!(((rd_T119 l0 x5_1).f3) == ((rd_T119 l1 x5_1).f3)) || (!(((rd_T119 l0 x5_1).f4) == ((rd_T119 l1 x5_1).f4))))))) = true
       ·rw [if_pos c7] at H
        have c7b0 : (!(((rd_T119 l0 x5_1).f0) == ((rd_T119 l1 x5_1).f0)) || (!(((rd_T119 l0 x5_1).f1) == ((rd_T119 l1 x5_1).f1)) || (!(((rd_T119 l0 x5_1).f2) == ((rd_T119 l1 x5_1).f2)) || (!(((rd_T119 l0 x5_1).f3) == ((rd_T119 l1 x5_1).f3)) || (!(((rd_T119 l0 x5_1).f4) == ((rd_T119 l1 x5_1).f4))))))) = true := c7
        clear c7
        obtain rfl := Option.some.inj H
        have p332 : 0 ≤ (x5_1 : Int) := od_
        have q332 : x5_1 < (l0.length : Int) := od_
        obtain ⟨ad332,e332,hx332_0,hx332_1,hx332_2,hx332_3,hx332_4⟩ := at_T119 HR0.out x5_1 p332 q332
        cases e332
        replace p332 := eq_true p332
        replace q332 := eq_true q332
        have p333 : 0 ≤ (x5_1 : Int) := od_
        have q333 : x5_1 < (l1.length : Int) := od_
        obtain ⟨ad333,e333,hx333_0,hx333_1,hx333_2,hx333_3,hx333_4⟩ := at_T119 HR1.out x5_1 p333 q333
        cases e333
        replace p333 := eq_true p333
        replace q333 := eq_true q333
        go_wp2
        repeat (go_quiet (fail);try go_wp2)
        go_ret
        exact ⟨rs_,by repeat (first|exact Drawn0.refl _|apply Drawn0.step)⟩
       ·rw [if_neg c7] at H
        have c7b0 : (!(((rd_T119 l0 x5_1).f0) == ((rd_T119 l1 x5_1).f0)) || (!(((rd_T119 l0 x5_1).f1) == ((rd_T119 l1 x5_1).f1)) || (!(((rd_T119 l0 x5_1).f2) == ((rd_T119 l1 x5_1).f2)) || (!(((rd_T119 l0 x5_1).f3) == ((rd_T119 l1 x5_1).f3)) || (!(((rd_T119 l0 x5_1).f4) == ((rd_T119 l1 x5_1).f4))))))) = false := by simpa using c7
        clear c7
        have H' := ak H
        clear H
        have p332 : 0 ≤ (x5_1 : Int) := od_
        have q332 : x5_1 < (l0.length : Int) := od_
        obtain ⟨ad332,e332,hx332_0,hx332_1,hx332_2,hx332_3,hx332_4⟩ := at_T119 HR0.out x5_1 p332 q332
        cases e332
        replace p332 := eq_true p332
        replace q332 := eq_true q332
        have p333 : 0 ≤ (x5_1 : Int) := od_
        have q333 : x5_1 < (l1.length : Int) := od_
        obtain ⟨ad333,e333,hx333_0,hx333_1,hx333_2,hx333_3,hx333_4⟩ := at_T119 HR1.out x5_1 p333 q333
        cases e333
        replace p333 := eq_true p333
        replace q333 := eq_true q333
        go_wp2
        repeat (go_quiet (fail);try go_wp2)
        go_roundg k1
        case measure => have := HK1.out;omega
        case rel => exact ⟨(wrap64 (x5_1 + 1)),rs_,H',⟨by have := HK1.out;omega⟩,by repeat (first|exact Drawn0.refl _|apply Drawn0.step)⟩
      ·rw [if_neg c6] at H
       exact absurd H (by simp)
     ·rw [if_neg c5] at H
      exact absurd H (by simp)
    ·rw [if_neg c4] at H
     have c4b0 : decide (x5_1 < (l0.length : Int)) = false := decide_eq_false c4
     clear c4
     obtain rfl := Option.some.inj H
     go_wp2
     repeat (go_quiet (fail);try go_wp2)
     go_ret
     exact ⟨rs_,by repeat (first|exact Drawn0.refl _|apply Drawn0.step)⟩
 ·rw [if_neg c3] at H
  have c3b0 : ((l0.length : Int) == (l1.length : Int)) = false := beq_eq_false_iff_ne.mpr c3
  have c3b1 : ((l0.length : Int) != (l1.length : Int)) = true := bne_iff_ne.mpr c3
  have c3b2 : (l0.length == l1.length) = false := by first|simpa using c3|(simp at c3 ⊢;omega)
  obtain rfl := Option.some.inj H
  go_enter Tryz.func109,Tryz.ntmps109
  go_wp2
  repeat (go_quiet (fail);try go_wp2)
  go_ret
  exact ⟨rs_,by repeat (first|exact Drawn0.refl _|apply Drawn0.step)⟩

/-! ### laws_likeRecord: function 61 -/
def laws_likeRecord.f (k : Nat) (a0_0 : Int) (a0_1 : Int) (a0_2 : Int) (l0_3 : List (S119)) (a1_0 : Int) (a1_1 : Int) (a1_2 : Int) (l1_3 : List (S119)) : Option (Bool) := if a0_0 = a1_0 then (if a0_1 = a1_1 then (if a0_2 = a1_2 then ((laws_likeSets.f k l0_3 l1_3).bind fun t336 => (some t336)) else (some false)) else (some false)) else (some false)

theorem laws_likeRecord.calls (k : Nat) (a0_0 : Int) (a0_1 : Int) (a0_2 : Int) (A0_3 : Option Addr) (c0_3 : Nat) (l0_3 : List (S119)) (a1_0 : Int) (a1_1 : Int) (a1_2 : Int) (A1_3 : Option Addr) (c1_3 : Nat) (l1_3 : List (S119)) (r : Bool) (w : World) (hr0_3 : Kd.C k119 w A0_3 l0_3.length l0_3) (hc0_3 : l0_3.length ≤ c0_3) (hr1_3 : Kd.C k119 w A1_3 l1_3.length l1_3) (hc1_3 : l1_3.length ≤ c1_3) (h : laws_likeRecord.f k a0_0 a0_1 a0_2 l0_3 a1_0 a1_1 a1_2 l1_3 = some r) :
    Calls Tryz.prog 61 #[.agg #[.int .i64 a0_0, .int .i64 a0_1, .int .i64 a0_2, .slice A0_3 l0_3.length c0_3], .agg #[.int .i64 a1_0, .int .i64 a1_1, .int .i64 a1_2, .slice A1_3 l1_3.length c1_3]] w fun e w' => e = .returned (.bool r) ∧ Below w.heap.size w w' := by
 have hu50 := Tryz.underlying50
 have HR0_3 := ak hr0_3
 have HC0_3 := ak hc0_3
 clear hr0_3 hc0_3
 have HR1_3 := ak hr1_3
 have HC1_3 := ak hc1_3
 clear hr1_3 hc1_3
 have HB := ak (Below.refl w.heap.size w)
 have H : (if a0_0 = a1_0 then (if a0_1 = a1_1 then (if a0_2 = a1_2 then ((laws_likeSets.f k l0_3 l1_3).bind fun t336 => (some t336)) else (some false)) else (some false)) else (some false)) = some r := h
 clear h
 by_cases c3 : a0_0 = a1_0
 ·rw [if_pos c3] at H
  have c3b0 : (a0_0 == a1_0) = true := beq_iff_eq.mpr c3
  have c3b1 : (a0_0 != a1_0) = false := bne_eq_false_iff_eq.mpr c3
  clear c3
  by_cases c4 : a0_1 = a1_1
  ·rw [if_pos c4] at H
   have c4b0 : (a0_1 == a1_1) = true := beq_iff_eq.mpr c4
   have c4b1 : (a0_1 != a1_1) = false := bne_eq_false_iff_eq.mpr c4
   clear c4
   by_cases c5 : a0_2 = a1_2
   ·rw [if_pos c5] at H
    have c5b0 : (a0_2 == a1_2) = true := beq_iff_eq.mpr c5
    have c5b1 : (a0_2 != a1_2) = false := bne_eq_false_iff_eq.mpr c5
    clear c5
    replace H := bs_ H
    obtain ⟨t336,A6,H⟩ := H
    obtain rfl := Option.some.inj H
    go_enter Tryz.func61,Tryz.ntmps61
    go_wp2_with (first|((with_reducible refine gate_dst (N := 2) rfl ?_);refine bx_ 2 #[.int .i64 a0_0,.int .i64 a0_1,.int .i64 a0_2,.slice A0_3 l0_3.length c0_3] 50 ?_;intro gb334 hg w7 hbox hb;replace HB := nb_ hg hbox hb;obtain ⟨BK334,GW334,GE334,HB⟩ := HB;clear hb hbox hg)|((with_reducible refine gate_dst (N := 3) rfl ?_);refine bx_ 3 #[.int .i64 a1_0,.int .i64 a1_1,.int .i64 a1_2,.slice A1_3 l1_3.length c1_3] 50 ?_;intro gb335 hg w8 hbox hb;replace HB := nb_ hg hbox hb;obtain ⟨BK335,GW335,GE335,HB⟩ := HB;have NB334_335 := ak ((nl_ BK334 hg));have NB335_334 := ak ((ng_ BK334 hg));replace BK334 := ak (blk_below (kb_ BK334) hb);clear hb hbox hg;have hnb9 := NB334_335.out;have hnc9 := NB335_334.out;obtain ⟨⟨hcz10_0,hcz10_1,hcz10_2,hcz10_3⟩,hfz10_0,hfz10_1,hfz10_2,hfz10_3⟩ := cl4_ BK334.out;obtain ⟨⟨hcz11_0,hcz11_1,hcz11_2,hcz11_3⟩,hfz11_0,hfz11_1,hfz11_2,hfz11_3⟩ := cl4_ BK335.out)|(go_at_call 109;(with_reducible refine (laws_likeSets.calls k _ _ l0_3 _ _ l1_3 t336 _ ?side1 ?side2 ?side3 ?side4 A6.out).mono ?_);(case side1 => exact cb_ HR0_3);(case side2 => exact HC0_3.out);(case side3 => exact cb_ HR1_3);(case side4 => exact HC1_3.out);rintro e w' ⟨rfl,⟨nd,rfl⟩⟩))
    go_ret
    exact ⟨rf_,b_⟩
   ·rw [if_neg c5] at H
    have c5b0 : (a0_2 == a1_2) = false := beq_eq_false_iff_ne.mpr c5
    have c5b1 : (a0_2 != a1_2) = true := bne_iff_ne.mpr c5
    obtain rfl := Option.some.inj H
    go_enter Tryz.func61,Tryz.ntmps61
    go_wp2_with (first|((with_reducible refine gate_dst (N := 2) rfl ?_);refine bx_ 2 #[.int .i64 a0_0,.int .i64 a0_1,.int .i64 a0_2,.slice A0_3 l0_3.length c0_3] 50 ?_;intro gb334 hg w12 hbox hb;replace HB := nb_ hg hbox hb;obtain ⟨BK334,GW334,GE334,HB⟩ := HB;clear hb hbox hg)|((with_reducible refine gate_dst (N := 3) rfl ?_);refine bx_ 3 #[.int .i64 a1_0,.int .i64 a1_1,.int .i64 a1_2,.slice A1_3 l1_3.length c1_3] 50 ?_;intro gb335 hg w13 hbox hb;replace HB := nb_ hg hbox hb;obtain ⟨BK335,GW335,GE335,HB⟩ := HB;have NB334_335 := ak ((nl_ BK334 hg));have NB335_334 := ak ((ng_ BK334 hg));replace BK334 := ak (blk_below (kb_ BK334) hb);clear hb hbox hg;have hnb14 := NB334_335.out;have hnc14 := NB335_334.out;obtain ⟨⟨hcz15_0,hcz15_1,hcz15_2,hcz15_3⟩,hfz15_0,hfz15_1,hfz15_2,hfz15_3⟩ := cl4_ BK334.out;obtain ⟨⟨hcz16_0,hcz16_1,hcz16_2,hcz16_3⟩,hfz16_0,hfz16_1,hfz16_2,hfz16_3⟩ := cl4_ BK335.out))
    go_ret
    exact ⟨rf_,b_⟩
  ·rw [if_neg c4] at H
   have c4b0 : (a0_1 == a1_1) = false := beq_eq_false_iff_ne.mpr c4
   have c4b1 : (a0_1 != a1_1) = true := bne_iff_ne.mpr c4
   obtain rfl := Option.some.inj H
   go_enter Tryz.func61,Tryz.ntmps61
   go_wp2_with (first|((with_reducible refine gate_dst (N := 2) rfl ?_);refine bx_ 2 #[.int .i64 a0_0,.int .i64 a0_1,.int .i64 a0_2,.slice A0_3 l0_3.length c0_3] 50 ?_;intro gb334 hg w17 hbox hb;replace HB := nb_ hg hbox hb;obtain ⟨BK334,GW334,GE334,HB⟩ := HB;clear hb hbox hg)|((with_reducible refine gate_dst (N := 3) rfl ?_);refine bx_ 3 #[.int .i64 a1_0,.int .i64 a1_1,.int .i64 a1_2,.slice A1_3 l1_3.length c1_3] 50 ?_;intro gb335 hg w18 hbox hb;replace HB := nb_ hg hbox hb;obtain ⟨BK335,GW335,GE335,HB⟩ := HB;have NB334_335 := ak ((nl_ BK334 hg));have NB335_334 := ak ((ng_ BK334 hg));replace BK334 := ak (blk_below (kb_ BK334) hb);clear hb hbox hg;have hnb19 := NB334_335.out;have hnc19 := NB335_334.out;obtain ⟨⟨hcz20_0,hcz20_1,hcz20_2,hcz20_3⟩,hfz20_0,hfz20_1,hfz20_2,hfz20_3⟩ := cl4_ BK334.out;obtain ⟨⟨hcz21_0,hcz21_1,hcz21_2,hcz21_3⟩,hfz21_0,hfz21_1,hfz21_2,hfz21_3⟩ := cl4_ BK335.out))
   go_ret
   exact ⟨rf_,b_⟩
 ·rw [if_neg c3] at H
  have c3b0 : (a0_0 == a1_0) = false := beq_eq_false_iff_ne.mpr c3
  have c3b1 : (a0_0 != a1_0) = true := bne_iff_ne.mpr c3
  obtain rfl := Option.some.inj H
  go_enter Tryz.func61,Tryz.ntmps61
  go_wp2_with (first|((with_reducible refine gate_dst (N := 2) rfl ?_);refine bx_ 2 #[.int .i64 a0_0,.int .i64 a0_1,.int .i64 a0_2,.slice A0_3 l0_3.length c0_3] 50 ?_;intro gb334 hg w22 hbox hb;replace HB := nb_ hg hbox hb;obtain ⟨BK334,GW334,GE334,HB⟩ := HB;clear hb hbox hg)|((with_reducible refine gate_dst (N := 3) rfl ?_);refine bx_ 3 #[.int .i64 a1_0,.int .i64 a1_1,.int .i64 a1_2,.slice A1_3 l1_3.length c1_3] 50 ?_;intro gb335 hg w23 hbox hb;replace HB := nb_ hg hbox hb;obtain ⟨BK335,GW335,GE335,HB⟩ := HB;have NB334_335 := ak ((nl_ BK334 hg));have NB335_334 := ak ((ng_ BK334 hg));replace BK334 := ak (blk_below (kb_ BK334) hb);clear hb hbox hg;have hnb24 := NB334_335.out;have hnc24 := NB335_334.out;obtain ⟨⟨hcz25_0,hcz25_1,hcz25_2,hcz25_3⟩,hfz25_0,hfz25_1,hfz25_2,hfz25_3⟩ := cl4_ BK334.out;obtain ⟨⟨hcz26_0,hcz26_1,hcz26_2,hcz26_3⟩,hfz26_0,hfz26_1,hfz26_2,hfz26_3⟩ := cl4_ BK335.out))
  go_ret
  exact ⟨rf_,b_⟩

end Go.Proofs.YthplaakckfhaaaaGreat.XMs
