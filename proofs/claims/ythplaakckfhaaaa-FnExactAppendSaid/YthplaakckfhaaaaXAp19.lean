/- Proved: of each Go function here that a call comes to what the Lean function of its name tells. Written by a program of this session over the translation. No conditions beyond each theorem's own. -/
import Derived.Test.YthplaakckfhaaaaXAp0
import Derived.Test.YthplaakckfhaaaaXAp15
import Derived.Test.YthplaakckfhaaaaXAp16
import Derived.Test.YthplaakckfhaaaaXAp17
import Derived.Test.YthplaakckfhaaaaXAp18
namespace Go.Proofs.Ythplaakckfhaaaa.XAp
open Go.RowKit Go.Proofs.Ythplaakckfhaaaa.Aid Go.Proofs.YthplaakckfhaaaaW.PrintWords Go.Proofs.YthplaakckfhaaaaW.PrintLast Go.Proofs.YthplaakckfhaaaaW.PrintMore
set_option linter.unusedVariables false
set_option linter.unusedSimpArgs false

/-! ### impl_Machine_append: function 77 -/
theorem hold_77 {p : Prop} (h : Aside0 p) : p := h.out
def impl_Machine_append.f (p2 : List (S45)) (n0 n1 n2 : Int) (nl : List (S127)) : Option (List (S45)) := (impl_cloneRecord.f n0 n1 n2 nl).bind fun c => if p2.length < 2932031007402 then some (p2 ++ [(⟨c.1, c.2.1, c.2.2.1, c.2.2.2⟩ : S45)]) else none
set_option maxHeartbeats 8000000 in
set_option maxRecDepth 100000 in
theorem impl_Machine_append.calls (P0_ : Nat → Prop) (gb : Nat) (b : Bool) (s1 s3 : Value) (A2 : Option Addr) (c2 : Nat) (p2 : List (S45)) (n0 n1 n2 : Int) (Ar : Option Addr) (cr : Nat) (nl : List (S127)) (r : List (S45)) (w0 w : World) (hB : Below w0.heap.size w0 w) (hg0 : w0.heap.size ≤ gb) (hx : w.heap[gb]? = some (.cells #[.bool b, s1, .slice A2 p2.length c2, s3] 32 (0, 0))) (hP : ¬ P0_ gb) (ho : Kd.S k45 45 w w0.heap.size P0_ (.slice A2 p2.length c2) p2) (hr : Kd.C k127 w Ar nl.length nl) (hc : nl.length ≤ cr) (h : impl_Machine_append.f p2 n0 n1 n2 nl = some r) :
    Calls Try.prog 77 #[.pointer (some ⟨gb, 0, none⟩), .agg #[.int .i64 n0, .int .i64 n1, .int .i64 n2, .slice Ar nl.length cr]] w fun e w' => e = .returned (.tuple #[]) ∧ ∃ (A4 : Option Addr) (c4 : Nat), w'.heap[gb]? = some (.cells #[.bool b, s1, .slice A4 r.length c4, s3] 32 (0, 0)) ∧ Kd.S k45 45 w' w0.heap.size (fun k_ => (P0_ k_ ∨ w.heap.size ≤ k_) ∧ k_ ≠ gb) (.slice A4 r.length c4) r ∧ Below w0.heap.size w0 w' ∧ Kept w w' (fun k_ => P0_ k_ ∨ k_ = gb) := by
 have hu := Try.underlying32
 have hu2 := Try.underlying45
 obtain ⟨⟨e0,e1,e2,e3⟩,E0,h1⟩ := Option.bind_eq_some_iff.1 h
 clear h
 have FC := Aside0.mk E0
 clear E0
 by_cases lm : p2.length < 2932031007402
 rotate_left
 ·rw [if_neg lm] at h1;cases h1
 rw [if_pos lm] at h1
 have LM := Aside0.mk lm
 clear lm
 obtain rfl := Option.some.inj h1
 clear h1
 have BG := Aside0.mk hx
 have T2 := Aside0.mk (Kd.S_mono (ok' := fun k_ => P0_ k_ ∧ k_ < w.heap.size) (Kd.S_bound ho) (fun _ h_ => ⟨h_.1,h_.2.2.1⟩))
 have HB := Aside0.mk hB
 have HP := Aside0.mk hP
 have HG := Aside0.mk hg0
 have HRR := Aside0.mk hr
 have HRC := Aside0.mk hc
 have HK := Aside0.mk (Kept.refl w (fun k_ => P0_ k_ ∨ k_ = gb))
 clear hx ho hB hP hg0 hr hc
 go_enter Try.func77,Try.ntmps77
 go_wp2_with ((with_reducible refine gate_dst (N := 3) rfl ?_);refine bx_ 3 #[.int .i64 n0,.int .i64 n1,.int .i64 n2,.slice Ar nl.length cr] 45 ?_;intro ge hg w1 hbox hb;have hge := Aside0.mk (Nat.le_of_eq hg.symm);clear hg;refine hold_77 ?_)
 refine ⟨?_⟩
 have BE := Aside0.mk hbox
 have BG := Aside0.mk (blk_below BG.out hb)
 have T2 := Aside0.mk (Kd.S_below T2.out hb)
 have HRR := Aside0.mk (Kd.C_below HRR.out hb)
 have HB := Aside0.mk (below_step HB.out hb)
 have HK := Aside0.mk (HK.out.below hb)
 have HGE := hge
 clear hbox hb hge
 go_upto_region 1 with (fail)
 have B : Below w1.heap.size w1 w1.drew := below_drew1 (Below.refl _ _)
 have BE := Aside0.mk (blk_below BE.out B)
 have BG := Aside0.mk (blk_below BG.out B)
 have T2 := Aside0.mk (Kd.S_below T2.out B)
 have HRR := Aside0.mk (Kd.C_below HRR.out B)
 have HB := Aside0.mk (below_step HB.out B)
 have HK := Aside0.mk (HK.out.below B)
 clear B
 refine start_ (n := 12) (S := fun w' => w'.cell? ⟨gb,0,none⟩ = some (.bool b) ∧ w'.cell? ⟨gb,1,none⟩ = some (s1) ∧ w'.cell? ⟨gb,2,none⟩ = some (.slice A2 p2.length c2) ∧ w'.cell? ⟨gb,3,none⟩ = some (s3) ∧ w'.cell? ⟨ge,0,none⟩ = some (.int .i64 n0) ∧ w'.cell? ⟨ge,1,none⟩ = some (.int .i64 n1) ∧ w'.cell? ⟨ge,2,none⟩ = some (.int .i64 n2) ∧ w'.cell? ⟨ge,3,none⟩ = some (.slice Ar nl.length cr)) (ds := [11]) #[false,false,false,false,false,false,false,false,false,false,false,false] (by kernel_rfl) rfl rfl ⟨(blk_cell BG.out 0).trans rfl,(blk_cell BG.out 1).trans rfl,(blk_cell BG.out 2).trans rfl,(blk_cell BG.out 3).trans rfl,(blk_cell BE.out 0).trans rfl,(blk_cell BE.out 1).trans rfl,(blk_cell BE.out 2).trans rfl,(blk_cell BE.out 3).trans rfl⟩ (fun hHeld => ?_)
 generalize w1.drew = wc at BE BG T2 HRR HB HK hHeld ⊢
 have HZW := Aside0.mk HK.out.1
 have HWB := Aside0.mk HB.out.size
 refine pure_ (i := 0) (N := some 4) (v := ?_) (a' := ?_) #[true,false,false,false,false,false,false,false,false,false,false,false] rfl rfl (by kernel_rfl) (fun _ _ _ h => h) (Or.inl ⟨by rfl,?_⟩) ?_ ?_
 rotate_left
 ·intro w'
  go_simp
  with_reducible rfl
 rotate_left
 ·simp only [Act.put,q1,q2,q3,i64_w,i32_w]
  rfl
 refine pure_ (i := 1) (N := some 5) (v := ?_) (a' := ?_) #[true,true,false,false,false,false,false,false,false,false,false,false] rfl rfl (by kernel_rfl) (fun _ _ _ h => h) (Or.inl ⟨by rfl,?_⟩) ?_ ?_
 rotate_left
 ·intro w'
  go_simp
  with_reducible rfl
 rotate_left
 ·simp only [Act.put,q1,q2,q3,i64_w,i32_w]
  rfl
 refine pure_ (i := 2) (N := some 6) (v := ?_) (a' := ?_) #[true,true,true,false,false,false,false,false,false,false,false,false] rfl rfl (by kernel_rfl) (fun _ _ _ h => h) (Or.inl ⟨by rfl,?_⟩) ?_ ?_
 rotate_left
 ·intro w'
  go_simp
  with_reducible rfl
 rotate_left
 ·simp only [Act.put,q1,q2,q3,i64_w,i32_w]
  rfl
 refine pure_ (i := 3) (N := some 7) (v := ?_) (a' := ?_) #[true,true,true,true,false,false,false,false,false,false,false,false] rfl rfl (by kernel_rfl) (fun _ _ _ h => h) (Or.inl ⟨by rfl,?_⟩) ?_ ?_
 rotate_left
 ·intro w'
  go_simp
  with_reducible rfl
 rotate_left
 ·simp only [Act.put,q1,q2,q3,i64_w,i32_w]
  rfl
 refine take_ (i := 4) (N := some 8) (v := ?_) (a' := ?_) #[true,true,true,true,true,false,false,false,false,false,false,false] rfl rfl (by kernel_rfl) (fun _ _ _ h => h) (Or.inl ⟨by rfl,?_⟩) hHeld ?_ ?_
 rotate_left
 ·rintro w' ⟨s0,s1,s2,s3,s4,s5,s6,s7⟩
  go_simp
  with_reducible rfl
 rotate_left
 ·simp only [Act.put,q1,q2,q3,i64_w,i32_w]
  rfl
 refine take_ (i := 5) (N := some 9) (v := ?_) (a' := ?_) #[true,true,true,true,true,true,false,false,false,false,false,false] rfl rfl (by kernel_rfl) (fun _ _ _ h => h) (Or.inl ⟨by rfl,?_⟩) hHeld ?_ ?_
 rotate_left
 ·rintro w' ⟨s0,s1,s2,s3,s4,s5,s6,s7⟩
  go_simp
  with_reducible rfl
 rotate_left
 ·simp only [Act.put,q1,q2,q3,i64_w,i32_w]
  rfl
 refine one_ (i := 6) (N := some 10) #[true,true,true,true,true,true,true,false,false,false,false,false] rfl rfl (by kernel_rfl) (by decide) (fun K hK => ?_)
 refine goes_ Try.func68 (by kernel_rfl) rfl #[.agg #[.int .i64 n0,.int .i64 n1,.int .i64 n2,.slice Ar nl.length cr]] (by rfl) rfl rfl (by (try simp only [List.map_toArray,List.map_cons,List.map_nil]);first|done|rfl) ?_
 refine (impl_cloneRecord.calls n0 n1 n2 Ar cr nl e0 e1 e2 e3 _ HRR.out HRC.out FC.out).mono ?_
 rintro e wq ⟨vn,rfl,S,B⟩
 refine ⟨_,rfl,?_⟩
 have N := Aside0.mk S
 have NB := Aside0.mk (Kd.R_base S)
 have T2 := Aside0.mk (Kd.S_below (Kd.S_bound T2.out) B)
 have BG := Aside0.mk (blk_below BG.out B)
 have BE := Aside0.mk (blk_below BE.out B)
 have HB := Aside0.mk (below_step HB.out B)
 have HK := Aside0.mk (HK.out.below B)
 have HZ2 := Aside0.mk (HB.out.size)
 clear S B
 obtain ⟨An,cn,en⟩ := Kd.R_slice N.out
 subst en
 refine hK.out _ _ ⟨(blk_cell BG.out 0).trans rfl,(blk_cell BG.out 1).trans rfl,(blk_cell BG.out 2).trans rfl,(blk_cell BG.out 3).trans rfl,(blk_cell BE.out 0).trans rfl,(blk_cell BE.out 1).trans rfl,(blk_cell BE.out 2).trans rfl,(blk_cell BE.out 3).trans rfl⟩ (fun hHeld => ?_)
 clear hK K
 refine nr_ (some 10) _ ?_
 refine one_ (i := 7) (N := some 11) #[true,true,true,true,true,true,true,true,false,false,false,false] rfl rfl (by kernel_rfl) (by decide) (fun K hK => ?_)
 refine value_ (w1 := ?_) (v := ?_) (by rfl) rfl ?_ ?_
 rotate_left 2
 ·go_simp
  constructor
  ·rfl
  ·rfl
 refine hK.out _ _ ⟨(blk_cell (blk_alloc BG.out _) 0).trans rfl,(blk_cell (blk_alloc BG.out _) 1).trans rfl,(blk_cell (blk_alloc BG.out _) 2).trans rfl,(blk_cell (blk_alloc BG.out _) 3).trans rfl,(blk_cell (blk_alloc BE.out _) 0).trans rfl,(blk_cell (blk_alloc BE.out _) 1).trans rfl,(blk_cell (blk_alloc BE.out _) 2).trans rfl,(blk_cell (blk_alloc BE.out _) 3).trans rfl⟩ (fun hHeld => ?_)
 clear hK K
 refine nr_ (some 11) _ ?_
 refine one_ (i := 8) (N := some 12) #[true,true,true,true,true,true,true,true,true,false,false,false] rfl rfl (by kernel_rfl) (by decide) (fun K hK => ?_)
 refine Kd.S_append_step k45 (w0 := w0) w0.heap.size (by rfl) (.tmp 8) (.tmp 11) 30 45 (.agg #[.int .i64 0,.int .i64 0,.int .i64 0,.slice none 0 0]) 48 rfl Try.underlying30 info45 rfl (by decide) (by omega) (.slice A2 p2.length c2) p2 (⟨e0,e1,e2,e3⟩ : S45) [.int .i64 e0,.int .i64 e1,.int .i64 e2,.slice An e3.length cn] (fun k_ => P0_ k_ ∨ w.heap.size ≤ k_) (fun k_ => some k_ = (.slice An e3.length cn : Value).ownBlock) rfl rfl ?aP (fun k_ hk_ => (⟨.inr (Nat.le_trans HZW.out (NB.out k_ hk_.symm)),fun e_ => absurd ((Kd.S_R T2.out).1 k_ e_.symm).2.2.1 (Nat.not_lt.2 (NB.out k_ hk_.symm))⟩ : (P0_ k_ ∨ w.heap.size ≤ k_) ∧ some k_ ≠ (.slice A2 p2.length c2 : Value).ownBlock)) ?aF ?aO ?aB ?aS ?aL ?_
 (case aP => exact k45_mkM _ _ _ (⟨e0,e1,e2,e3⟩ : S45) (Kd.R_tight rfl (Kd.R_lower N.out HWB.out)))
 (case aB => exact HB.out)
 (case aF => exact (fun k_ hk => .inr (Nat.le_trans HK.out.1 hk)))
 (case aO => exact (Kd.S_mono T2.out (fun k_ hk => ⟨.inl hk.1.1,fun e_ => absurd hk.2.2.1 (Nat.not_lt.2 (NB.out k_ e_.symm))⟩)))
 (case aS => exact HZ2.out)
 (case aL => have := LM.out;omega)
 intro v4 wz ho hb hg hat
 have AW := Aside0.mk (Kd.S_away T2.out (g := gb) (fun k_ hk_ e_ => HP.out (e_ ▸ hk_.1.1)))
 have HK := Aside0.mk (Kept.of_grown hg HK.out (fun k_ e_ => .inl (.inl ((Kd.S_R T2.out).1 k_ e_).1.1)))
 have BE := Aside0.mk (blk_grown BE.out hg (Kd.S_away T2.out (g := ge) (fun k_ hk_ e_ => absurd (e_ ▸ hk_.1.2) (Nat.not_lt.2 HGE.out))))
 have BG := Aside0.mk (blk_grown BG.out hg AW.out)
 have HB := Aside0.mk hb
 have T4 := Aside0.mk ho
 clear ho hb hg hat T2 N NB AW
 obtain ⟨A4,c4,e4_⟩ := Kd.S_slice T4.out
 subst e4_
 refine hK.out _ _ ⟨(blk_cell BG.out 0).trans rfl,(blk_cell BG.out 1).trans rfl,(blk_cell BG.out 2).trans rfl,(blk_cell BG.out 3).trans rfl,(blk_cell BE.out 0).trans rfl,(blk_cell BE.out 1).trans rfl,(blk_cell BE.out 2).trans rfl,(blk_cell BE.out 3).trans rfl⟩ (fun hHeld => ?_)
 clear hK K
 refine nr_ (some 12) _ ?_
 refine pure_ (i := 9) (N := some 13) (v := ?_) (a' := ?_) #[true,true,true,true,true,true,true,true,true,true,false,false] rfl rfl (by kernel_rfl) (fun _ _ _ h => h) (Or.inl ⟨by rfl,?_⟩) ?_ ?_
 rotate_left
 ·intro w'
  go_simp
  with_reducible rfl
 rotate_left
 ·simp only [Act.put,q1,q2,q3,i64_w,i32_w]
  rfl
 refine pure_ (i := 10) (N := some 14) (v := ?_) (a' := ?_) #[true,true,true,true,true,true,true,true,true,true,true,false] rfl rfl (by kernel_rfl) (fun _ _ _ h => h) (Or.inl ⟨by rfl,?_⟩) ?_ ?_
 rotate_left
 ·intro w'
  go_simp
  with_reducible rfl
 rotate_left
 ·simp only [Act.put,q1,q2,q3,i64_w,i32_w]
  rfl
 refine last_ (i := 11) (N := none) #[true,true,true,true,true,true,true,true,true,true,true,true] rfl rfl (by kernel_rfl) (by decide) (fun K hK => ?_)
 have hs_ : wz.cell? ⟨gb,2,none⟩ = some (.slice A2 p2.length c2) := (blk_cell BG.out 2).trans rfl
 have hf_ := blk_frozen BG.out 2
 refine skip_ (w1 := ?_) (by rfl) rfl ?_ ?_
 rotate_left
 ·go_simp
  rfl
 refine hK.out _ _ ?_
 clear hK K
 refine done_ (by kernel_rfl) ?_
 clear hs_ hf_ hHeld
 go_wp2
 go_end0
 exact ⟨rfl,A4,c4,(by refine blk_put (cs := #[.bool b,s1,.slice A2 p2.length c2,s3]) ?_ 2 _ (by first|rfl|simp);exact BG.out),Kd.S_far (p := ⟨gb,2,none⟩) (Kd.S_mono (Kd.S_types T4.out BG.out (by decide)) (fun k_ hk_ => hk_)) (fun _ h_ => h_.2) _,below_set HB.out HG.out,(HK.out.mono (fun _ h_ => h_.elim (fun h2_ => .inl h2_) .inr)).setCell (p := ⟨gb,2,none⟩) (.inl (.inr rfl)) _⟩

/-! ### impl_Append: function 29 -/
theorem hold_29 {p : Prop} (h : Aside0 p) : p := h.out
theorem ty_29 {w : World} {k : Nat} {a b : List Nat} (h1 : ∃ q, q ∈ a ∧ ∃ cs, w.heap[k]? = some (.cells cs q (0, 0))) (h2 : ∃ q, q ∈ b ∧ ∃ cs, w.heap[k]? = some (.cells cs q (0, 0))) (hd : ∀ q, q ∈ a → ¬ q ∈ b) : False := by
 obtain ⟨q,hq,cs,h1⟩ := h1
 obtain ⟨q2,hq2,cs2,h2⟩ := h2
 rw [h1] at h2
 injection h2 with h2
 injection h2 with _ h2
 exact hd q hq (h2 ▸ hq2)
def impl_Append.f (k : Nat) (a0_0 : Bool) (l0_1 : List (S79)) (l0_2 : List (S45)) (l0_3 : List Int) (a1_0 a1_1 a1_2 : Int) (l1_3 : List (S127)) : Option (Bool × (List (S79)) × (List (S45)) × List Int × Bool) := (impl_isMachineOk.f k a0_0 l0_1 l0_2 l0_3).bind fun t => if t = true then ((impl_isRecord.f k a1_0 a1_1 a1_2 l1_3).bind fun t2 => if t2 = true then (if (l0_2.length : Int) = 200 then some (false, [], [], [], false) else (impl_cloneMachine.f k a0_0 l0_1 l0_2 l0_3).bind fun c => (impl_Machine_append.f c.2.2.1 a1_0 a1_1 a1_2 l1_3).bind fun q => some (c.1, c.2.1, q, c.2.2.2, true)) else some (false, [], [], [], false)) else some (false, [], [], [], false)
set_option maxHeartbeats 8000000 in
set_option maxRecDepth 100000 in
theorem impl_Append.calls (k : Nat) (a0_0 : Bool) (A0_1 : Option Addr) (c0_1 : Nat) (l0_1 : List (S79)) (A0_2 : Option Addr) (c0_2 : Nat) (l0_2 : List (S45)) (A0_3 : Option Addr) (c0_3 : Nat) (l0_3 : List Int) (a1_0 a1_1 a1_2 : Int) (A1_3 : Option Addr) (c1_3 : Nat) (l1_3 : List (S127)) (r1 : Bool) (r2 : List (S79)) (r3 : List (S45)) (r4 : List Int) (r5 : Bool) (w : World) (hr0_1 : Kd.C k79 w A0_1 l0_1.length l0_1) (hc0_1 : l0_1.length ≤ c0_1) (hr0_2 : Kd.C k45 w A0_2 l0_2.length l0_2) (hc0_2 : l0_2.length ≤ c0_2) (hr0_3 : Kd.C (Kd.int .i64) w A0_3 l0_3.length l0_3) (hc0_3 : l0_3.length ≤ c0_3) (hr1_3 : Kd.C k127 w A1_3 l1_3.length l1_3) (hc1_3 : l1_3.length ≤ c1_3) (h : impl_Append.f k a0_0 l0_1 l0_2 l0_3 a1_0 a1_1 a1_2 l1_3 = some (r1, r2, r3, r4, r5)) :
    Calls Try.prog 29 #[.agg #[.bool a0_0, .slice A0_1 l0_1.length c0_1, .slice A0_2 l0_2.length c0_2, .slice A0_3 l0_3.length c0_3], .agg #[.int .i64 a1_0, .int .i64 a1_1, .int .i64 a1_2, .slice A1_3 l1_3.length c1_3]] w fun e w' => ∃ v1_ v2_ v3_ : Value, e = .returned (.tuple #[.agg #[.bool r1, v1_, v2_, v3_], .bool r5]) ∧ Kd.S k79 79 w' w.heap.size (fun _ => True) v1_ r2 ∧ Kd.S k45 45 w' w.heap.size (fun _ => True) v2_ r3 ∧ Kd.R (Kd.int .i64) 2 w' w.heap.size (fun _ => True) v3_ r4 ∧ Below w.heap.size w w' := by
 have hu := Try.underlying32
 have hu2 := Try.underlying45
 have HR1 := Aside0.mk hr0_1
 have HC1 := Aside0.mk hc0_1
 clear hr0_1 hc0_1
 have HR2 := Aside0.mk hr0_2
 have HC2 := Aside0.mk hc0_2
 clear hr0_2 hc0_2
 have HR3 := Aside0.mk hr0_3
 have HC3 := Aside0.mk hc0_3
 clear hr0_3 hc0_3
 have HRR := Aside0.mk hr1_3
 have HRC := Aside0.mk hc1_3
 clear hr1_3 hc1_3
 obtain ⟨t,E0,h1⟩ := Option.bind_eq_some_iff.1 h
 clear h
 have H1 := Aside0.mk h1
 have F0 := Aside0.mk E0
 clear h1 E0
 go_enter Try.func29,Try.ntmps29
 go_wp2_with ((with_reducible refine gate_dst (N := 2) rfl ?_);refine bx_ 2 #[.bool a0_0,.slice A0_1 l0_1.length c0_1,.slice A0_2 l0_2.length c0_2,.slice A0_3 l0_3.length c0_3] 32 ?_;intro ga hg w1 hbox hb;have hge := Aside0.mk (Nat.le_of_eq hg.symm);clear hg;refine hold_29 ?_)
 refine ⟨?_⟩
 have D1 := Aside0.mk hb
 have BM := Aside0.mk hbox
 clear hb hbox hge
 go_wp2_with ((with_reducible refine gate_dst (N := 3) rfl ?_);refine bx_ 3 #[.int .i64 a1_0,.int .i64 a1_1,.int .i64 a1_2,.slice A1_3 l1_3.length c1_3] 45 ?_;intro ge hg w1e hbox hb;have hge := Aside0.mk (Nat.le_of_eq hg.symm);clear hg;refine hold_29 ?_)
 refine ⟨?_⟩
 have D1 := Aside0.mk (below_step D1.out hb)
 have BM := Aside0.mk (blk_below BM.out hb)
 have BE := Aside0.mk hbox
 clear hb hbox hge
 go_wp2_with ((with_reducible refine gate_dst (N := 4) rfl ?_);refine bx_ 4 #[.bool false,.slice none 0 0,.slice none 0 0,.slice none 0 0] 32 ?_;intro gr hg w2 hbox hb;have hge := Aside0.mk (Nat.le_of_eq hg.symm);clear hg;refine hold_29 ?_)
 refine ⟨?_⟩
 have GR : Aside0 (w.heap.size ≤ gr) := ⟨Nat.le_trans D1.out.size hge.out⟩
 have D2 := Aside0.mk (below_step D1.out hb)
 have BM := Aside0.mk (blk_below BM.out hb)
 have BE := Aside0.mk (blk_below BE.out hb)
 have BR := Aside0.mk hbox
 clear hb hbox hge
 have hcga2_0 : w2.cell? ⟨ga,0,none⟩ = some (.bool a0_0) := (blk_cell BM.out 0).trans rfl
 have hcga2_1 : w2.cell? ⟨ga,1,none⟩ = some (.slice A0_1 l0_1.length c0_1) := (blk_cell BM.out 1).trans rfl
 have hcga2_2 : w2.cell? ⟨ga,2,none⟩ = some (.slice A0_2 l0_2.length c0_2) := (blk_cell BM.out 2).trans rfl
 have hcga2_3 : w2.cell? ⟨ga,3,none⟩ = some (.slice A0_3 l0_3.length c0_3) := (blk_cell BM.out 3).trans rfl
 go_wp2_with ((with_reducible refine gcal_ (f := 53) rfl ?_);refine goesL_ (some 8) rfl rfl Try.func53 (by kernel_rfl) rfl #[.agg #[.bool a0_0,.slice A0_1 l0_1.length c0_1,.slice A0_2 l0_2.length c0_2,.slice A0_3 l0_3.length c0_3]] rfl (by (try simp only [List.map_toArray,List.map_cons,List.map_nil]);first|done|rfl) ?_;refine (impl_isMachineOk.calls k a0_0 A0_1 c0_1 l0_1 A0_2 c0_2 l0_2 A0_3 c0_3 l0_3 t _ (Kd.C_below HR1.out D2.out) HC1.out (Kd.C_below HR2.out D2.out) HC2.out (Kd.C_below HR3.out D2.out) HC3.out F0.out).mono ?_;rintro e w2b ⟨rfl,B⟩;refine ⟨_,rfl,?_⟩;refine hold_29 ?_)
 refine ⟨?_⟩
 have D3 := Aside0.mk (below_step D2.out B)
 have BM := Aside0.mk (blk_below BM.out B)
 have BE := Aside0.mk (blk_below BE.out B)
 have BR := Aside0.mk (blk_below BR.out B)
 clear B
 have hcgr3_0 : w2b.cell? ⟨gr,0,none⟩ = some (.bool false) := (blk_cell BR.out 0).trans rfl
 have hcgr3_1 : w2b.cell? ⟨gr,1,none⟩ = some (.slice none 0 0) := (blk_cell BR.out 1).trans rfl
 have hcgr3_2 : w2b.cell? ⟨gr,2,none⟩ = some (.slice none 0 0) := (blk_cell BR.out 2).trans rfl
 have hcgr3_3 : w2b.cell? ⟨gr,3,none⟩ = some (.slice none 0 0) := (blk_cell BR.out 3).trans rfl
 have hfr3_0 := blk_frozen BR.out 0
 have hfr3_1 := blk_frozen BR.out 1
 have hfr3_2 := blk_frozen BR.out 2
 have hfr3_3 := blk_frozen BR.out 3
 have hcge3_0 : w2b.cell? ⟨ge,0,none⟩ = some (.int .i64 a1_0) := (blk_cell BE.out 0).trans rfl
 have hcge3_1 : w2b.cell? ⟨ge,1,none⟩ = some (.int .i64 a1_1) := (blk_cell BE.out 1).trans rfl
 have hcge3_2 : w2b.cell? ⟨ge,2,none⟩ = some (.int .i64 a1_2) := (blk_cell BE.out 2).trans rfl
 have hcge3_3 : w2b.cell? ⟨ge,3,none⟩ = some (.slice A1_3 l1_3.length c1_3) := (blk_cell BE.out 3).trans rfl
 have hcga3_0 : w2b.cell? ⟨ga,0,none⟩ = some (.bool a0_0) := (blk_cell BM.out 0).trans rfl
 have hcga3_1 : w2b.cell? ⟨ga,1,none⟩ = some (.slice A0_1 l0_1.length c0_1) := (blk_cell BM.out 1).trans rfl
 have hcga3_2 : w2b.cell? ⟨ga,2,none⟩ = some (.slice A0_2 l0_2.length c0_2) := (blk_cell BM.out 2).trans rfl
 have hcga3_3 : w2b.cell? ⟨ga,3,none⟩ = some (.slice A0_3 l0_3.length c0_3) := (blk_cell BM.out 3).trans rfl
 cases t with
  | false =>
  have h1 := H1.out
  rw [if_neg (by simp)] at h1
  clear H1
  simp only [Option.some.injEq,Prod.mk.injEq] at h1
  obtain ⟨rfl,rfl,rfl,rfl,rfl⟩ := h1
  go_wp2
  refine bodyPost_ret (results_ct rfl _ _ gr 32 #[.bool false,.slice none 0 0,.slice none 0 0,.slice none 0 0] (0,0) _ rfl (by refine blk_put (cs := #[.bool false,.slice none 0 0,.slice none 0 0,.slice none 0 0]) ?_ 3 _ rfl;refine blk_put (cs := #[.bool false,.slice none 0 0,.slice none 0 0,.slice none 0 0]) ?_ 2 _ rfl;refine blk_put (cs := #[.bool false,.slice none 0 0,.slice none 0 0,.slice none 0 0]) ?_ 1 _ rfl;refine blk_put (cs := #[.bool false,.slice none 0 0,.slice none 0 0,.slice none 0 0]) ?_ 0 _ rfl;exact BR.out) Try.underlying32 rfl (by kernel_rfl)) rfl ?_
  exact ⟨.slice none 0 0,.slice none 0 0,.slice none 0 0,by first|rfl|(simp;done),Kd.S_nil _ _ _ _ _,Kd.S_nil _ _ _ _ _,Kd.R_nil _ _ _ _ _,below_set (below_set (below_set (below_set D3.out GR.out) GR.out) GR.out) GR.out⟩
  | true =>
 have h1 := H1.out
 rw [if_pos rfl] at h1
 clear H1
 obtain ⟨t2,E9,h2⟩ := Option.bind_eq_some_iff.1 h1
 clear h1
 have H1 := Aside0.mk h2
 have F9 := Aside0.mk E9
 clear h2 E9
 go_wp2_with (go_at_call 75;refine (impl_isRecord.calls k a1_0 a1_1 a1_2 A1_3 c1_3 l1_3 t2 _ (Kd.C_below HRR.out D3.out) HRC.out F9.out).mono ?_;rintro e w3 ⟨rfl,B⟩;(try dsimp only);refine hold_29 ?_)
 refine ⟨?_⟩
 have D3 := Aside0.mk (below_step D3.out B)
 have BM := Aside0.mk (blk_below BM.out B)
 have BE := Aside0.mk (blk_below BE.out B)
 have BR := Aside0.mk (blk_below BR.out B)
 clear B
 clear hcgr3_0 hfr3_0 hcge3_0 hcga3_0 hcgr3_1 hfr3_1 hcge3_1 hcga3_1 hcgr3_2 hfr3_2 hcge3_2 hcga3_2 hcgr3_3 hfr3_3 hcge3_3 hcga3_3
 have hcgr4_0 : w3.cell? ⟨gr,0,none⟩ = some (.bool false) := (blk_cell BR.out 0).trans rfl
 have hcgr4_1 : w3.cell? ⟨gr,1,none⟩ = some (.slice none 0 0) := (blk_cell BR.out 1).trans rfl
 have hcgr4_2 : w3.cell? ⟨gr,2,none⟩ = some (.slice none 0 0) := (blk_cell BR.out 2).trans rfl
 have hcgr4_3 : w3.cell? ⟨gr,3,none⟩ = some (.slice none 0 0) := (blk_cell BR.out 3).trans rfl
 have hfr4_0 := blk_frozen BR.out 0
 have hfr4_1 := blk_frozen BR.out 1
 have hfr4_2 := blk_frozen BR.out 2
 have hfr4_3 := blk_frozen BR.out 3
 have hcga4_0 : w3.cell? ⟨ga,0,none⟩ = some (.bool a0_0) := (blk_cell BM.out 0).trans rfl
 have hcga4_1 : w3.cell? ⟨ga,1,none⟩ = some (.slice A0_1 l0_1.length c0_1) := (blk_cell BM.out 1).trans rfl
 have hcga4_2 : w3.cell? ⟨ga,2,none⟩ = some (.slice A0_2 l0_2.length c0_2) := (blk_cell BM.out 2).trans rfl
 have hcga4_3 : w3.cell? ⟨ga,3,none⟩ = some (.slice A0_3 l0_3.length c0_3) := (blk_cell BM.out 3).trans rfl
 cases t2 with
  | false =>
  have h1 := H1.out
  rw [if_neg (by simp)] at h1
  clear H1
  simp only [Option.some.injEq,Prod.mk.injEq] at h1
  obtain ⟨rfl,rfl,rfl,rfl,rfl⟩ := h1
  go_wp2
  refine bodyPost_ret (results_ct rfl _ _ gr 32 #[.bool false,.slice none 0 0,.slice none 0 0,.slice none 0 0] (0,0) _ rfl (by refine blk_put (cs := #[.bool false,.slice none 0 0,.slice none 0 0,.slice none 0 0]) ?_ 3 _ rfl;refine blk_put (cs := #[.bool false,.slice none 0 0,.slice none 0 0,.slice none 0 0]) ?_ 2 _ rfl;refine blk_put (cs := #[.bool false,.slice none 0 0,.slice none 0 0,.slice none 0 0]) ?_ 1 _ rfl;refine blk_put (cs := #[.bool false,.slice none 0 0,.slice none 0 0,.slice none 0 0]) ?_ 0 _ rfl;exact BR.out) Try.underlying32 rfl (by kernel_rfl)) rfl ?_
  exact ⟨.slice none 0 0,.slice none 0 0,.slice none 0 0,by first|rfl|(simp;done),Kd.S_nil _ _ _ _ _,Kd.S_nil _ _ _ _ _,Kd.R_nil _ _ _ _ _,below_set (below_set (below_set (below_set D3.out GR.out) GR.out) GR.out) GR.out⟩
  | true =>
 have h1 := H1.out
 rw [if_pos rfl] at h1
 clear H1
 by_cases lk : (l0_2.length : Int) = 200
 ·rw [if_pos lk] at h1
  have lkb : ((l0_2.length : Int) == 200) = true := beq_iff_eq.mpr lk
  have lkd : decide ((l0_2.length : Int) = 200) = true := decide_eq_true lk
  clear lk
  simp only [Option.some.injEq,Prod.mk.injEq] at h1
  obtain ⟨rfl,rfl,rfl,rfl,rfl⟩ := h1
  go_wp2
  refine bodyPost_ret (results_ct rfl _ _ gr 32 #[.bool false,.slice none 0 0,.slice none 0 0,.slice none 0 0] (0,0) _ rfl (by refine blk_put (cs := #[.bool false,.slice none 0 0,.slice none 0 0,.slice none 0 0]) ?_ 3 _ rfl;refine blk_put (cs := #[.bool false,.slice none 0 0,.slice none 0 0,.slice none 0 0]) ?_ 2 _ rfl;refine blk_put (cs := #[.bool false,.slice none 0 0,.slice none 0 0,.slice none 0 0]) ?_ 1 _ rfl;refine blk_put (cs := #[.bool false,.slice none 0 0,.slice none 0 0,.slice none 0 0]) ?_ 0 _ rfl;exact BR.out) Try.underlying32 rfl (by kernel_rfl)) rfl ?_
  exact ⟨.slice none 0 0,.slice none 0 0,.slice none 0 0,by first|rfl|(simp;done),Kd.S_nil _ _ _ _ _,Kd.S_nil _ _ _ _ _,Kd.R_nil _ _ _ _ _,below_set (below_set (below_set (below_set D3.out GR.out) GR.out) GR.out) GR.out⟩
 rw [if_neg lk] at h1
 have lkb : ((l0_2.length : Int) == 200) = false := beq_eq_false_iff_ne.mpr lk
 have lkd : decide ((l0_2.length : Int) = 200) = false := decide_eq_false lk
 clear lk
 obtain ⟨⟨b,p1,p2,p3⟩,E1,h2⟩ := Option.bind_eq_some_iff.1 h1
 clear h1
 obtain ⟨q2,E2,h3⟩ := Option.bind_eq_some_iff.1 h2
 clear h2
 simp only [Option.some.injEq,Prod.mk.injEq] at h3
 obtain ⟨rfl,rfl,rfl,rfl,rfl⟩ := h3
 have F1 := Aside0.mk E1
 have F2 := Aside0.mk E2
 clear E1 E2
 go_wp2_with ((with_reducible refine gcal_ (f := 76) rfl ?_);refine goesL_ (some 23) rfl rfl Try.func76 (by kernel_rfl) rfl #[.agg #[.bool a0_0,.slice A0_1 l0_1.length c0_1,.slice A0_2 l0_2.length c0_2,.slice A0_3 l0_3.length c0_3]] rfl (by (try simp only [List.map_toArray,List.map_cons,List.map_nil]);first|done|rfl) ?_;refine (impl_cloneMachine.calls k a0_0 A0_1 c0_1 l0_1 A0_2 c0_2 l0_2 A0_3 c0_3 l0_3 b p1 p2 p3 _ (Kd.C_below HR1.out D3.out) HC1.out (Kd.C_below HR2.out D3.out) HC2.out (Kd.C_below HR3.out D3.out) HC3.out F1.out).mono ?_;rintro e w4 ⟨v1,v2,v3,rfl,S1,S2,S3,B⟩;refine ⟨_,rfl,?_⟩;refine hold_29 ?_)
 refine ⟨?_⟩
 clear lkb lkd hcgr4_0 hfr4_0 hcga4_0 hcgr4_1 hfr4_1 hcga4_1 hcgr4_2 hfr4_2 hcga4_2 hcgr4_3 hfr4_3 hcga4_3
 have T1 := Aside0.mk S1
 have T2 := Aside0.mk S2
 have T3 := Aside0.mk S3
 have LE := Aside0.mk (blk_lt BE.out)
 have LG := Aside0.mk (blk_lt BR.out)
 have G := Aside0.mk B
 have D4 := Aside0.mk (below_step D3.out B)
 have BR := Aside0.mk (blk_below BR.out B)
 have BE := Aside0.mk (blk_below BE.out B)
 clear S1 S2 S3 B BM
 obtain ⟨A1,c1,e1_⟩ := Kd.S_slice T1.out
 subst e1_
 obtain ⟨A2,c2,e2_⟩ := Kd.S_slice T2.out
 subst e2_
 obtain ⟨A3,c3,e3_⟩ := Kd.R_slice T3.out
 subst e3_
 go_wp2_with ((with_reducible refine gate_dst (N := 6) rfl ?_);refine bx_ 6 #[.bool false,.slice none 0 0,.slice none 0 0,.slice none 0 0] 32 ?_;intro go hg w5 hbox hb;have hge := Aside0.mk (Nat.le_of_eq hg.symm);clear hg;refine hold_29 ?_)
 refine ⟨?_⟩
 have BZ := Aside0.mk hbox
 have Q0 := Aside0.mk hb
 have HGE := hge
 clear hbox hb hge
 have hcgoy_0 : w5.cell? ⟨go,0,none⟩ = some (.bool false) := (blk_cell BZ.out 0).trans rfl
 have hcgoy_1 : w5.cell? ⟨go,1,none⟩ = some (.slice none 0 0) := (blk_cell BZ.out 1).trans rfl
 have hcgoy_2 : w5.cell? ⟨go,2,none⟩ = some (.slice none 0 0) := (blk_cell BZ.out 2).trans rfl
 have hcgoy_3 : w5.cell? ⟨go,3,none⟩ = some (.slice none 0 0) := (blk_cell BZ.out 3).trans rfl
 have hfy_0 := blk_frozen BZ.out 0
 have hfy_1 := blk_frozen BZ.out 1
 have hfy_2 := blk_frozen BZ.out 2
 have hfy_3 := blk_frozen BZ.out 3
 go_upto_region 4 with (fail)
 have n0_ : Aside0 (Below w4.heap.size w4 ((((w5.setCell ⟨go,0,none⟩ (.bool b)).setCell ⟨go,1,none⟩ (.slice A1 p1.length c1)).setCell ⟨go,2,none⟩ (.slice A2 p2.length c2)).setCell ⟨go,3,none⟩ (.slice A3 p3.length c3))) := ⟨below_set (below_set (below_set (below_set Q0.out HGE.out) HGE.out) HGE.out) HGE.out⟩
 have n1_ : Aside0 (((((w5.setCell ⟨go,0,none⟩ (.bool b)).setCell ⟨go,1,none⟩ (.slice A1 p1.length c1)).setCell ⟨go,2,none⟩ (.slice A2 p2.length c2)).setCell ⟨go,3,none⟩ (.slice A3 p3.length c3)).heap[go]? = some (.cells #[.bool b,.slice A1 p1.length c1,.slice A2 p2.length c2,.slice A3 p3.length c3] 32 (0,0))) := ⟨by refine blk_put (cs := #[.bool b,.slice A1 p1.length c1,.slice A2 p2.length c2,.slice none 0 0]) ?_ 3 _ rfl;refine blk_put (cs := #[.bool b,.slice A1 p1.length c1,.slice none 0 0,.slice none 0 0]) ?_ 2 _ rfl;refine blk_put (cs := #[.bool b,.slice none 0 0,.slice none 0 0,.slice none 0 0]) ?_ 1 _ rfl;refine blk_put (cs := #[.bool false,.slice none 0 0,.slice none 0 0,.slice none 0 0]) ?_ 0 _ rfl;exact BZ.out⟩
 clear BZ Q0
 clear hcgoy_0 hfy_0 hcgoy_1 hfy_1 hcgoy_2 hfy_2 hcgoy_3 hfy_3
 generalize ((((w5.setCell ⟨go,0,none⟩ (.bool b)).setCell ⟨go,1,none⟩ (.slice A1 p1.length c1)).setCell ⟨go,2,none⟩ (.slice A2 p2.length c2)).setCell ⟨go,3,none⟩ (.slice A3 p3.length c3)) = w6 at n0_ n1_ ⊢
 have B := n0_.out
 have BG := n1_
 clear n0_ n1_
 have T1 := Aside0.mk (Kd.S_bound (Kd.S_below T1.out B))
 have T2 := Aside0.mk (Kd.S_bound (Kd.S_below T2.out B))
 have T3 := Aside0.mk (Kd.R_bound (Kd.R_below T3.out B))
 have GO : Aside0 (w3.heap.size ≤ go) := ⟨Nat.le_trans G.out.size HGE.out⟩
 have G := Aside0.mk (below_step G.out B)
 have D6 := Aside0.mk (below_step D4.out B)
 have BR := Aside0.mk (blk_below BR.out B)
 have BE := Aside0.mk (blk_below BE.out B)
 clear B D4
 have NG : Aside0 (gr ≠ go) := ⟨Nat.ne_of_lt (Nat.lt_of_lt_of_le LG.out GO.out)⟩
 have hcge6_0 : w6.cell? ⟨ge,0,none⟩ = some (.int .i64 a1_0) := (blk_cell BE.out 0).trans rfl
 have hcge6_1 : w6.cell? ⟨ge,1,none⟩ = some (.int .i64 a1_1) := (blk_cell BE.out 1).trans rfl
 have hcge6_2 : w6.cell? ⟨ge,2,none⟩ = some (.int .i64 a1_2) := (blk_cell BE.out 2).trans rfl
 have hcge6_3 : w6.cell? ⟨ge,3,none⟩ = some (.slice A1_3 l1_3.length c1_3) := (blk_cell BE.out 3).trans rfl
 go_wp2_with ((with_reducible refine gcal_ (f := 77) rfl ?_);refine goesL_ (some 25) rfl rfl Try.func77 (by kernel_rfl) rfl #[.pointer (some ⟨go,0,none⟩),.agg #[.int .i64 a1_0,.int .i64 a1_1,.int .i64 a1_2,.slice A1_3 l1_3.length c1_3]] rfl (by (try simp only [List.map_toArray,List.map_cons,List.map_nil]);first|done|rfl) ?_;refine (impl_Machine_append.calls (fun k_ => True ∧ w3.heap.size ≤ k_ ∧ k_ < w6.heap.size ∧ ∃ q,q ∈ 45 :: (k45).E ∧ ∃ cells,w6.heap[k_]? = some (.cells cells q (0,0))) go b (.slice A1 p1.length c1) (.slice A3 p3.length c3) A2 c2 p2 a1_0 a1_1 a1_2 A1_3 c1_3 l1_3 q2 w3 _ G.out GO.out BG.out (fun hs_ => ty_29 ⟨32,List.mem_singleton.2 rfl,_,BG.out⟩ hs_.2.2.2 (by decide)) T2.out (Kd.C_below HRR.out D6.out) HRC.out F2.out).mono ?_;rintro e w7 ⟨rfl,A4,c4,BG2,S,B,K⟩;refine ⟨_,rfl,?_⟩;refine hold_29 ?_)
 refine ⟨?_⟩
 have T1 := Aside0.mk (Kd.S_kept T1.out K (fun k_ hk_ hs_ => hs_.elim (fun h_ => ty_29 hk_.2.2.2 h_.2.2.2 (by decide)) (fun e_ => ty_29 (e_ ▸ hk_.2.2.2) ⟨32,List.mem_singleton.2 rfl,_,BG.out⟩ (by decide))))
 have T3 := Aside0.mk (Kd.R_kept T3.out K (fun k_ hk_ hs_ => hs_.elim (fun h_ => ty_29 hk_.2.2.2 h_.2.2.2 (by decide)) (fun e_ => ty_29 (e_ ▸ hk_.2.2.2) ⟨32,List.mem_singleton.2 rfl,_,BG.out⟩ (by decide))))
 have T4 := Aside0.mk S
 have BR2 := Aside0.mk (blk_kept BR.out K (fun hs_ => hs_.elim (fun hs_ => ty_29 ⟨32,List.mem_singleton.2 rfl,_,BR.out⟩ hs_.2.2.2 (by decide)) NG.out))
 have BG := Aside0.mk BG2
 have D7 := Aside0.mk (below_step D3.out B)
 clear S B K BG2 BR
 have BR := BR2
 clear BR2
 have hcgo7_0 : w7.cell? ⟨go,0,none⟩ = some (.bool b) := (blk_cell BG.out 0).trans rfl
 have hcgo7_1 : w7.cell? ⟨go,1,none⟩ = some (.slice A1 p1.length c1) := (blk_cell BG.out 1).trans rfl
 have hcgo7_2 : w7.cell? ⟨go,2,none⟩ = some (.slice A4 q2.length c4) := (blk_cell BG.out 2).trans rfl
 have hcgo7_3 : w7.cell? ⟨go,3,none⟩ = some (.slice A3 p3.length c3) := (blk_cell BG.out 3).trans rfl
 have hcgr7_0 : w7.cell? ⟨gr,0,none⟩ = some (.bool false) := (blk_cell BR.out 0).trans rfl
 have hcgr7_1 : w7.cell? ⟨gr,1,none⟩ = some (.slice none 0 0) := (blk_cell BR.out 1).trans rfl
 have hcgr7_2 : w7.cell? ⟨gr,2,none⟩ = some (.slice none 0 0) := (blk_cell BR.out 2).trans rfl
 have hcgr7_3 : w7.cell? ⟨gr,3,none⟩ = some (.slice none 0 0) := (blk_cell BR.out 3).trans rfl
 have hfr7_0 := blk_frozen BR.out 0
 have hfr7_1 := blk_frozen BR.out 1
 have hfr7_2 := blk_frozen BR.out 2
 have hfr7_3 := blk_frozen BR.out 3
 go_wp2
 refine bodyPost_ret (results_ct rfl _ _ gr 32 #[.bool b,.slice A1 p1.length c1,.slice A4 q2.length c4,.slice A3 p3.length c3] (0,0) _ rfl (by refine blk_put (cs := #[.bool b,.slice A1 p1.length c1,.slice A4 q2.length c4,.slice none 0 0]) ?_ 3 _ rfl;refine blk_put (cs := #[.bool b,.slice A1 p1.length c1,.slice none 0 0,.slice none 0 0]) ?_ 2 _ rfl;refine blk_put (cs := #[.bool b,.slice none 0 0,.slice none 0 0,.slice none 0 0]) ?_ 1 _ rfl;refine blk_put (cs := #[.bool false,.slice none 0 0,.slice none 0 0,.slice none 0 0]) ?_ 0 _ rfl;exact BR.out) Try.underlying32 rfl (by kernel_rfl)) rfl ?_
 exact ⟨.slice A1 p1.length c1,.slice A4 q2.length c4,.slice A3 p3.length c3,by first|rfl|(simp;done),Kd.S_mono (Kd.S_far (p := ⟨gr,3,none⟩) (Kd.S_far (p := ⟨gr,2,none⟩) (Kd.S_far (p := ⟨gr,1,none⟩) (Kd.S_far (p := ⟨gr,0,none⟩) (Kd.S_types (Kd.S_lower T1.out D3.out.size) BR.out (by decide)) (fun _ h_ => h_.2) (.bool b)) (fun _ h_ => h_.2) (.slice A1 p1.length c1)) (fun _ h_ => h_.2) (.slice A4 q2.length c4)) (fun _ h_ => h_.2) (.slice A3 p3.length c3)) (fun _ _ => trivial),Kd.S_mono (Kd.S_far (p := ⟨gr,3,none⟩) (Kd.S_far (p := ⟨gr,2,none⟩) (Kd.S_far (p := ⟨gr,1,none⟩) (Kd.S_far (p := ⟨gr,0,none⟩) (Kd.S_types (Kd.S_lower T4.out D3.out.size) BR.out (by decide)) (fun _ h_ => h_.2) (.bool b)) (fun _ h_ => h_.2) (.slice A1 p1.length c1)) (fun _ h_ => h_.2) (.slice A4 q2.length c4)) (fun _ h_ => h_.2) (.slice A3 p3.length c3)) (fun _ _ => trivial),Kd.R_mono (Kd.R_far (p := ⟨gr,3,none⟩) (Kd.R_far (p := ⟨gr,2,none⟩) (Kd.R_far (p := ⟨gr,1,none⟩) (Kd.R_far (p := ⟨gr,0,none⟩) (Kd.R_types (Kd.R_lower T3.out D3.out.size) BR.out (by decide)) (fun _ h_ => h_.2) (.bool b)) (fun _ h_ => h_.2) (.slice A1 p1.length c1)) (fun _ h_ => h_.2) (.slice A4 q2.length c4)) (fun _ h_ => h_.2) (.slice A3 p3.length c3)) (fun _ _ => trivial),below_set (below_set (below_set (below_set D7.out GR.out) GR.out) GR.out) GR.out⟩

/-! ### laws_heldCellS: function 20 -/
def laws_heldCellS.l0 : Nat → List (S92) → Int → Int → Option (Int)
  | 0, _, _, _ => none
  | k + 1, x0, x1, x5 => if x5 < (x0.length : Int) then (if 0 ≤ x5 then (if ((rd_T92 x0 x5).f0) = x1 then (if ((rd_T92 x0 x5).f1) = (wrap64 (x1 + 1)) then (laws_heldCellS.l0 k x0 (wrap64 ((wrap64 (x1 + 1)) + 1)) (wrap64 (x5 + 1))) else (some (-1))) else (some (-1))) else (none)) else (some x1)
def laws_heldCellS.f (k : Nat) (l0 : List (S92)) (a1 : Int) : Option (Int) := laws_heldCellS.l0 k l0 a1 0

set_option maxHeartbeats 8000000 in
set_option maxRecDepth 100000 in
theorem laws_heldCellS.calls (k : Nat) (A0 : Option Addr) (c0 : Nat) (l0 : List (S92)) (a1 : Int) (r : Int) (w : World) (hr0 : Kd.C k92 w A0 l0.length l0) (hc0 : l0.length ≤ c0) (h : laws_heldCellS.f k l0 a1 = some r) :
    Calls Try.prog 20 #[.slice A0 l0.length c0, .int .i64 a1] w fun e w' => e = .returned (.int .i64 r) ∧ Drawn0 w w' := by
 have HR0 := Aside0.mk hr0
 have HC0 := Aside0.mk hc0
 clear hr0 hc0
 have H : (laws_heldCellS.l0 k l0 a1 0) = some r := h
 clear h
 have H' := Aside0.mk H
 clear H
 go_enter Try.func20,Try.ntmps20
 go_wp2
 go_loopg [1,5] k (fun kq v1 v5 w' => ∃ (x1_1 : Int) (x5_1 : Int),v1 = .int .i64 x1_1 ∧ v5 = .int .i64 x5_1 ∧ Aside0 (laws_heldCellS.l0 kq l0 x1_1 x5_1 = some r) ∧ Aside0 (kq ≤ k) ∧ Drawn0 w w')
 case atStart => exact ⟨(a1),(0),rs_,rs_,H',⟨Nat.le_refl _⟩,by repeat (first|exact Drawn0.refl _|apply Drawn0.step)⟩
 case round =>
  clear H'
  try clear c2
  try clear p2
  obtain ⟨x1_1,x5_1,rfl,rfl,HA,HK1,⟨m1,rfl⟩⟩ := hrel
  cases gk with
    | zero => exact absurd HA.out (by simp [laws_heldCellS.l0])
    | succ k1 =>
   have H := HA.out
   clear HA
   simp only [laws_heldCellS.l0] at H
   by_cases c3 : x5_1 < (l0.length : Int)
   ·rw [if_pos c3] at H
    have c3b0 : decide (x5_1 < (l0.length : Int)) = true := decide_eq_true c3
    clear c3
    by_cases c4 : 0 ≤ x5_1
    ·rw [if_pos c4] at H
     have c4b0 : decide (0 ≤ x5_1) = true := decide_eq_true c4
     clear c4
     by_cases c5 : ((rd_T92 l0 x5_1).f0) = x1_1
     ·rw [if_pos c5] at H
      have c5b0 : (((rd_T92 l0 x5_1).f0) == x1_1) = true := beq_iff_eq.mpr c5
      have c5b1 : (((rd_T92 l0 x5_1).f0) != x1_1) = false := bne_eq_false_iff_eq.mpr c5
      clear c5
      by_cases c6 : ((rd_T92 l0 x5_1).f1) = (wrap64 (x1_1 + 1))
      ·rw [if_pos c6] at H
       have c6b0 : (((rd_T92 l0 x5_1).f1) == (wrap64 (x1_1 + 1))) = true := beq_iff_eq.mpr c6
       have c6b1 : (((rd_T92 l0 x5_1).f1) != (wrap64 (x1_1 + 1))) = false := bne_eq_false_iff_eq.mpr c6
       clear c6
       have H' := Aside0.mk H
       clear H
       have p395 : 0 ≤ (x5_1 : Int) := od_
       have q395 : x5_1 < (l0.length : Int) := od_
       obtain ⟨ad395,e395,hx395_0,hx395_1⟩ := at_T92 HR0.out x5_1 p395 q395
       cases e395
       replace p395 := eq_true p395
       replace q395 := eq_true q395
       have p396 : 0 ≤ (x5_1 : Int) := od_
       have q396 : x5_1 < (l0.length : Int) := od_
       obtain ⟨ad396,e396,hx396_0,hx396_1⟩ := at_T92 HR0.out x5_1 p396 q396
       obtain rfl : ad395 = ad396 := (by injection e396)
       replace p396 := eq_true p396
       replace q396 := eq_true q396
       go_wp2
       go_roundg k1
       case measure => have := HK1.out;omega
       case rel => exact ⟨(wrap64 ((wrap64 (x1_1 + 1)) + 1)),(wrap64 (x5_1 + 1)),rs_,rs_,H',⟨by have := HK1.out;omega⟩,by repeat (first|exact Drawn0.refl _|apply Drawn0.step)⟩
      ·rw [if_neg c6] at H
       have c6b0 : (((rd_T92 l0 x5_1).f1) == (wrap64 (x1_1 + 1))) = false := beq_eq_false_iff_ne.mpr c6
       have c6b1 : (((rd_T92 l0 x5_1).f1) != (wrap64 (x1_1 + 1))) = true := bne_iff_ne.mpr c6
       obtain rfl := Option.some.inj H
       have p395 : 0 ≤ (x5_1 : Int) := od_
       have q395 : x5_1 < (l0.length : Int) := od_
       obtain ⟨ad395,e395,hx395_0,hx395_1⟩ := at_T92 HR0.out x5_1 p395 q395
       cases e395
       replace p395 := eq_true p395
       replace q395 := eq_true q395
       have p396 : 0 ≤ (x5_1 : Int) := od_
       have q396 : x5_1 < (l0.length : Int) := od_
       obtain ⟨ad396,e396,hx396_0,hx396_1⟩ := at_T92 HR0.out x5_1 p396 q396
       obtain rfl : ad395 = ad396 := (by injection e396)
       replace p396 := eq_true p396
       replace q396 := eq_true q396
       go_wp2
       go_ret
       exact ⟨rs_,by repeat (first|exact Drawn0.refl _|apply Drawn0.step)⟩
     ·rw [if_neg c5] at H
      have c5b0 : (((rd_T92 l0 x5_1).f0) == x1_1) = false := beq_eq_false_iff_ne.mpr c5
      have c5b1 : (((rd_T92 l0 x5_1).f0) != x1_1) = true := bne_iff_ne.mpr c5
      obtain rfl := Option.some.inj H
      have p395 : 0 ≤ (x5_1 : Int) := od_
      have q395 : x5_1 < (l0.length : Int) := od_
      obtain ⟨ad395,e395,hx395_0,hx395_1⟩ := at_T92 HR0.out x5_1 p395 q395
      cases e395
      replace p395 := eq_true p395
      replace q395 := eq_true q395
      go_wp2
      go_ret
      exact ⟨rs_,by repeat (first|exact Drawn0.refl _|apply Drawn0.step)⟩
    ·rw [if_neg c4] at H
     exact absurd H (by simp)
   ·rw [if_neg c3] at H
    have c3b0 : decide (x5_1 < (l0.length : Int)) = false := decide_eq_false c3
    clear c3
    obtain rfl := Option.some.inj H
    go_wp2
    go_ret
    exact ⟨rs_,by repeat (first|exact Drawn0.refl _|apply Drawn0.step)⟩

/-! ### laws_heldCopyS: function 78 -/
def laws_heldCopyS.l0 : Nat → List (S79) → Int → Int → Option (Int)
  | 0, _, _, _ => none
  | k + 1, x0, x1, x5 => if x5 < (x0.length : Int) then (if 0 ≤ x5 then (if ((rd_T79 x0 x5).f0) = x1 then ((laws_heldCellS.f k ((rd_T79 x0 x5).f1) (wrap64 (x1 + 1))).bind fun t399 => (if t399 < 0 then (some (-1)) else (laws_heldCopyS.l0 k x0 t399 (wrap64 (x5 + 1))))) else (some (-1))) else (none)) else (some x1)
def laws_heldCopyS.f (k : Nat) (l0 : List (S79)) (a1 : Int) : Option (Int) := laws_heldCopyS.l0 k l0 a1 0

set_option maxHeartbeats 8000000 in
set_option maxRecDepth 100000 in
theorem laws_heldCopyS.calls (k : Nat) (A0 : Option Addr) (c0 : Nat) (l0 : List (S79)) (a1 : Int) (r : Int) (w : World) (hr0 : Kd.C k79 w A0 l0.length l0) (hc0 : l0.length ≤ c0) (h : laws_heldCopyS.f k l0 a1 = some r) :
    Calls Try.prog 78 #[.slice A0 l0.length c0, .int .i64 a1] w fun e w' => e = .returned (.int .i64 r) ∧ Drawn0 w w' := by
 have HR0 := Aside0.mk hr0
 have HC0 := Aside0.mk hc0
 clear hr0 hc0
 have H : (laws_heldCopyS.l0 k l0 a1 0) = some r := h
 clear h
 have H' := Aside0.mk H
 clear H
 go_enter Try.func78,Try.ntmps78
 go_wp2
 go_loopg [1,5] k (fun kq v1 v5 w' => ∃ (x1_1 : Int) (x5_1 : Int),v1 = .int .i64 x1_1 ∧ v5 = .int .i64 x5_1 ∧ Aside0 (laws_heldCopyS.l0 kq l0 x1_1 x5_1 = some r) ∧ Aside0 (kq ≤ k) ∧ Drawn0 w w')
 case atStart => exact ⟨(a1),(0),rs_,rs_,H',⟨Nat.le_refl _⟩,by repeat (first|exact Drawn0.refl _|apply Drawn0.step)⟩
 case round =>
  clear H'
  try clear p2
  obtain ⟨x1_1,x5_1,rfl,rfl,HA,HK1,⟨m1,rfl⟩⟩ := hrel
  cases gk with
    | zero => exact absurd HA.out (by simp [laws_heldCopyS.l0])
    | succ k1 =>
   have H := HA.out
   clear HA
   simp only [laws_heldCopyS.l0] at H
   by_cases c3 : x5_1 < (l0.length : Int)
   ·rw [if_pos c3] at H
    have c3b0 : decide (x5_1 < (l0.length : Int)) = true := decide_eq_true c3
    clear c3
    by_cases c4 : 0 ≤ x5_1
    ·rw [if_pos c4] at H
     have c4b0 : decide (0 ≤ x5_1) = true := decide_eq_true c4
     clear c4
     by_cases c5 : ((rd_T79 l0 x5_1).f0) = x1_1
     ·rw [if_pos c5] at H
      have c5b0 : (((rd_T79 l0 x5_1).f0) == x1_1) = true := beq_iff_eq.mpr c5
      have c5b1 : (((rd_T79 l0 x5_1).f0) != x1_1) = false := bne_eq_false_iff_eq.mpr c5
      clear c5
      replace H := bs_ H
      obtain ⟨t399,A6,H⟩ := H
      by_cases c7 : t399 < 0
      ·rw [if_pos c7] at H
       have c7b0 : decide (t399 < 0) = true := decide_eq_true c7
       clear c7
       obtain rfl := Option.some.inj H
       have p397 : 0 ≤ (x5_1 : Int) := od_
       have q397 : x5_1 < (l0.length : Int) := od_
       obtain ⟨ad397,A397_1,c397_1,e397,hx397_0,hx397_1,hl397_1,hi397_1⟩ := at_T79 HR0.out x5_1 p397 q397
       cases e397
       have HR397_1 := Aside0.mk hi397_1
       have HC397_1 := Aside0.mk hl397_1
       clear hi397_1 hl397_1
       replace p397 := eq_true p397
       replace q397 := eq_true q397
       have p398 : 0 ≤ (x5_1 : Int) := od_
       have q398 : x5_1 < (l0.length : Int) := od_
       obtain ⟨ad398,A398_1,c398_1,e398,hx398_0,hx398_1,hl398_1,hi398_1⟩ := at_T79 HR0.out x5_1 p398 q398
       obtain rfl : ad397 = ad398 := (by injection e398)
       have HR398_1 := Aside0.mk hi398_1
       have HC398_1 := Aside0.mk hl398_1
       clear hi398_1 hl398_1
       replace p398 := eq_true p398
       replace q398 := eq_true q398
       have ea_ := Option.some.inj (hx397_1.symm.trans hx398_1)
       injection ea_ with ea_ en_ ec_
       subst ea_
       subst ec_
       clear en_
       go_wp2_with (first|((with_reducible refine gcal_ (f := 20) rfl ?_);refine gl_ (some 27) Try.func20 #[.slice A397_1 ((rd_T79 l0 x5_1).f1).length c397_1,.int .i64 (wrap64 (x1_1 + 1))] ?_;(with_reducible refine (laws_heldCellS.calls k1 _ _ ((rd_T79 l0 x5_1).f1) (wrap64 (x1_1 + 1)) t399 _ ?side1 ?side2 A6.out).mono ?_);(case side1 => repeat (first|exact HR398_1.out|(with_reducible refine Kd.C_alloc ?_ _)|(with_reducible refine Kd.C_drewN ?_ _)|(with_reducible refine Kd.C_drew ?_)));(case side2 => exact HC398_1.out);rintro e w' ⟨rfl,⟨nd,rfl⟩⟩;refine ⟨_,rfl,?_⟩))
       go_ret
       exact ⟨rs_,by repeat (first|exact Drawn0.refl _|apply Drawn0.step)⟩
      ·rw [if_neg c7] at H
       have c7b0 : decide (t399 < 0) = false := decide_eq_false c7
       clear c7
       have H' := Aside0.mk H
       clear H
       have p397 : 0 ≤ (x5_1 : Int) := od_
       have q397 : x5_1 < (l0.length : Int) := od_
       obtain ⟨ad397,A397_1,c397_1,e397,hx397_0,hx397_1,hl397_1,hi397_1⟩ := at_T79 HR0.out x5_1 p397 q397
       cases e397
       have HR397_1 := Aside0.mk hi397_1
       have HC397_1 := Aside0.mk hl397_1
       clear hi397_1 hl397_1
       replace p397 := eq_true p397
       replace q397 := eq_true q397
       have p398 : 0 ≤ (x5_1 : Int) := od_
       have q398 : x5_1 < (l0.length : Int) := od_
       obtain ⟨ad398,A398_1,c398_1,e398,hx398_0,hx398_1,hl398_1,hi398_1⟩ := at_T79 HR0.out x5_1 p398 q398
       obtain rfl : ad397 = ad398 := (by injection e398)
       have HR398_1 := Aside0.mk hi398_1
       have HC398_1 := Aside0.mk hl398_1
       clear hi398_1 hl398_1
       replace p398 := eq_true p398
       replace q398 := eq_true q398
       have ea_ := Option.some.inj (hx397_1.symm.trans hx398_1)
       injection ea_ with ea_ en_ ec_
       subst ea_
       subst ec_
       clear en_
       go_wp2_with (first|((with_reducible refine gcal_ (f := 20) rfl ?_);refine gl_ (some 27) Try.func20 #[.slice A397_1 ((rd_T79 l0 x5_1).f1).length c397_1,.int .i64 (wrap64 (x1_1 + 1))] ?_;(with_reducible refine (laws_heldCellS.calls k1 _ _ ((rd_T79 l0 x5_1).f1) (wrap64 (x1_1 + 1)) t399 _ ?side1 ?side2 A6.out).mono ?_);(case side1 => repeat (first|exact HR398_1.out|(with_reducible refine Kd.C_alloc ?_ _)|(with_reducible refine Kd.C_drewN ?_ _)|(with_reducible refine Kd.C_drew ?_)));(case side2 => exact HC398_1.out);rintro e w' ⟨rfl,⟨nd,rfl⟩⟩;refine ⟨_,rfl,?_⟩))
       go_roundg k1
       case measure => have := HK1.out;omega
       case rel => exact ⟨(t399),(wrap64 (x5_1 + 1)),rs_,rs_,H',⟨by have := HK1.out;omega⟩,by repeat (first|exact Drawn0.refl _|apply Drawn0.step)⟩
     ·rw [if_neg c5] at H
      have c5b0 : (((rd_T79 l0 x5_1).f0) == x1_1) = false := beq_eq_false_iff_ne.mpr c5
      have c5b1 : (((rd_T79 l0 x5_1).f0) != x1_1) = true := bne_iff_ne.mpr c5
      obtain rfl := Option.some.inj H
      have p397 : 0 ≤ (x5_1 : Int) := od_
      have q397 : x5_1 < (l0.length : Int) := od_
      obtain ⟨ad397,A397_1,c397_1,e397,hx397_0,hx397_1,hl397_1,hi397_1⟩ := at_T79 HR0.out x5_1 p397 q397
      cases e397
      have HR397_1 := Aside0.mk hi397_1
      have HC397_1 := Aside0.mk hl397_1
      clear hi397_1 hl397_1
      replace p397 := eq_true p397
      replace q397 := eq_true q397
      go_wp2
      go_ret
      exact ⟨rs_,by repeat (first|exact Drawn0.refl _|apply Drawn0.step)⟩
    ·rw [if_neg c4] at H
     exact absurd H (by simp)
   ·rw [if_neg c3] at H
    have c3b0 : decide (x5_1 < (l0.length : Int)) = false := decide_eq_false c3
    clear c3
    obtain rfl := Option.some.inj H
    go_wp2
    go_ret
    exact ⟨rs_,by repeat (first|exact Drawn0.refl _|apply Drawn0.step)⟩

end Go.Proofs.Ythplaakckfhaaaa.XAp
