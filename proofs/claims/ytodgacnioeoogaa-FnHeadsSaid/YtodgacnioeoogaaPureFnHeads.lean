/- Proved: the law FnHeads answers true at every argument: the program answers as the reference, wherever the law's own guards let the argument in. Conditions: none beyond the given row's. -/
import Derived.Test.YtodgacnioeoogaaSFnHeads
import Derived.Test.YtodgacnioeoogaaGen
namespace Go.Proofs.Ytodgacnioeoogaa.Pure
open Go.RowKit Go.Proofs.Ytodgacnioeoogaa.XHe Go.Proofs.Ytodgacnioeoogaa.Opened Go.Proofs.YtodgacnioeoogaaW.PrintWords Go.Proofs.YtodgacnioeoogaaW.PrintLast Go.Proofs.Ytodgacnioeoogaa.SFnHeads Go.Proofs.Ytodgacnioeoogaa.Gen
set_option linter.unusedSimpArgs false
set_option linter.unusedVariables false
theorem in_ (a b c : Int) : spec_l1In.f a b c = some (decide (b ≤ a ∧ a ≤ c)) := by
  unfold spec_l1In.f
  by_cases h : a ≥ b <;> simp [h]
theorem within_ (a b c : Int) : impl_within.f a b c = some (decide (b ≤ a ∧ a ≤ c)) := by
  unfold impl_within.f
  by_cases h : a ≥ b <;> simp [h]
theorem new_ok (l : List Int) (hl : l.length ≤ maxLen) (k : Nat) (hk : l.length < k) : ∃ h, spec_l1New.f k l = some (l, 0, h) := by
  unfold maxLen at hl
  obtain ⟨r, ⟨h, rfl⟩, e⟩ := loop_inv (fun k (s : Int × Int) => spec_l1New.l0 k l s.1 s.2) (fun i s => s.2 = (i : Int)) (fun r => ∃ h, r = (l, 0, h)) l.length 0
    (fun k i s _ hi hP => .inl ⟨(Go.bits .and .i64 (wrap64 ((wrap64 ((wrap64 (s.1 * 137)) + (wrap64 (rd l s.2)))) + 11)) 1073741823, wrap64 (s.2 + 1)), by
      show wrap64 (s.2 + 1) = ((i + 1 : Nat) : Int)
      rw [hP, wrap_of (by omega) (by omega)]; omega, by
      show spec_l1New.l0 (k + 1) l s.1 s.2 = _
      simp only [spec_l1New.l0]
      rw [if_pos (by omega), if_pos (by omega)]⟩)
    (fun k s _ hP => ⟨_, ⟨s.1, rfl⟩, by
      show spec_l1New.l0 (k + 1) l s.1 s.2 = _
      simp only [spec_l1New.l0]
      rw [if_neg (by omega)]⟩) l.length 0 k (wrap64 (101027 + (l.length : Int)), 0) (by omega) (by omega) rfl
  exact ⟨h, e⟩
theorem byte_ok (l : List Int) (hl : l.length ≤ maxLen) (i h : Int) (hi : 0 ≤ i) : Ok (fun r : Int × Int × Int => 0 ≤ r.1 ∧ r.1 ≤ 255 ∧ 0 ≤ r.2.1) (spec_l1Byte.f l i h) := by
  unfold maxLen at hl
  unfold spec_l1Byte.f
  refine Ok.ite (fun h1 => Ok.pos hi (Ok.ret ?_)) (fun _ => Ok.ret ?_)
  · simp only [and255]
    refine ⟨by omega, by omega, ?_⟩
    rw [wrap_of (by omega) (by omega)]; omega
  · simp only [and255]
    exact ⟨by omega, by omega, hi⟩
theorem below_ok (l : List Int) (hl : l.length ≤ maxLen) (i h : Int) (hi : 0 ≤ i) (n : Int) : Ok (fun r : Int × Int × Int => 0 ≤ r.1 ∧ (0 < n → r.1 < n) ∧ (n ≤ 0 → r.1 = 0) ∧ 0 ≤ r.2.1) (spec_l1Below.f l i h n) := by
  unfold spec_l1Below.f
  refine Ok.ite (fun h1 => Ok.ret ⟨by omega, by omega, by omega, hi⟩) (fun h1 => Ok.ite (fun h2 => ?_) (fun h2 => ?_))
  · refine Ok.bind (byte_ok l hl i h hi) fun r hr => Ok.neg (by omega) (Ok.ret ?_)
    obtain ⟨b, i', h'⟩ := r
    obtain ⟨q1, q2, q3⟩ := hr
    dsimp only at *
    rw [Int.tmod_eq_emod_of_nonneg q1]
    exact ⟨Int.emod_nonneg _ (by omega), fun _ => Int.emod_lt_of_pos _ (by omega), by omega, q3⟩
  · refine Ok.bind (byte_ok l hl i h hi) fun r1 h1' => Ok.bind (byte_ok l hl r1.2.1 r1.2.2 h1'.2.2) fun r2 h2' => Ok.bind (byte_ok l hl r2.2.1 r2.2.2 h2'.2.2) fun r3 h3' => Ok.bind (byte_ok l hl r3.2.1 r3.2.2 h3'.2.2) fun r4 h4' => Ok.neg (by omega) (Ok.ret ?_)
    obtain ⟨b1, i1, h1⟩ := r1
    obtain ⟨b2, i2, h2⟩ := r2
    obtain ⟨b3, i3, h3⟩ := r3
    obtain ⟨b4, i4, h4⟩ := r4
    obtain ⟨p1, p2, p3⟩ := h1'
    obtain ⟨q1, q2, q3⟩ := h2'
    obtain ⟨u1, u2, u3⟩ := h3'
    obtain ⟨v1, v2, v3⟩ := h4'
    dsimp only at *
    rw [wrap_of (x := b1 * 16777216) (by omega) (by omega), wrap_of (x := b2 * 65536) (by omega) (by omega), wrap_of (x := b1 * 16777216 + b2 * 65536) (by omega) (by omega), wrap_of (x := b3 * 256) (by omega) (by omega), wrap_of (x := b1 * 16777216 + b2 * 65536 + b3 * 256) (by omega) (by omega), wrap_of (x := b1 * 16777216 + b2 * 65536 + b3 * 256 + b4) (by omega) (by omega), Int.tmod_eq_emod_of_nonneg (by omega)]
    exact ⟨Int.emod_nonneg _ (by omega), fun _ => Int.emod_lt_of_pos _ (by omega), by omega, v3⟩
theorem once_ok (l : List Int) (hl : l.length ≤ maxLen) (i h : Int) (hi : 0 ≤ i) (n : Int) : Ok (fun r : Bool × Int × Int => 0 ≤ r.2.1) (spec_l1Once.f l i h n) := by
  unfold spec_l1Once.f
  exact Ok.bind (below_ok l hl i h hi n) fun r hr => Ok.ret hr.2.2.2
theorem pack_eq (a : Int) (u l : Bool) : impl_Pack.f a u l = spec_Pack.f a u l := by
  simp only [impl_Pack.f, spec_Pack.f, spec_l1Version.f, within_, in_, Option.bind_some]
  rfl
theorem next_eq (a : Int) (u : Bool) : impl_Next.f a u = spec_Next.f a u := by
  simp only [impl_Next.f, spec_Next.f, spec_HeadOk.f, impl_isHead.f, within_, in_, Option.bind_some]
  rfl
theorem drawPack_ok (l : List Int) (hl : l.length ≤ maxLen) (k : Nat) (hk : l.length < k) : Ok (fun _ => True) (spec_DrawPack.f k l) := by
  unfold spec_DrawPack.f
  obtain ⟨h, e⟩ := new_ok l hl k hk
  rw [e]
  simp only [Option.bind_some]
  refine Ok.bind (below_ok l hl 0 h (Int.le_refl 0) 40) fun r1 h1 => Ok.bind (once_ok l hl _ _ h1.2.2.2 8) fun r2 h2 => Ok.ite (fun _ => ?_) (fun _ => ?_)
  · (try simp only [Option.bind_some])
    refine Ok.bind (below_ok l hl _ _ h2 4) fun r3 h3 => ?_
    refine Ok.pos h3.1 (Ok.pos (by have := h3.2.1 (by decide); simp; omega) ?_)
    exact Ok.bind (once_ok l hl _ _ h3.2.2.2 2) fun r4 h4 => Ok.bind (once_ok l hl _ _ h4 2) fun r5 _ => Ok.ret trivial
  · exact Ok.bind (once_ok l hl _ _ h2 2) fun r4 h4 => Ok.bind (once_ok l hl _ _ h4 2) fun r5 _ => Ok.ret trivial
theorem drawHead_ok (l : List Int) (hl : l.length ≤ maxLen) (i h : Int) (hi : 0 ≤ i) : Ok (fun r : Int × Int × Int => 0 ≤ r.2.1) (spec_l1DrawHead.f l i h) := by
  unfold spec_l1DrawHead.f
  refine Ok.bind (once_ok l hl i h hi 10) fun r2 h2 => Ok.ite (fun _ => ?_) (fun _ => ?_)
  · (try simp only [Option.bind_some])
    refine Ok.bind (below_ok l hl _ _ h2 7) fun r3 h3 => ?_
    exact Ok.pos h3.1 (Ok.pos (by have := h3.2.1 (by decide); simp; omega) (Ok.ret h3.2.2.2))
  · refine Ok.bind (below_ok l hl _ _ h2 60) fun r3 h3 => ?_
    exact Ok.ret h3.2.2.2
theorem drawNext_ok (l : List Int) (hl : l.length ≤ maxLen) (k : Nat) (hk : l.length < k) : Ok (fun _ => True) (spec_DrawNext.f k l) := by
  unfold spec_DrawNext.f
  obtain ⟨h, e⟩ := new_ok l hl k hk
  rw [e]
  simp only [Option.bind_some]
  exact Ok.bind (drawHead_ok l hl 0 h (Int.le_refl 0)) fun r1 h1 => Ok.bind (once_ok l hl _ _ h1 2) fun r2 _ => Ok.ret trivial
theorem half (x : Int) (h0 : 0 ≤ x) (h1 : x ≤ 4000003) : wrap64 (Int.tdiv x 4) = x / 4 := by
  rw [Int.tdiv_eq_ediv_of_nonneg h0, wrap_of (by omega) (by omega)]
theorem spec_pack (a : Int) (u l : Bool) : spec_Pack.f a u l = some (if 0 ≤ a ∧ a ≤ 1000000 then (4 * a + (if u then 2 else 0) + (if l then 1 else 0), true) else (0, false)) := by
  simp only [spec_Pack.f, spec_l1Version.f, in_, Option.bind_some]
  by_cases h : 0 ≤ a ∧ a ≤ 1000000
  · rw [if_pos h, if_pos (by simpa using h)]
    have w0 : wrap64 (4 * a) = 4 * a := wrap_of (by omega) (by omega)
    have w1 : wrap64 (4 * a + 1) = 4 * a + 1 := wrap_of (by omega) (by omega)
    have w2 : wrap64 (4 * a + 2) = 4 * a + 2 := wrap_of (by omega) (by omega)
    have w3 : wrap64 (4 * a + 2 + 1) = 4 * a + 2 + 1 := wrap_of (by omega) (by omega)
    cases u <;> cases l <;> simp [spec_l1Head.f, w0, w1, w2, w3]
  · rw [if_neg h, if_neg (by simpa using h)]
theorem spec_next (a : Int) (u : Bool) : spec_Next.f a u = some (if 0 ≤ a ∧ a ≤ 4000003 ∧ a / 4 ≠ 1000000 then (4 * (a / 4 + 1) + (if u then 2 else 0), true) else (0, false)) := by
  simp only [spec_Next.f, spec_HeadOk.f, in_, Option.bind_some]
  by_cases h : 0 ≤ a ∧ a ≤ 4000003
  · rw [if_pos (by simpa using h), half a h.1 h.2]
    by_cases h1 : a / 4 = 1000000
    · rw [if_pos h1, if_neg (by omega)]
    · rw [if_neg h1, if_pos (by omega), wrap_of (x := a / 4 + 1) (by omega) (by omega)]
      have w0 : wrap64 (4 * (a / 4 + 1)) = 4 * (a / 4 + 1) := wrap_of (by omega) (by omega)
      have w2 : wrap64 (4 * (a / 4 + 1) + 2) = 4 * (a / 4 + 1) + 2 := wrap_of (by omega) (by omega)
      cases u <;> simp [spec_l1Head.f, w0, w2]
  · rw [if_neg (by simpa using h), if_neg (by omega)]
theorem ver (a : Int) : impl_Version.f a = some (if 0 ≤ a ∧ a ≤ 4000003 then a / 4 else -1) := by
  simp only [impl_Version.f, impl_isHead.f, within_, Option.bind_some]
  by_cases h : 0 ≤ a ∧ a ≤ 4000003
  · rw [if_pos (by simpa using h), if_pos h, half a h.1 h.2]
  · rw [if_neg (by simpa using h), if_neg h]
theorem usd (a : Int) : impl_Used.f a = some (decide (0 ≤ a ∧ a ≤ 4000003 ∧ a / 2 % 2 = 1)) := by
  simp only [impl_Used.f, impl_isHead.f, within_, Option.bind_some, and2]
  by_cases h : 0 ≤ a ∧ a ≤ 4000003
  · rw [if_pos (by simpa using h)]
    rcases (by omega : a / 2 % 2 = 0 ∨ a / 2 % 2 = 1) with e | e <;> rw [e] <;> simp [h]
  · rw [if_neg (by simpa using h)]
    simp; omega
theorem lkd (a : Int) : impl_Locked.f a = some (decide (0 ≤ a ∧ a ≤ 4000003 ∧ a % 2 = 1)) := by
  simp only [impl_Locked.f, impl_isHead.f, within_, Option.bind_some, and1]
  by_cases h : 0 ≤ a ∧ a ≤ 4000003
  · rw [if_pos (by simpa using h)]
    rcases (by omega : a % 2 = 0 ∨ a % 2 = 1) with e | e <;> rw [e] <;> simp [h]
  · rw [if_neg (by simpa using h)]
    simp; omega
theorem hok (a : Int) : impl_HeadOk.f a = some (decide (0 ≤ a ∧ a ≤ 4000003)) := by
  simp only [impl_HeadOk.f, impl_isHead.f, within_, Option.bind_some]
theorem j2_ok (x : Int) (w : Bool) (k : Nat) : ∀ n fine, spec_Next.f x w = some (n, fine) → laws_FnHeads.j2 (k + 1) x w n fine false = some true := by
  intro n fine h
  rw [spec_next] at h
  simp only [laws_FnHeads.j2, ver, usd, lkd, hok, Option.bind_some]
  by_cases hx : 0 ≤ x ∧ x ≤ 4000003 ∧ x / 4 ≠ 1000000
  · rw [if_pos hx] at h
    obtain ⟨rfl, rfl⟩ := Prod.mk.inj (Option.some.inj h)
    cases w
    · have e1 : (4 * (x / 4 + 1) + (if false = true then 2 else 0) : Int) = 4 * (x / 4 + 1) := by simp
      rw [e1, if_pos (show 0 ≤ 4 * (x / 4 + 1) ∧ 4 * (x / 4 + 1) ≤ 4000003 by omega), if_pos (show 0 ≤ x ∧ x ≤ 4000003 by omega), wrap_of (x := x / 4 + 1) (by omega) (by omega)]
      have e2 : 4 * (x / 4 + 1) / 4 = x / 4 + 1 := by omega
      have e3 : ¬ (4 * (x / 4 + 1) / 2 % 2 = 1) := by omega
      have e4 : ¬ (4 * (x / 4 + 1) % 2 = 1) := by omega
      simp [e2, e3, e4]
    · have e1 : (4 * (x / 4 + 1) + (if true = true then 2 else 0) : Int) = 4 * (x / 4 + 1) + 2 := by simp
      rw [e1, if_pos (show 0 ≤ 4 * (x / 4 + 1) + 2 ∧ 4 * (x / 4 + 1) + 2 ≤ 4000003 by omega), if_pos (show 0 ≤ x ∧ x ≤ 4000003 by omega), wrap_of (x := x / 4 + 1) (by omega) (by omega)]
      have e2 : (4 * (x / 4 + 1) + 2) / 4 = x / 4 + 1 := by omega
      have e3 : (4 * (x / 4 + 1) + 2) / 2 % 2 = 1 := by omega
      have e4 : ¬ ((4 * (x / 4 + 1) + 2) % 2 = 1) := by omega
      have e5 : 0 ≤ 4 * (x / 4 + 1) + 2 := by omega
      have e6 : 4 * (x / 4 + 1) + 2 ≤ 4000003 := by omega
      have e7 : ¬ (4 * (x / 4 + 1) % 2 = 1) := by omega
      simp [e2, e3, e4, e5, e6, e7]
  · rw [if_neg hx] at h
    obtain ⟨rfl, rfl⟩ := Prod.mk.inj (Option.some.inj h)
    by_cases h1 : 0 ≤ x ∧ x ≤ 4000003
    · have h2 : x / 4 = 1000000 := by omega
      simp [h1, h2]
    · simp [h1]
theorem j1_ok (l : List Int) (hl : l.length ≤ maxLen) (k : Nat) (hk : l.length < k + 1) : laws_FnHeads.j1 (k + 1 + 1) l false = some true := by
  obtain ⟨⟨x, w⟩, e, _⟩ := drawNext_ok l hl (k + 1) hk
  simp only [laws_FnHeads.j1, e, Option.bind_some, next_eq]
  have h := j2_ok x w k
  obtain ⟨⟨n, fine⟩, en⟩ : ∃ r, spec_Next.f x w = some r := ⟨_, spec_next x w⟩
  rw [en]
  simp [h n fine en]
theorem j0_ok (l : List Int) (hl : l.length ≤ maxLen) (v : Int) (u b : Bool) (k : Nat) (hk : l.length < k + 1) : ∀ h is, spec_Pack.f v u b = some (h, is) → laws_FnHeads.j0 (k + 1 + 1 + 1) l v u b h is false = some true := by
  intro h is e
  rw [spec_pack] at e
  simp only [laws_FnHeads.j0, ver, usd, lkd, hok, Option.bind_some, j1_ok l hl k hk]
  by_cases hv : 0 ≤ v ∧ v ≤ 1000000
  · rw [if_pos hv] at e
    obtain ⟨rfl, rfl⟩ := Prod.mk.inj (Option.some.inj e)
    have key : ∀ z : Int, 4 * v ≤ z → z ≤ 4 * v + 3 → 0 ≤ z ∧ z ≤ 4000003 ∧ z / 4 = v := fun z a c => by omega
    cases u <;> cases b <;> simp only [if_true, if_false, Bool.false_eq_true, Int.add_zero]
    · obtain ⟨q1, q2, q3⟩ := key (4 * v) (by omega) (by omega)
      have q4 : ¬ (4 * v / 2 % 2 = 1) := by omega
      have q5 : ¬ (4 * v % 2 = 1) := by omega
      simp [q1, q2, q3, q4, q5, j1_ok l hl k hk]
    · obtain ⟨q1, q2, q3⟩ := key (4 * v + 1) (by omega) (by omega)
      have q4 : ¬ ((4 * v + 1) / 2 % 2 = 1) := by omega
      have q5 : (4 * v + 1) % 2 = 1 := by omega
      simp [q1, q2, q3, q4, q5, j1_ok l hl k hk]
    · obtain ⟨q1, q2, q3⟩ := key (4 * v + 2) (by omega) (by omega)
      have q4 : (4 * v + 2) / 2 % 2 = 1 := by omega
      have q5 : ¬ ((4 * v + 2) % 2 = 1) := by omega
      have q6 : ¬ (4 * v % 2 = 1) := by omega
      simp [q1, q2, q3, q4, q5, q6, j1_ok l hl k hk]
    · obtain ⟨q1, q2, q3⟩ := key (4 * v + 2 + 1) (by omega) (by omega)
      have q4 : (4 * v + 2 + 1) / 2 % 2 = 1 := by omega
      have q5 : (4 * v + 2 + 1) % 2 = 1 := by omega
      simp [q1, q2, q3, q4, q5, j1_ok l hl k hk]
  · rw [if_neg hv] at e
    obtain ⟨rfl, rfl⟩ := Prod.mk.inj (Option.some.inj e)
    simp [j1_ok l hl k hk]
theorem FnHeads : SFnHeads.Pure := by
  intro l hl _
  refine ⟨l.length + 1 + 1 + 1, ?_⟩
  unfold laws_FnHeads.f
  simp only [laws_big.f, Option.bind_some]
  by_cases hb : (l.length : Int) > 4096
  · rw [if_pos (by simpa using hb)]
  · rw [if_neg (by simpa using hb)]
    obtain ⟨⟨v, u, b⟩, e, _⟩ := drawPack_ok l hl (l.length + 1 + 1 + 1) (by omega)
    rw [e]
    simp only [Option.bind_some, pack_eq]
    obtain ⟨⟨h, is⟩, en⟩ : ∃ r, spec_Pack.f v u b = some r := ⟨_, spec_pack v u b⟩
    rw [en]
    simp [j0_ok l hl v u b l.length (by omega) h is en]
end Go.Proofs.Ytodgacnioeoogaa.Pure
