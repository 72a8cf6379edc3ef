import PyProof.Rows.All
import Wide.All
import OpenK.AllK
import Wide.FinOn
import PyProof.EqAt
import PyProof.EqKinds
import PyProof.TupleCall
import Open.SpecLaws
import KE.OsGo
import PySem.Challenge.RW_keptpossible_s01_answers
import HandS.ForSpec
import KE.LtSeq
import HandS.Comp
import HandS.Dict
import HandS.Iter
import HandS.Conv
import HandS.ExcInit
import HandS.ExcField
import HandS.CallSlots
import HandS.Text
import HandS.Walk
set_option Elab.async false
set_option linter.all false
section
/-! Plain law, part A: bits, steps, reach, «possible». -/
namespace KpM
open Kp371 Kp373

/-! ### bits -/
theorem within_iff {m a : Nat} (hm : m ≤ 5) : (a ||| (2 ^ m - 1) = 2 ^ m - 1) ↔ a < 2 ^ m := by
  constructor
  · intro h
    have h1 : a ≤ a ||| (2 ^ m - 1) := Nat.left_le_or
    rw [h] at h1
    have h2 : 0 < 2 ^ m := Nat.two_pow_pos m
    omega
  · intro h
    apply Nat.eq_of_testBit_eq
    intro i
    rw [Nat.testBit_or, Nat.testBit_two_pow_sub_one]
    by_cases hi : i < m
    · simp [hi]
    · have : a.testBit i = false := Nat.testBit_lt_two_pow (Nat.lt_of_lt_of_le h (Nat.pow_le_pow_right (by decide) (by omega)))
      simp [hi, this]
theorem or_and_iff {a b : Nat} : (b ||| a = a) ↔ (b &&& a = b) := by
  constructor
  · intro h
    apply Nat.eq_of_testBit_eq
    intro i
    have h1 := congrArg (fun x => Nat.testBit x i) h
    simp only [Nat.testBit_or, Nat.testBit_and] at h1 ⊢
    revert h1
    cases b.testBit i <;> cases a.testBit i <;> simp
  · intro h
    apply Nat.eq_of_testBit_eq
    intro i
    have h1 := congrArg (fun x => Nat.testBit x i) h
    simp only [Nat.testBit_or, Nat.testBit_and] at h1 ⊢
    revert h1
    cases b.testBit i <;> cases a.testBit i <;> simp
theorem xor_sub (s c : Nat) (hs : s < 32) (hc : c < 32) : (s ||| c) ^^^ c = s - (s &&& c) := by
  have key : ∀ (x : Fin 32) (y : Fin 32), (x.val ||| y.val) ^^^ y.val = x.val - (x.val &&& y.val) := by decide +kernel
  exact key ⟨s, hs⟩ ⟨c, hc⟩
theorem and_lt {a b n : Nat} (h : b < 2 ^ n) : a &&& b < 2 ^ n := Nat.lt_of_le_of_lt Nat.and_le_right h
theorem le32 {m x : Nat} (hm : m ≤ 5) (h : x < 2 ^ m) : x < 32 := Nat.lt_of_lt_of_le h (Nat.pow_le_pow_right (by decide) hm)

/-! ### what is well told -/
structure OkD (m : Nat) (d : Deed) : Prop where
  needs : d.needs < 2 ^ m
  so : d.so &&& d.needs = d.so
  makes : d.makes < 2 ^ m
  thus : d.thus &&& d.makes = d.thus
structure OkW (w : World) : Prop where
  lo : 2 ≤ w.m
  hi : w.m ≤ 5
  deeds : ∀ d ∈ w.deeds, OkD w.m d
  nd : w.deeds.length ≤ 6
  events : ∀ d ∈ w.events, OkD w.m d
  ne : w.events.length ≤ 3
  now : w.now < 2 ^ w.m
structure OkK (d : Desk) : Prop where
  w : OkW d.world
  na : d.aims.length ≤ 6
  aims : ∀ x ∈ d.aims, x.a < 2 ^ d.world.m ∧ x.w &&& x.a = x.w ∧ x.worth ≤ 100 ∧ x.steps ≤ 40
theorem OkD.thusLt {m : Nat} {d : Deed} (h : OkD m d) : d.thus < 2 ^ m := by
  have := h.thus
  have h2 : d.thus ≤ d.makes := by
    rw [← this]
    exact Nat.and_le_right
  exact Nat.lt_of_le_of_lt h2 h.makes
theorem done_lt {m s : Nat} {d : Deed} (h : OkD m d) (hs : s < 2 ^ m) : done_ s d < 2 ^ m := by
  unfold done_
  exact Nat.or_lt_two_pow (Nat.lt_of_le_of_lt (Nat.sub_le _ _) hs) h.thusLt
theorem happen_lt {w : World} {s : Nat} (h : OkW w) (hs : s < 2 ^ w.m) : happen w s < 2 ^ w.m := by
  have key : ∀ (l : List Deed) (s : Nat), (∀ d ∈ l, OkD w.m d) → s < 2 ^ w.m → l.foldl (fun (s : Nat) (e : Deed) => if able s e then done_ s e else s) s < 2 ^ w.m := by
    intro l
    induction l with
    | nil =>
      intro s _ hs
      exact hs
    | cons e l ih =>
      intro s hd hs
      rw [List.foldl_cons]
      apply ih _ (fun d hd' => hd d (List.mem_cons_of_mem _ hd'))
      split
      · exact done_lt (hd e List.mem_cons_self) hs
      · exact hs
  exact key w.events s h.events hs

/-! ### steps -/
def stepTo (w : World) (s i : Nat) : Nat := happen w (match w.deeds[i]? with
  | some d => done_ s d
  | none => s)
def letBy (w : World) (s i : Nat) : Bool := match w.deeds[i]? with
  | some d => able s d
  | none => i == w.deeds.length
def foll (w : World) (s : Nat) : List (Nat × Nat) := ((choices w).filter (letBy w s)).map fun i => (i, stepTo w s i)
theorem stepBy_eq (w : World) (s i : Nat) : stepBy w s i = if letBy w s i = true then some (stepTo w s i) else none := by
  unfold stepBy letBy stepTo
  cases h : w.deeds[i]? with
  | some d => rfl
  | none => simp
theorem stepTo_lt {w : World} (h : OkW w) {s i : Nat} (hs : s < 2 ^ w.m) : stepTo w s i < 2 ^ w.m := by
  unfold stepTo
  apply happen_lt h
  cases hd : w.deeds[i]? with
  | some d => exact done_lt (h.deeds d (List.mem_of_getElem? hd)) hs
  | none => exact hs
theorem mem_foll {w : World} {s i t : Nat} : (i, t) ∈ foll w s ↔ stepBy w s i = some t ∧ i ∈ choices w := by
  unfold foll
  rw [List.mem_map, stepBy_eq]
  constructor
  · rintro ⟨j, hj, e⟩
    rw [List.mem_filter] at hj
    cases e
    exact ⟨by rw [if_pos hj.2], hj.1⟩
  · rintro ⟨h, hc⟩
    by_cases hl : letBy w s i = true
    · rw [if_pos hl] at h
      exact ⟨i, List.mem_filter.mpr ⟨hc, hl⟩, by rw [Option.some.inj h]⟩
    · rw [if_neg hl] at h
      cases h
theorem step_choice {w : World} {s i t : Nat} (h : stepBy w s i = some t) : i ∈ choices w := by
  unfold choices
  rw [List.mem_range]
  unfold stepBy at h
  cases hd : w.deeds[i]? with
  | some d =>
    have := (List.getElem?_eq_some_iff.mp hd).1
    omega
  | none =>
    rw [hd] at h
    simp only at h
    split at h
    · omega
    · cases h
theorem mem_nexts {w : World} {s t : Nat} : t ∈ nexts w s ↔ ∃ i, stepBy w s i = some t := by
  unfold nexts
  rw [List.mem_filterMap]
  constructor
  · rintro ⟨i, _, h⟩
    exact ⟨i, h⟩
  · rintro ⟨i, h⟩
    exact ⟨i, step_choice h, h⟩
theorem nexts_foll {w : World} {s : Nat} : nexts w s = (foll w s).map (·.2) := by
  have key : ∀ l : List Nat, l.filterMap (stepBy w s) = ((l.filter (letBy w s)).map fun i => (i, stepTo w s i)).map (·.2) := by
    intro l
    induction l with
    | nil => rfl
    | cons i l ih =>
      rw [List.filterMap_cons, stepBy_eq, List.filter_cons]
      by_cases h : letBy w s i = true
      · simp only [h, if_true, List.map_cons, ih]
      · simp only [h, if_false, ih, Bool.false_eq_true]
  exact key _
theorem step_lt {w : World} (h : OkW w) {s i t : Nat} (hs : s < 2 ^ w.m) (e : stepBy w s i = some t) : t < 2 ^ w.m := by
  rw [stepBy_eq] at e
  split at e
  · cases e
    exact stepTo_lt h hs
  · cases e
theorem itself_lt {w : World} (h : OkW w) : ∀ (k s : Nat), s < 2 ^ w.m → itself w s k < 2 ^ w.m
  | 0, s, hs => hs
  | k + 1, s, hs => itself_lt h k _ (happen_lt h hs)
theorem itself_succ (w : World) : ∀ (k s : Nat), itself w s (k + 1) = happen w (itself w s k)
  | 0, s => rfl
  | k + 1, s => by
    show itself w (happen w s) (k + 1) = happen w (itself w (happen w s) k)
    exact itself_succ w k (happen w s)
theorem stepTo_wait (w : World) (s : Nat) : stepTo w s w.deeds.length = happen w s := by
  unfold stepTo
  rw [List.getElem?_eq_none (Nat.le_refl _)]

/-! ### reach -/
/-- behind just so many steps -/
def R (w : World) (s : Nat) : Nat → Nat → Prop
  | 0, x => x = s
  | k + 1, x => ∃ u, R w s k u ∧ x ∈ nexts w u
/-- behind so many steps or fewer -/
def RA (w : World) (s k x : Nat) : Prop := ∃ j, j ≤ k ∧ R w s j x
theorem R_lt {w : World} (h : OkW w) {s : Nat} (hs : s < 2 ^ w.m) : ∀ {k x : Nat}, R w s k x → x < 2 ^ w.m
  | 0, x, r => by
    rw [show x = s from r]
    exact hs
  | k + 1, x, ⟨u, hu, hx⟩ => by
    obtain ⟨i, e⟩ := mem_nexts.mp hx
    exact step_lt h (R_lt h hs hu) e
theorem RA_lt {w : World} (h : OkW w) {s : Nat} (hs : s < 2 ^ w.m) {k x : Nat} (r : RA w s k x) : x < 2 ^ w.m := by
  obtain ⟨j, _, hr⟩ := r
  exact R_lt h hs hr
theorem RA_zero {w : World} {s x : Nat} : RA w s 0 x ↔ x = s := by
  constructor
  · rintro ⟨j, hj, hr⟩
    have : j = 0 := by omega
    subst this
    exact hr
  · intro h
    exact ⟨0, Nat.le_refl _, h⟩
theorem RA_mono {w : World} {s k l x : Nat} (h : k ≤ l) (r : RA w s k x) : RA w s l x := by
  obtain ⟨j, hj, hr⟩ := r
  exact ⟨j, by omega, hr⟩
theorem RA_succ {w : World} {s k x : Nat} : RA w s (k + 1) x ↔ RA w s k x ∨ ∃ u, RA w s k u ∧ x ∈ nexts w u := by
  constructor
  · rintro ⟨j, hj, hr⟩
    cases j with
    | zero => exact .inl ⟨0, Nat.zero_le _, hr⟩
    | succ j =>
      obtain ⟨u, hu, hx⟩ := hr
      exact .inr ⟨u, ⟨j, by omega, hu⟩, hx⟩
  · rintro (h | ⟨u, ⟨j, hj, hu⟩, hx⟩)
    · exact RA_mono (Nat.le_succ _) h
    · exact ⟨j + 1, by omega, u, hu, hx⟩
/-- nothing new behind k + 1 steps: nothing new ever -/
theorem RA_stop {w : World} {s k : Nat} (h : ∀ x, RA w s (k + 1) x → RA w s k x) : ∀ n x, RA w s n x → RA w s k x := by
  intro n
  induction n with
  | zero => exact fun x hx => RA_mono (Nat.zero_le _) hx
  | succ n ih =>
    intro x hx
    rcases RA_succ.mp hx with hx | ⟨u, hu, hx⟩
    · exact ih x hx
    · exact h x (RA_succ.mpr (.inr ⟨u, ih u hu, hx⟩))

/-! ### the specification's fewest -/
theorem mem_wider {w : World} {l : List Nat} {x : Nat} : x ∈ wider w l ↔ x < 2 ^ w.m ∧ (x ∈ l ∨ ∃ u ∈ l, x ∈ nexts w u) := by
  unfold wider
  simp only [states, List.mem_filter, List.mem_range, List.contains_eq_mem, List.mem_append, List.mem_flatMap, decide_eq_true_eq]
theorem wider_nodup {w : World} {l : List Nat} : (wider w l).Nodup := by
  unfold wider
  exact List.Nodup.sublist List.filter_sublist List.nodup_range
/-- a list of numbers below n, none twice, has at most n -/
theorem nodup_le (n : Nat) (l : List Nat) (hn : l.Nodup) (hb : ∀ x ∈ l, x < n) : l.length ≤ n := by
  have h := List.Nodup.length_le_of_subset hn (l₂ := List.range n) (fun x hx => List.mem_range.mpr (hb x hx))
  rwa [List.length_range] at h
theorem subset_len {l m : List Nat} (hl : l.Nodup) (hs : ∀ x ∈ l, x ∈ m) : l.length ≤ m.length := List.Nodup.length_le_of_subset hl (fun x hx => hs x hx)
theorem subset_eq {l m : List Nat} (hl : l.Nodup) (hs : ∀ x ∈ l, x ∈ m) (hlen : m.length = l.length) : ∀ x ∈ m, x ∈ l := by
  intro x hx
  by_cases h : x ∈ l
  · exact h
  · have hn : (x :: l).Nodup := List.nodup_cons.mpr ⟨h, hl⟩
    have hle := subset_len hn (m := m) (fun y hy => by
      rcases List.mem_cons.mp hy with e | e
      · rw [e]
        exact hx
      · exact hs y e)
    rw [List.length_cons] at hle
    omega
theorem goFewest_spec {w : World} (h : OkW w) {s : Nat} (hs : s < 2 ^ w.m) (f : Nat → Bool) : ∀ (g k : Nat) (l : List Nat), l.Nodup → (∀ x, x ∈ l ↔ RA w s k x) → (∀ j, j < k → ∀ x, RA w s j x → f x = false) → 2 ^ w.m + 1 ≤ g + l.length →
    0 < g → (∀ n, goFewest w f g k l = some n → (∃ x, RA w s n x ∧ f x = true) ∧ ∀ j, j < n → ∀ x, RA w s j x → f x = false) ∧ (goFewest w f g k l = none → ∀ j x, RA w s j x → f x = false) := by
  intro g
  induction g with
  | zero =>
    intro k l _ _ _ _ h0
    omega
  | succ g ih =>
    intro k l hn hl hf hg _
    unfold goFewest
    by_cases ha : l.any f = true
    · rw [if_pos ha]
      obtain ⟨x, hx, fx⟩ := List.any_eq_true.mp ha
      refine ⟨fun n e => ?_, fun e => by cases e⟩
      cases e
      exact ⟨⟨x, (hl x).mp hx, fx⟩, hf⟩
    · rw [if_neg ha]
      have nf : ∀ x, RA w s k x → f x = false := fun x hx => by
        cases e : f x with
        | false => rfl
        | true => exact absurd (List.any_eq_true.mpr ⟨x, (hl x).mpr hx, e⟩) ha
      have hm : ∀ x, x ∈ wider w l ↔ RA w s (k + 1) x := fun x => by
        rw [mem_wider, RA_succ]
        constructor
        · rintro ⟨_, hx | ⟨u, hu, hx⟩⟩
          · exact .inl ((hl x).mp hx)
          · exact .inr ⟨u, (hl u).mp hu, hx⟩
        · intro hx
          refine ⟨RA_lt h hs (RA_succ.mpr hx), ?_⟩
          rcases hx with hx | ⟨u, hu, hx⟩
          · exact .inl ((hl x).mpr hx)
          · exact .inr ⟨u, (hl u).mpr hu, hx⟩
      have hsub : ∀ x ∈ l, x ∈ wider w l := fun x hx => (hm x).mpr (RA_mono (Nat.le_succ _) ((hl x).mp hx))
      show (∀ n, (if (wider w l).length = l.length then none else goFewest w f g (k + 1) (wider w l)) = some n → _) ∧ ((if (wider w l).length = l.length then none else goFewest w f g (k + 1) (wider w l)) = none → _)
      by_cases he : (wider w l).length = l.length
      · rw [if_pos he]
        refine ⟨fun n e => (by cases e), fun _ j x hx => nf x ?_⟩
        refine RA_stop (fun y hy => ?_) j x hx
        exact (hl y).mp (subset_eq hn hsub he y ((hm y).mpr hy))
      · rw [if_neg he]
        have hlen := subset_len hn hsub
        have hb := nodup_le (2 ^ w.m) (wider w l) wider_nodup (fun x hx => (mem_wider.mp hx).1)
        refine ih (k + 1) (wider w l) wider_nodup hm (fun j hj x hx => ?_) (by omega) (by omega)
        by_cases hjk : j < k
        · exact hf j hjk x hx
        · have : j = k := by omega
          subst this
          exact nf x hx
theorem fewest_spec {w : World} (h : OkW w) {s : Nat} (hs : s < 2 ^ w.m) (f : Nat → Bool) :
    (∀ n, fewest w s f = some n → (∃ x, RA w s n x ∧ f x = true) ∧ ∀ j, j < n → ∀ x, RA w s j x → f x = false) ∧ (fewest w s f = none → ∀ j x, RA w s j x → f x = false) := by
  unfold fewest
  refine goFewest_spec h hs f _ 0 [s] (by simp) (fun x => by rw [RA_zero]; simp) (fun j hj => by omega) (by simp) (by omega)
theorem possible_iff {d : Desk} (h : OkW d.world) {s : Nat} (hs : s < 2 ^ d.world.m) (x : Aim) : possible d s x = true ↔ ∃ y, RA d.world s x.steps y ∧ isAim x.a x.w y = true := by
  obtain ⟨h1, h2⟩ := fewest_spec h hs (isAim x.a x.w)
  unfold possible
  cases e : fewest d.world s (isAim x.a x.w) with
  | none =>
    simp only [Bool.false_eq_true, false_iff]
    rintro ⟨y, hy, fy⟩
    rw [h2 e _ y hy] at fy
    cases fy
  | some n =>
    simp only [decide_eq_true_eq]
    obtain ⟨⟨z, hz, fz⟩, hmin⟩ := h1 n e
    constructor
    · intro hn
      exact ⟨z, RA_mono hn hz, fz⟩
    · rintro ⟨y, hy, fy⟩
      by_cases hn : n ≤ x.steps
      · exact hn
      · have := hmin x.steps (by omega) y hy
        rw [this] at fy
        cases fy

/-! ### the program's walk: can_be_come_to -/
def seeOne (acc : List Nat × List Nat) (t : Nat) : List Nat × List Nat := if acc.1.contains t = true then acc else (acc.1 ++ [t], acc.2 ++ [t])
def seeAll (w : World) (acc : List Nat × List Nat) (s : Nat) : List Nat × List Nat := (foll w s).foldl (fun a p => seeOne a p.2) acc
def spread (w : World) (met layer : List Nat) : List Nat × List Nat := layer.foldl (seeAll w) (met, [])
/-- the last layer, behind so many turns -/
def come (w : World) (f : Nat → Bool) : Nat → List Nat → List Nat → List Nat
  | 0, _, layer => layer
  | k + 1, met, layer => if (layer.isEmpty || layer.any f) = true then layer else come w f k (spread w met layer).1 (spread w met layer).2
def comeTo (w : World) (s : Nat) (f : Nat → Bool) (many : Nat) : Bool := (come w f many [s] [s]).any f

/-- what is seen: met holds what was met and what is new, behind what is new -/
structure Seen (met0 : List Nat) (N : Nat → Prop) (acc : List Nat × List Nat) : Prop where
  met : ∀ x, x ∈ acc.1 ↔ x ∈ met0 ∨ N x
  new : ∀ x, x ∈ acc.2 ↔ x ∉ met0 ∧ N x
theorem Seen.imp {met0 : List Nat} {N N' : Nat → Prop} {acc : List Nat × List Nat} (h : Seen met0 N acc) (e : ∀ x, N x ↔ N' x) : Seen met0 N' acc := ⟨fun x => by rw [← e x]; exact h.met x, fun x => by rw [← e x]; exact h.new x⟩
theorem seeOne_seen {met0 : List Nat} {N : Nat → Prop} {acc : List Nat × List Nat} (h : Seen met0 N acc) (t : Nat) : Seen met0 (fun x => N x ∨ x = t) (seeOne acc t) := by
  unfold seeOne
  by_cases c : acc.1.contains t = true
  · rw [if_pos c]
    have ht : t ∈ acc.1 := by simpa using c
    refine ⟨fun x => ?_, fun x => ?_⟩
    · rw [h.met x]
      constructor
      · rintro (a | a)
        · exact .inl a
        · exact .inr (.inl a)
      · rintro (a | a | a)
        · exact .inl a
        · exact .inr a
        · subst a
          exact (h.met x).mp ht
    · rw [h.new x]
      constructor
      · rintro ⟨a, b⟩
        exact ⟨a, .inl b⟩
      · rintro ⟨a, b | b⟩
        · exact ⟨a, b⟩
        · subst b
          rcases (h.met x).mp ht with q | q
          · exact absurd q a
          · exact ⟨a, q⟩
  · rw [if_neg c]
    have ht : t ∉ acc.1 := by simpa using c
    have hn : t ∉ met0 := fun q => ht ((h.met t).mpr (.inl q))
    refine ⟨fun x => ?_, fun x => ?_⟩
    · simp only [List.mem_append, List.mem_singleton, h.met x]
      constructor
      · rintro ((a | a) | a)
        · exact .inl a
        · exact .inr (.inl a)
        · exact .inr (.inr a)
      · rintro (a | a | a)
        · exact .inl (.inl a)
        · exact .inl (.inr a)
        · exact .inr a
    · simp only [List.mem_append, List.mem_singleton, h.new x]
      constructor
      · rintro (⟨a, b⟩ | a)
        · exact ⟨a, .inl b⟩
        · subst a
          exact ⟨hn, .inr rfl⟩
      · rintro ⟨a, b | b⟩
        · exact .inl ⟨a, b⟩
        · exact .inr b
theorem seeAll_seen {w : World} {met0 : List Nat} {N : Nat → Prop} {acc : List Nat × List Nat} (h : Seen met0 N acc) (s : Nat) : Seen met0 (fun x => N x ∨ x ∈ nexts w s) (seeAll w acc s) := by
  unfold seeAll
  rw [nexts_foll]
  generalize foll w s = l
  induction l generalizing N acc with
  | nil => exact h.imp fun x => by simp
  | cons p l ih =>
    rw [List.foldl_cons]
    refine (ih (seeOne_seen h p.2)).imp fun x => ?_
    simp only [List.map_cons, List.mem_cons]
    constructor
    · rintro ((a | a) | a)
      · exact .inl a
      · exact .inr (.inl a)
      · exact .inr (.inr a)
    · rintro (a | a | a)
      · exact .inl (.inl a)
      · exact .inl (.inr a)
      · exact .inr a
theorem spread_seen {w : World} (met layer : List Nat) : Seen met (fun x => ∃ u ∈ layer, x ∈ nexts w u) (spread w met layer) := by
  unfold spread
  have key : ∀ (l : List Nat) (N : Nat → Prop) (acc : List Nat × List Nat), Seen met N acc → Seen met (fun x => N x ∨ ∃ u ∈ l, x ∈ nexts w u) (l.foldl (seeAll w) acc) := by
    intro l
    induction l with
    | nil =>
      intro N acc h
      exact h.imp fun x => by simp
    | cons u l ih =>
      intro N acc h
      rw [List.foldl_cons]
      refine (ih _ _ (seeAll_seen h u)).imp fun x => ?_
      simp only [List.mem_cons, exists_eq_or_imp]
      constructor
      · rintro ((a | a) | a)
        · exact .inl a
        · exact .inr (.inl a)
        · exact .inr (.inr a)
      · rintro (a | a | a)
        · exact .inl (.inl a)
        · exact .inl (.inr a)
        · exact .inr a
  refine (key layer (fun _ => False) (met, []) ⟨fun x => by simp, fun x => by simp⟩).imp fun x => by simp
theorem come_spec {w : World} {s : Nat} (f : Nat → Bool) : ∀ (k j : Nat) (met layer : List Nat), (∀ x, x ∈ met ↔ RA w s j x) → (∀ x, x ∈ layer → RA w s j x) → (∀ x, RA w s j x → x ∈ layer ∨ (f x = false ∧ ∀ y ∈ nexts w x, RA w s j y)) →
    ((come w f k met layer).any f = true ↔ ∃ x, RA w s (j + k) x ∧ f x = true) := by
  intro k
  induction k with
  | zero =>
    intro j met layer hm hl hc
    unfold come
    rw [List.any_eq_true]
    constructor
    · rintro ⟨x, hx, fx⟩
      exact ⟨x, hl x hx, fx⟩
    · rintro ⟨x, hx, fx⟩
      rcases hc x hx with q | ⟨q, _⟩
      · exact ⟨x, q, fx⟩
      · rw [q] at fx
        cases fx
  | succ k ih =>
    intro j met layer hm hl hc
    unfold come
    by_cases c : (layer.isEmpty || layer.any f) = true
    · rw [if_pos c]
      rw [Bool.or_eq_true] at c
      constructor
      · intro ha
        obtain ⟨x, hx, fx⟩ := List.any_eq_true.mp ha
        exact ⟨x, RA_mono (by omega) (hl x hx), fx⟩
      · rintro ⟨x, hx, fx⟩
        rcases c with c | c
        · have he : layer = [] := List.isEmpty_iff.mp c
          have stop : ∀ y, RA w s (j + 1) y → RA w s j y := fun y hy => by
            rcases RA_succ.mp hy with q | ⟨u, hu, q⟩
            · exact q
            · rcases hc u hu with z | ⟨_, z⟩
              · rw [he] at z
                cases z
              · exact z y q
          have hx' := RA_stop stop _ x hx
          rcases hc x hx' with z | ⟨z, _⟩
          · rw [he] at z
            cases z
          · rw [z] at fx
            cases fx
        · exact c
    · rw [if_neg c]
      rw [Bool.or_eq_true, not_or] at c
      have S := spread_seen (w := w) met layer
      have nf : ∀ x ∈ layer, f x = false := fun x hx => by
        cases e : f x with
        | false => rfl
        | true => exact absurd (List.any_eq_true.mpr ⟨x, hx, e⟩) c.2
      have up : ∀ x, RA w s (j + 1) x ↔ (RA w s j x ∨ ∃ u ∈ layer, x ∈ nexts w u) := fun x => by
        rw [RA_succ]
        constructor
        · rintro (q | ⟨u, hu, q⟩)
          · exact .inl q
          · rcases hc u hu with z | ⟨_, z⟩
            · exact .inr ⟨u, z, q⟩
            · exact .inl (z x q)
        · rintro (q | ⟨u, hu, q⟩)
          · exact .inl q
          · exact .inr ⟨u, hl u hu, q⟩
      have := ih (j + 1) (spread w met layer).1 (spread w met layer).2 (fun x => by rw [S.met x, hm x, up x]) (fun x hx => by
          rw [up x]
          exact .inr ((S.new x).mp hx).2) (fun x hx => by
          rcases (up x).mp hx with q | q
          · right
            rcases hc x q with z | ⟨z1, z2⟩
            · exact ⟨nf x z, fun y hy => (up y).mpr (.inr ⟨x, z, hy⟩)⟩
            · exact ⟨z1, fun y hy => RA_mono (Nat.le_succ _) (z2 y hy)⟩
          · by_cases hq : x ∈ met
            · right
              have q' := (hm x).mp hq
              rcases hc x q' with z | ⟨z1, z2⟩
              · exact ⟨nf x z, fun y hy => (up y).mpr (.inr ⟨x, z, hy⟩)⟩
              · exact ⟨z1, fun y hy => RA_mono (Nat.le_succ _) (z2 y hy)⟩
            · exact .inl ((S.new x).mpr ⟨hq, q⟩))
      rw [this, show j + 1 + k = j + (k + 1) by omega]
theorem comeTo_iff {w : World} {s many : Nat} (f : Nat → Bool) : comeTo w s f many = true ↔ ∃ x, RA w s many x ∧ f x = true := by
  unfold comeTo
  have := come_spec (w := w) (s := s) f many 0 [s] [s] (fun x => by rw [RA_zero]; simp) (fun x hx => by rw [RA_zero]; simpa using hx) (fun x hx => by
    left
    rw [RA_zero] at hx
    simp [hx])
  rw [this, Nat.zero_add]
theorem comeTo_possible {d : Desk} (h : OkW d.world) {s : Nat} (hs : s < 2 ^ d.world.m) (x : Aim) : comeTo d.world s (isAim x.a x.w) x.steps = possible d s x := by
  rw [Bool.eq_iff_iff, comeTo_iff, possible_iff h hs]
end KpM
end
section
/-! Plain law, part B: rows, least, most. -/
namespace KpM
open Kp371 Kp373

/-! ### rows of numbers, in order -/
def lexlt : List Nat → List Nat → Bool
  | [], [] => false
  | [], _ :: _ => true
  | _ :: _, [] => false
  | a :: as, b :: bs => if a = b then lexlt as bs else decide (a < b)
theorem lexlt_irrefl : ∀ a : List Nat, lexlt a a = false
  | [] => rfl
  | a :: as => by
    unfold lexlt
    rw [if_pos rfl]
    exact lexlt_irrefl as
theorem lexlt_trans : ∀ {a b c : List Nat}, lexlt a b = true → lexlt b c = true → lexlt a c = true
  | [], [], _, h, _ => by cases h
  | [], _ :: _, [], _, h => by cases h
  | [], _ :: _, _ :: _, _, _ => rfl
  | _ :: _, [], _, h, _ => by cases h
  | _ :: _, _ :: _, [], _, h => by cases h
  | a :: as, b :: bs, c :: cs, h, k => by
    unfold lexlt at h k ⊢
    by_cases e : a = b
    · rw [if_pos e] at h
      subst e
      by_cases e2 : a = c
      · rw [if_pos e2] at k
        rw [if_pos e2]
        exact lexlt_trans h k
      · rw [if_neg e2] at k
        rw [if_neg e2]
        exact k
    · rw [if_neg e] at h
      by_cases e2 : b = c
      · subst e2
        rw [if_neg e]
        exact h
      · rw [if_neg e2] at k
        have h1 := of_decide_eq_true h
        have h2 := of_decide_eq_true k
        rw [if_neg (by omega)]
        exact decide_eq_true (by omega)
theorem lexlt_tri : ∀ {a b : List Nat}, lexlt a b = false → lexlt b a = false → a = b
  | [], [], _, _ => rfl
  | [], _ :: _, h, _ => by cases h
  | _ :: _, [], _, h => by cases h
  | a :: as, b :: bs, h, k => by
    unfold lexlt at h k
    by_cases e : a = b
    · subst e
      rw [if_pos rfl] at h k
      rw [lexlt_tri h k]
    · rw [if_neg e] at h
      rw [if_neg (Ne.symm e)] at k
      have h1 := of_decide_eq_false h
      have h2 := of_decide_eq_false k
      omega
theorem lexlt_snoc : ∀ {a b : List Nat} (i j : Nat), a.length = b.length → lexlt (a ++ [i]) (b ++ [j]) = if a = b then decide (i < j) else lexlt a b
  | [], [], i, j, _ => by
    simp only [List.nil_append, if_true]
    unfold lexlt
    by_cases e : i = j
    · rw [if_pos e, e]
      simp [lexlt]
    · rw [if_neg e]
  | [], _ :: _, _, _, h => by cases h
  | _ :: _, [], _, _, h => by cases h
  | a :: as, b :: bs, i, j, h => by
    have ih := lexlt_snoc (a := as) (b := bs) i j (by simpa using h)
    show (if a = b then lexlt (as ++ [i]) (bs ++ [j]) else decide (a < b)) = if a :: as = b :: bs then decide (i < j) else (if a = b then lexlt as bs else decide (a < b))
    by_cases e : a = b
    · subst e
      rw [if_pos rfl, if_pos rfl, ih]
      by_cases e2 : as = bs
      · rw [if_pos e2, if_pos (by rw [e2])]
      · rw [if_neg e2, if_neg (fun z => e2 (List.cons.inj z).2)]
    · rw [if_neg e, if_neg e, if_neg (fun z => e (List.cons.inj z).1)]
/-- not behind: less or the same -/
theorem lex_le_lt {a b c : List Nat} (h : lexlt b a = false) (k : lexlt b c = true) : lexlt a c = true := by
  cases e : lexlt a b with
  | true => exact lexlt_trans e k
  | false =>
    have := lexlt_tri e h
    rw [this]
    exact k
theorem lex_lt_asymm {a b : List Nat} (h : lexlt a b = true) : lexlt b a = false := by
  cases e : lexlt b a with
  | false => rfl
  | true =>
    have := lexlt_trans h e
    rw [lexlt_irrefl] at this
    cases this
/-- c is not less than b, b not less than a: c is not less than a -/
theorem lex_ge_trans {a b c : List Nat} (h : lexlt b a = false) (k : lexlt c b = false) : lexlt c a = false := by
  cases e : lexlt c a with
  | false => rfl
  | true =>
    have := lex_le_lt (a := b) (b := c) (c := a) k e
    rw [h] at this
    cases this

/-! ### a table by numbers -/
section
variable {α : Type}
def getR (kvs : List (Nat × α)) (k : Nat) : Option α := (kvs.find? fun kv => decide (kv.1 = k)).map (·.2)
def putR (kvs : List (Nat × α)) (k : Nat) (v : α) : List (Nat × α) :=
  if (kvs.any fun kv => decide (kv.1 = k)) = true then kvs.map (fun kv => if kv.1 = k then (kv.1, v) else kv) else kvs ++ [(k, v)]
theorem getR_some {kvs : List (Nat × α)} {k : Nat} {v : α} (h : getR kvs k = some v) : (k, v) ∈ kvs := by
  unfold getR at h
  cases e : kvs.find? fun kv => decide (kv.1 = k) with
  | none =>
    rw [e] at h
    cases h
  | some p =>
    rw [e] at h
    have h1 := List.find?_some e
    have h2 := List.mem_of_find?_eq_some e
    have h3 : p.2 = v := Option.some.inj h
    have h4 : p.1 = k := of_decide_eq_true h1
    rw [← h3, ← h4]
    exact h2
theorem getR_none {kvs : List (Nat × α)} {k : Nat} (h : getR kvs k = none) : k ∉ kvs.map (·.1) := by
  intro hm
  obtain ⟨p, hp, e⟩ := List.mem_map.mp hm
  unfold getR at h
  have h2 := List.find?_eq_none.mp (Option.map_eq_none_iff.mp h) p hp
  exact h2 (decide_eq_true e)
theorem mem_putR {kvs : List (Nat × α)} {k : Nat} {v : α} {p : Nat × α} : p ∈ putR kvs k v ↔ p = (k, v) ∨ (p ∈ kvs ∧ p.1 ≠ k) := by
  unfold putR
  by_cases c : (kvs.any fun kv => decide (kv.1 = k)) = true
  · rw [if_pos c, List.mem_map]
    constructor
    · rintro ⟨q, hq, e⟩
      by_cases hk : q.1 = k
      · rw [if_pos hk] at e
        left
        rw [← e, hk]
      · rw [if_neg hk] at e
        rw [← e]
        exact .inr ⟨hq, hk⟩
    · rintro (e | ⟨hp, hk⟩)
      · obtain ⟨q, hq, e2⟩ := List.any_eq_true.mp c
        have e3 : q.1 = k := of_decide_eq_true e2
        exact ⟨q, hq, by rw [if_pos e3, e, e3]⟩
      · exact ⟨p, hp, by rw [if_neg hk]⟩
  · rw [if_neg c, List.mem_append, List.mem_singleton]
    constructor
    · rintro (hp | e)
      · refine .inr ⟨hp, fun e => c (List.any_eq_true.mpr ⟨p, hp, decide_eq_true e⟩)⟩
      · exact .inl e
    · rintro (e | ⟨hp, _⟩)
      · exact .inr e
      · exact .inl hp
theorem keys_putR {kvs : List (Nat × α)} {k : Nat} {v : α} (h : (kvs.map (·.1)).Nodup) : ((putR kvs k v).map (·.1)).Nodup := by
  unfold putR
  by_cases c : (kvs.any fun kv => decide (kv.1 = k)) = true
  · rw [if_pos c, List.map_map]
    have e : ((fun x : Nat × α => x.1) ∘ fun kv : Nat × α => if kv.1 = k then (kv.1, v) else kv) = fun kv => kv.1 := by
      funext kv
      by_cases hk : kv.1 = k
      · simp [hk]
      · simp [hk]
    rw [e]
    exact h
  · rw [if_neg c, List.map_append]
    refine List.nodup_append.mpr ⟨h, by simp, fun a ha b hb => ?_⟩
    have hb' : b = k := by simpa using hb
    subst hb'
    intro e
    subst e
    obtain ⟨p, hp, e⟩ := List.mem_map.mp ha
    exact c (List.any_eq_true.mpr ⟨p, hp, decide_eq_true e⟩)
theorem keys_one : ∀ {kvs : List (Nat × α)} {k : Nat} {v u : α}, (kvs.map (·.1)).Nodup → (k, v) ∈ kvs → (k, u) ∈ kvs → v = u
  | [], _, _, _, _, h, _ => by cases h
  | p :: r, k, v, u, hn, h1, h2 => by
    rw [List.map_cons, List.nodup_cons] at hn
    rcases List.mem_cons.mp h1 with e1 | e1 <;> rcases List.mem_cons.mp h2 with e2 | e2
    · rw [← e1] at e2
      exact (Prod.mk.inj e2).2.symm
    · rw [← e1] at hn
      exact absurd (List.mem_map.mpr ⟨(k, u), e2, rfl⟩) hn.1
    · rw [← e2] at hn
      exact absurd (List.mem_map.mpr ⟨(k, v), e1, rfl⟩) hn.1
    · exact keys_one hn.2 e1 e2
theorem len_putR {kvs : List (Nat × α)} {k : Nat} {v : α} : (putR kvs k v).length ≤ kvs.length + 1 := by
  unfold putR
  split
  · rw [List.length_map]
    omega
  · rw [List.length_append]
    exact Nat.le_refl _
end

/-! ### rows of choices -/
def runTo (w : World) : Nat → List Nat → Option Nat
  | s, [] => some s
  | s, i :: r => match stepBy w s i with
    | none => none
    | some t => runTo w t r
theorem runTo_snoc (w : World) (i : Nat) : ∀ (r : List Nat) (s : Nat), runTo w s (r ++ [i]) = (runTo w s r).bind fun u => stepBy w u i
  | [], s => by
    show (match stepBy w s i with | none => none | some t => some t) = stepBy w s i
    cases stepBy w s i <;> rfl
  | j :: r, s => by
    show (match stepBy w s j with | none => none | some t => runTo w t (r ++ [i])) = ((match stepBy w s j with | none => none | some t => runTo w t r)).bind _
    cases stepBy w s j with
    | none => rfl
    | some t => exact runTo_snoc w i r t
theorem snoc_of_len : ∀ {n : Nat} {l : List Nat}, l.length = n + 1 → ∃ r i, l = r ++ [i] ∧ r.length = n := by
  intro n l h
  have hne : l ≠ [] := by
    intro e
    rw [e] at h
    cases h
  refine ⟨l.dropLast, l.getLast hne, (List.dropLast_concat_getLast hne).symm, ?_⟩
  rw [List.length_dropLast, h]
  rfl
theorem R_run {w : World} {s : Nat} : ∀ {t x : Nat}, R w s t x ↔ ∃ r, r.length = t ∧ runTo w s r = some x
  | 0, x => by
    constructor
    · intro h
      have h' : x = s := h
      exact ⟨[], rfl, by rw [h']; rfl⟩
    · rintro ⟨r, hr, e⟩
      have : r = [] := List.length_eq_zero_iff.mp hr
      subst this
      exact (Option.some.inj e).symm
  | t + 1, x => by
    constructor
    · rintro ⟨u, hu, hx⟩
      obtain ⟨r, hr, e⟩ := R_run.mp hu
      obtain ⟨i, hi⟩ := mem_nexts.mp hx
      refine ⟨r ++ [i], by simp [hr], ?_⟩
      rw [runTo_snoc, e]
      exact hi
    · rintro ⟨l, hl, e⟩
      obtain ⟨r, i, rfl, hr⟩ := snoc_of_len hl
      rw [runTo_snoc] at e
      obtain ⟨u, hu, hx⟩ := Option.bind_eq_some_iff.mp e
      exact ⟨u, R_run.mpr ⟨r, hr, hu⟩, mem_nexts.mpr ⟨i, hx⟩⟩
/-- the first row of so many choices that leads there -/
def Best (w : World) (s t x : Nat) (r : List Nat) : Prop := r.length = t ∧ runTo w s r = some x ∧ ∀ r', r'.length = t → runTo w s r' = some x → lexlt r' r = false

/-! ### the program's rows -/
def nextOne (row : List Nat) (found : List (Nat × List Nat)) (p : Nat × Nat) : List (Nat × List Nat) := match getR found p.2 with
  | none => putR found p.2 (row ++ [p.1])
  | some r => if lexlt (row ++ [p.1]) r = true then putR found p.2 (row ++ [p.1]) else found
def nextFrom (w : World) (found : List (Nat × List Nat)) (sr : Nat × List Nat) : List (Nat × List Nat) := (foll w sr.1).foldl (nextOne sr.2) found
def nextRows (w : World) (rows : List (Nat × List Nat)) : List (Nat × List Nat) := rows.foldl (nextFrom w) []
def rowsAt (w : World) (s : Nat) : Nat → List (Nat × List Nat)
  | 0 => [(s, [])]
  | t + 1 => nextRows w (rowsAt w s t)
structure Fnd (C : Nat → List Nat → Prop) (found : List (Nat × List Nat)) : Prop where
  nd : (found.map (·.1)).Nodup
  is : ∀ p ∈ found, C p.1 p.2 ∧ ∀ r, C p.1 r → lexlt r p.2 = false
  all : ∀ y r, C y r → y ∈ found.map (·.1)
theorem Fnd.imp {C C' : Nat → List Nat → Prop} {found : List (Nat × List Nat)} (h : Fnd C found) (e : ∀ y r, C y r ↔ C' y r) : Fnd C' found :=
  ⟨h.nd, fun p hp => ⟨(e _ _).mp (h.is p hp).1, fun r hr => (h.is p hp).2 r ((e _ _).mpr hr)⟩, fun y r hr => h.all y r ((e _ _).mpr hr)⟩
theorem Fnd.put {C : Nat → List Nat → Prop} {found : List (Nat × List Nat)} (h : Fnd C found) {y : Nat} {l : List Nat} (hl : ∀ r, C y r → lexlt r l = false) : Fnd (fun z r => C z r ∨ (z = y ∧ r = l)) (putR found y l) := by
  refine ⟨keys_putR h.nd, fun p hp => ?_, fun z r hr => ?_⟩
  · rcases mem_putR.mp hp with e | ⟨hp, hk⟩
    · subst e
      refine ⟨.inr ⟨rfl, rfl⟩, fun r hr => ?_⟩
      rcases hr with hr | ⟨_, e⟩
      · exact hl r hr
      · rw [e]
        exact lexlt_irrefl l
    · refine ⟨.inl (h.is p hp).1, fun r hr => ?_⟩
      rcases hr with hr | ⟨e, _⟩
      · exact (h.is p hp).2 r hr
      · exact absurd e hk
  · by_cases hz : z = y
    · subst hz
      exact List.mem_map.mpr ⟨(z, l), mem_putR.mpr (.inl rfl), rfl⟩
    · rcases hr with hr | ⟨e, _⟩
      · obtain ⟨p, hp, e⟩ := List.mem_map.mp (h.all z r hr)
        refine List.mem_map.mpr ⟨p, mem_putR.mpr (.inr ⟨hp, fun q => hz ?_⟩), e⟩
        rw [← e, q]
      · exact absurd e hz
theorem nextOne_fnd {C : Nat → List Nat → Prop} {found : List (Nat × List Nat)} (h : Fnd C found) (row : List Nat) (p : Nat × Nat) : Fnd (fun z r => C z r ∨ (z = p.2 ∧ r = row ++ [p.1])) (nextOne row found p) := by
  unfold nextOne
  cases e : getR found p.2 with
  | none =>
    have hn := getR_none e
    exact h.put fun r hr => absurd (h.all _ r hr) hn
  | some r0 =>
    have hm := getR_some e
    show Fnd _ (if lexlt (row ++ [p.1]) r0 = true then putR found p.2 (row ++ [p.1]) else found)
    by_cases c : lexlt (row ++ [p.1]) r0 = true
    · rw [if_pos c]
      exact h.put fun r hr => lex_ge_trans (lex_lt_asymm c) ((h.is _ hm).2 r hr)
    · rw [if_neg c]
      have c' : lexlt (row ++ [p.1]) r0 = false := by simpa using c
      refine ⟨h.nd, fun q hq => ⟨.inl (h.is q hq).1, fun r hr => ?_⟩, fun y r hr => ?_⟩
      · rcases hr with hr | ⟨e1, e2⟩
        · exact (h.is q hq).2 r hr
        · have : q.2 = r0 := keys_one (k := p.2) h.nd (by rw [← e1]; exact hq) hm
          rw [this, e2]
          exact c'
      · rcases hr with hr | ⟨e1, _⟩
        · exact h.all y r hr
        · rw [e1]
          exact List.mem_map.mpr ⟨_, hm, rfl⟩
theorem nextFrom_fnd {w : World} {C : Nat → List Nat → Prop} {found : List (Nat × List Nat)} (h : Fnd C found) (sr : Nat × List Nat) : Fnd (fun z r => C z r ∨ ∃ p ∈ foll w sr.1, z = p.2 ∧ r = sr.2 ++ [p.1]) (nextFrom w found sr) := by
  unfold nextFrom
  generalize foll w sr.1 = l
  induction l generalizing C found with
  | nil => exact h.imp fun y r => by simp
  | cons p l ih =>
    rw [List.foldl_cons]
    refine (ih (nextOne_fnd h sr.2 p)).imp fun y r => ?_
    simp only [List.mem_cons, exists_eq_or_imp, or_assoc]
theorem nextRows_fnd {w : World} (rows : List (Nat × List Nat)) : Fnd (fun z r => ∃ sr ∈ rows, ∃ p ∈ foll w sr.1, z = p.2 ∧ r = sr.2 ++ [p.1]) (nextRows w rows) := by
  unfold nextRows
  have key : ∀ (l : List (Nat × List Nat)) (C : Nat → List Nat → Prop) (found : List (Nat × List Nat)), Fnd C found → Fnd (fun z r => C z r ∨ ∃ sr ∈ l, ∃ p ∈ foll w sr.1, z = p.2 ∧ r = sr.2 ++ [p.1]) (l.foldl (nextFrom w) found) := by
    intro l
    induction l with
    | nil =>
      intro C found h
      exact h.imp fun y r => by simp
    | cons sr l ih =>
      intro C found h
      rw [List.foldl_cons]
      refine (ih _ _ (nextFrom_fnd h sr)).imp fun y r => ?_
      simp only [List.mem_cons, exists_eq_or_imp, or_assoc]
  exact (key rows (fun _ _ => False) [] ⟨by simp, fun p hp => (by cases hp), fun _ _ h => h.elim⟩).imp fun y r => by simp
structure RowsOk (w : World) (s t : Nat) (rows : List (Nat × List Nat)) : Prop where
  nd : (rows.map (·.1)).Nodup
  is : ∀ p ∈ rows, Best w s t p.1 p.2
  all : ∀ r x, r.length = t → runTo w s r = some x → x ∈ rows.map (·.1)
theorem rowsAt_ok (w : World) (s : Nat) : ∀ t, RowsOk w s t (rowsAt w s t)
  | 0 => by
    refine ⟨by simp [rowsAt], fun p hp => ?_, fun r x hr e => ?_⟩
    · have e : p = (s, []) := by simpa [rowsAt] using hp
      subst e
      refine ⟨rfl, rfl, fun r' h' _ => ?_⟩
      have : r' = [] := List.length_eq_zero_iff.mp h'
      subst this
      rfl
    · have : r = [] := List.length_eq_zero_iff.mp hr
      subst this
      have e' : s = x := Option.some.inj e
      simp [rowsAt, e']
  | t + 1 => by
    have ih := rowsAt_ok w s t
    have F := nextRows_fnd (w := w) (rowsAt w s t)
    show RowsOk w s (t + 1) (nextRows w (rowsAt w s t))
    have cand : ∀ {l : List Nat} {x : Nat}, l.length = t + 1 → runTo w s l = some x → ∃ r, (∃ sr ∈ rowsAt w s t, ∃ p ∈ foll w sr.1, x = p.2 ∧ r = sr.2 ++ [p.1]) ∧ lexlt l r = false := by
      intro l x hl e
      obtain ⟨r, i, rfl, hr⟩ := snoc_of_len hl
      rw [runTo_snoc] at e
      obtain ⟨u, hu, hx⟩ := Option.bind_eq_some_iff.mp e
      obtain ⟨q, hq, eq⟩ := List.mem_map.mp (ih.all r u hr hu)
      have B := ih.is q hq
      rw [eq] at B
      refine ⟨q.2 ++ [i], ⟨q, hq, (i, x), mem_foll.mpr ⟨by rw [eq]; exact hx, step_choice hx⟩, rfl, rfl⟩, ?_⟩
      rw [lexlt_snoc i i (by rw [hr, B.1])]
      by_cases c : r = q.2
      · rw [if_pos c]
        simp
      · rw [if_neg c]
        exact B.2.2 r hr hu
    refine ⟨F.nd, fun p hp => ?_, fun l x hl e => ?_⟩
    · obtain ⟨⟨sr, hsr, q, hq, e1, e2⟩, hmin⟩ := F.is p hp
      have B := ih.is sr hsr
      refine ⟨by rw [e2]; simp [B.1], ?_, fun l hl e => ?_⟩
      · rw [e2, runTo_snoc, B.2.1, e1]
        have : (q.1, q.2) ∈ foll w sr.1 := hq
        exact (mem_foll.mp this).1
      · obtain ⟨r, hr, hle⟩ := cand hl e
        exact lex_ge_trans (hmin r hr) hle
    · obtain ⟨r, hr, _⟩ := cand hl e
      exact F.all x r hr

/-! ### the specification's rows -/
/-- from where what's good can be come to in just so many steps -/
def bk (w : World) (good : List Nat) : Nat → List Nat
  | 0 => good
  | j + 1 => (states w).filter fun x => (nexts w x).any fun y => (bk w good j).contains y
theorem backs_eq (d : Desk) (t0 : Nat) (good : List Nat) : ∀ j, (∀ (x : Nat), x < 2 ^ d.world.m → True) → Kp372.backs (desk2 d) 0 0 t0 good j = ((List.range (j + 1)).map (bk d.world good)).reverse
  | 0, _ => rfl
  | j + 1, h => by
    have ih := backs_eq d t0 good j h
    have hd : (Kp372.backs (desk2 d) 0 0 t0 good j).headD [] = bk d.world good j := by
      rw [ih, List.range_succ, List.map_append, List.reverse_append]
      rfl
    show ((states d.world).filter fun x => (t0 - (j + 1) = 0 || Kp372.guarded (desk2 d) 0 0 (t0 - (j + 1)) x) && (nexts d.world x).any fun y => ((Kp372.backs (desk2 d) 0 0 t0 good j).headD []).contains y) :: Kp372.backs (desk2 d) 0 0 t0 good j = _
    rw [hd, ih, List.range_succ (n := j + 1), List.map_append, List.reverse_append]
    show _ = bk d.world good (j + 1) :: _
    congr 1
    show List.filter _ (states d.world) = List.filter (fun x => (nexts d.world x).any fun y => (bk d.world good j).contains y) (states d.world)
    congr 1
    funext x
    have g : Kp372.guarded (desk2 d) 0 0 (t0 - (j + 1)) x = true := by
      unfold Kp372.guarded
      simp
    rw [g]
    simp
theorem getD_rev {α : Type} (f : Nat → α) (z : α) (n i : Nat) (h : i ≤ n) : (((List.range (n + 1)).map f).reverse).getD i z = f (n - i) := by
  rw [List.getD_eq_getElem?_getD, List.getElem?_reverse (by simp; omega)]
  simp only [List.length_map, List.length_range]
  rw [List.getElem?_map, List.getElem?_range (by omega)]
  simp
theorem mem_bk {w : World} (h : OkW w) {good : List Nat} (hg : ∀ x ∈ good, x < 2 ^ w.m) : ∀ {j x : Nat}, x ∈ bk w good j ↔ x < 2 ^ w.m ∧ ∃ r y, r.length = j ∧ runTo w x r = some y ∧ y ∈ good
  | 0, x => by
    constructor
    · intro hx
      exact ⟨hg x hx, [], x, rfl, rfl, hx⟩
    · rintro ⟨_, r, y, hr, e, hy⟩
      have : r = [] := List.length_eq_zero_iff.mp hr
      subst this
      rw [Option.some.inj (show some x = some y from e)]
      exact hy
  | j + 1, x => by
    show x ∈ ((states w).filter fun x => (nexts w x).any fun y => (bk w good j).contains y) ↔ _
    rw [List.mem_filter, states, List.mem_range, List.any_eq_true]
    constructor
    · rintro ⟨hx, u, hu, hc⟩
      refine ⟨hx, ?_⟩
      obtain ⟨i, hi⟩ := mem_nexts.mp hu
      obtain ⟨_, r, y, hr, e, hy⟩ := (mem_bk h hg).mp (List.contains_iff_mem.mp hc)
      refine ⟨i :: r, y, by simp [hr], ?_, hy⟩
      show (match stepBy w x i with | none => none | some t => runTo w t r) = some y
      rw [hi]
      exact e
    · rintro ⟨hx, l, y, hl, e, hy⟩
      cases l with
      | nil => cases hl
      | cons i r =>
        have e' : (match stepBy w x i with | none => none | some t => runTo w t r) = some y := e
        cases hs : stepBy w x i with
        | none =>
          rw [hs] at e'
          cases e'
        | some u =>
          rw [hs] at e'
          refine ⟨hx, u, mem_nexts.mpr ⟨i, hs⟩, List.contains_iff_mem.mpr ((mem_bk h hg).mpr ⟨step_lt h hx hs, r, y, by simpa using hl, e', hy⟩)⟩
/-- the row that the specification walks: it ends in what's good, and none of so many choices does that stands before it -/
theorem goRow_ok {d : Desk} (h : OkW d.world) {good : List Nat} (hg : ∀ x ∈ good, x < 2 ^ d.world.m) (t0 : Nat) : ∀ (j : Nat), j ≤ t0 → ∀ x, x ∈ bk d.world good j →
    (Kp372.goRow (desk2 d) (Kp372.backs (desk2 d) 0 0 t0 good t0) j (t0 - j) x).length = j ∧ (∃ y, runTo d.world x (Kp372.goRow (desk2 d) (Kp372.backs (desk2 d) 0 0 t0 good t0) j (t0 - j) x) = some y ∧ y ∈ good) ∧
      ∀ r y, r.length = j → runTo d.world x r = some y → y ∈ good → lexlt r (Kp372.goRow (desk2 d) (Kp372.backs (desk2 d) 0 0 t0 good t0) j (t0 - j) x) = false
  | 0, _, x, hx => by
    refine ⟨rfl, ⟨x, rfl, hx⟩, fun r y hr e hy => ?_⟩
    have : r = [] := List.length_eq_zero_iff.mp hr
    subst this
    rfl
  | j + 1, hj, x, hx => by
    have hgd : (Kp372.backs (desk2 d) 0 0 t0 good t0).getD (t0 - (j + 1) + 1) [] = bk d.world good j := by
      rw [backs_eq d t0 good t0 (fun _ _ => trivial), getD_rev _ _ _ _ (by omega)]
      congr 1
      omega
    have hstep : t0 - (j + 1) + 1 = t0 - j := by omega
    have unf : Kp372.goRow (desk2 d) (Kp372.backs (desk2 d) 0 0 t0 good t0) (j + 1) (t0 - (j + 1)) x = (match (choices d.world).find? fun i => match stepBy d.world x i with
        | none => false
        | some y => (bk d.world good j).contains y with
      | none => []
      | some i => i :: Kp372.goRow (desk2 d) (Kp372.backs (desk2 d) 0 0 t0 good t0) j (t0 - j) ((stepBy d.world x i).getD x)) := by
      rw [← hgd, ← hstep]
      rfl
    rw [unf]
    obtain ⟨hlt, l0, y0, hl0, e0, hy0⟩ := (mem_bk h hg).mp hx
    have sub : ∀ {l : List Nat} {y : Nat}, l.length = j + 1 → runTo d.world x l = some y → y ∈ good → ∃ i r u, l = i :: r ∧ r.length = j ∧ stepBy d.world x i = some u ∧ runTo d.world u r = some y ∧ u ∈ bk d.world good j := by
      intro l y hl e hy
      cases l with
      | nil => cases hl
      | cons i r =>
        have e' : (match stepBy d.world x i with | none => none | some t => runTo d.world t r) = some y := e
        cases hs : stepBy d.world x i with
        | none =>
          rw [hs] at e'
          cases e'
        | some u =>
          rw [hs] at e'
          exact ⟨i, r, u, rfl, by simpa using hl, hs, e', (mem_bk h hg).mpr ⟨step_lt h hlt hs, r, y, by simpa using hl, e', hy⟩⟩
    have good_i : ∀ {i u : Nat}, stepBy d.world x i = some u → u ∈ bk d.world good j → (match stepBy d.world x i with
        | none => false
        | some y => (bk d.world good j).contains y) = true := by
      intro i u hs hu
      rw [hs]
      exact List.contains_iff_mem.mpr hu
    cases hf : (choices d.world).find? fun i => match stepBy d.world x i with
        | none => false
        | some y => (bk d.world good j).contains y with
    | none =>
      obtain ⟨i, r, u, _, _, hs, _, hu⟩ := sub hl0 e0 hy0
      have := List.find?_eq_none.mp hf i (step_choice hs)
      exact absurd (good_i hs hu) this
    | some i =>
      unfold choices at hf
      obtain ⟨hp, hi, hmin⟩ := List.find?_range_eq_some.mp hf
      cases hs : stepBy d.world x i with
      | none =>
        rw [hs] at hp
        cases hp
      | some u =>
        rw [hs] at hp
        have hu : u ∈ bk d.world good j := List.contains_iff_mem.mp hp
        obtain ⟨ih1, ⟨y, ih2, ih3⟩, ih4⟩ := goRow_ok h hg t0 j (by omega) u hu
        have eg : (stepBy d.world x i).getD x = u := by
          rw [hs]
          rfl
        dsimp only
        rw [eg]
        refine ⟨by rw [List.length_cons, ih1], ⟨y, ?_, ih3⟩, fun l z hl e hz => ?_⟩
        · show (match stepBy d.world x i with | none => none | some t => runTo d.world t _) = some y
          rw [hs]
          exact ih2
        · obtain ⟨i', r, u', rfl, hr, hs', e', hu'⟩ := sub hl e hz
          show (if i' = i then lexlt r _ else decide (i' < i)) = false
          by_cases c : i' = i
          · rw [if_pos c]
            subst c
            rw [hs] at hs'
            cases hs'
            exact ih4 r z hr e' hz
          · rw [if_neg c]
            refine decide_eq_false fun hlt' => ?_
            have := hmin i' hlt'
            rw [good_i hs' hu'] at this
            cases this

/-! ### the layers -/
def lay (d : Desk) : Nat → List Nat
  | 0 => [d.world.now]
  | t + 1 => (states d.world).filter fun x => (lay d t).any fun u => (nexts d.world u).contains x
theorem layer_eq (d : Desk) : ∀ k, layer d k = (List.range (k + 1)).map (lay d)
  | 0 => rfl
  | k + 1 => by
    have ih := layer_eq d k
    have hl : (layer d k).getLastD [] = lay d k := by
      rw [ih, List.range_succ, List.map_append]
      exact List.getLastD_concat
    show layer d k ++ [(states d.world).filter fun x => ((layer d k).getLastD []).any fun u => (nexts d.world u).contains x] = _
    rw [hl, ih, List.range_succ (n := k + 1), List.map_append]
    rfl
theorem layer_last (d : Desk) (k : Nat) : (layer d k).getLastD [] = lay d k := by
  rw [layer_eq, List.range_succ, List.map_append]
  exact List.getLastD_concat
theorem mem_lay {d : Desk} (h : OkW d.world) : ∀ {t x : Nat}, x ∈ lay d t ↔ R d.world d.world.now t x
  | 0, x => by
    show x ∈ [d.world.now] ↔ x = d.world.now
    simp
  | t + 1, x => by
    show x ∈ ((states d.world).filter fun x => (lay d t).any fun u => (nexts d.world u).contains x) ↔ _
    rw [List.mem_filter, states, List.mem_range, List.any_eq_true]
    constructor
    · rintro ⟨_, u, hu, hc⟩
      exact ⟨u, (mem_lay h).mp hu, List.contains_iff_mem.mp hc⟩
    · intro r
      refine ⟨R_lt h h.now r, ?_⟩
      obtain ⟨u, hu, hx⟩ := r
      exact ⟨u, (mem_lay h).mpr hu, List.contains_iff_mem.mpr hx⟩

/-! ### the least of a list -/
def pick {α : Type} (better : α → α → Bool) (m : Option α) (c : α) : Option α := match m with
  | none => some c
  | some n => if better c n = true then some c else some n
theorem fold_best {α : Type} (better : α → α → Bool) (tr : ∀ {a b c}, better a b = true → better b c = true → better a c = true) (ir : ∀ a, better a a = false) (ntr : ∀ {a b c}, better a b = false → better b c = false → better a c = false) :
    ∀ (l : List α) (o : Option α), l.foldl (pick better) o = none ∧ l = [] ∧ o = none ∨
      ∃ m, l.foldl (pick better) o = some m ∧ (m ∈ l ∨ o = some m) ∧ (∀ c ∈ l, better c m = false) ∧ ∀ c, o = some c → better c m = false
  | [], none => .inl ⟨rfl, rfl, rfl⟩
  | [], some n => .inr ⟨n, rfl, .inr rfl, fun c hc => (by cases hc), fun c hc => by
      cases hc
      exact ir _⟩
  | c :: l, o => by
    rw [List.foldl_cons]
    right
    have ih := fold_best better tr ir ntr l (pick better o c)
    rcases ih with ⟨_, _, e⟩ | ⟨m, hm, hmem, hall, ho⟩
    · exfalso
      cases o with
      | none => cases e
      | some n =>
        have e' : (if better c n = true then some c else some n) = none := e
        split at e' <;> cases e'
    · refine ⟨m, hm, ?_, fun x hx => ?_, fun x hx => ?_⟩
      · rcases hmem with hmem | hmem
        · exact .inl (List.mem_cons_of_mem _ hmem)
        · cases o with
          | none =>
            have e : c = m := Option.some.inj hmem
            rw [e]
            exact .inl List.mem_cons_self
          | some n =>
            have e : (if better c n = true then some c else some n) = some m := hmem
            split at e
            · rw [Option.some.inj e]
              exact .inl List.mem_cons_self
            · exact .inr e
      · rcases List.mem_cons.mp hx with e | hx
        · subst e
          cases o with
          | none => exact ho x rfl
          | some n =>
            by_cases c1 : better x n = true
            · exact ho x (show (if better x n = true then some x else some n) = some x by rw [if_pos c1])
            · have := ho n (show (if better x n = true then some x else some n) = some n by rw [if_neg c1])
              exact ntr (by simpa using c1) this
        · exact hall x hx
      · subst hx
        by_cases c1 : better c x = true
        · have := ho c (show (if better c x = true then some c else some x) = some c by rw [if_pos c1])
          cases e : better x m with
          | false => rfl
          | true =>
            have := tr c1 e
            rw [‹better c m = false›] at this
            cases this
        · exact ho x (show (if better c x = true then some c else some x) = some x by rw [if_neg c1])

/-! ### least and most, by the program's words: the least of (number, steps, row) -/
def lt3 (a b : Int × Nat × List Nat) : Bool := if a.1 = b.1 then (if a.2.1 = b.2.1 then lexlt a.2.2 b.2.2 else decide (a.2.1 < b.2.1)) else decide (a.1 < b.1)
/-- one of the list's, and none is less -/
structure IsMin {α : Type} (lt : α → α → Bool) (l : List α) (m : α) : Prop where
  mem : m ∈ l
  least : ∀ c ∈ l, lt c m = false
def ends (w : World) (f : Nat → Bool) (k : Nat) : List (Nat × Nat × List Nat) := (List.range (k + 1)).flatMap fun t => ((rowsAt w w.now t).filter fun sr => f sr.1).map fun sr => (t, sr.1, sr.2)
theorem mem_ends {w : World} {f : Nat → Bool} {k t x : Nat} {r : List Nat} : (t, x, r) ∈ ends w f k ↔ t ≤ k ∧ (x, r) ∈ rowsAt w w.now t ∧ f x = true := by
  unfold ends
  simp only [List.mem_flatMap, List.mem_range, List.mem_map, List.mem_filter, Prod.mk.injEq]
  constructor
  · rintro ⟨t', ht, ⟨a, b⟩, ⟨hm, hf⟩, e1, e2, e3⟩
    subst e1
    dsimp only at e2 e3 hf
    subst e2 e3
    exact ⟨by omega, hm, hf⟩
  · rintro ⟨ht, hm, hf⟩
    exact ⟨t, by omega, (x, r), ⟨hm, hf⟩, rfl, rfl, rfl⟩
theorem mem_pairs {d : Desk} (h : OkW d.world) {g : Nat → Nat → Nat} {f : Nat → Bool} {k : Nat} {c : Nat × Nat} :
    c ∈ ((layer d k).zipIdx.flatMap fun x => (x.1.filter f).map fun s => (g s x.2, x.2)) ↔ ∃ s, c.2 ≤ k ∧ R d.world d.world.now c.2 s ∧ f s = true ∧ c.1 = g s c.2 := by
  simp only [List.mem_flatMap, List.mem_zipIdx_iff_getElem?, List.mem_map, List.mem_filter]
  rw [layer_eq]
  constructor
  · rintro ⟨⟨l, t⟩, hl, s, ⟨hs, hf⟩, e⟩
    subst e
    dsimp only at hl hs ⊢
    rw [List.getElem?_map] at hl
    by_cases ht : t < k + 1
    · rw [List.getElem?_range ht] at hl
      have e2 : lay d t = l := Option.some.inj hl
      rw [← e2] at hs
      exact ⟨s, by omega, (mem_lay h).mp hs, hf, rfl⟩
    · rw [List.getElem?_eq_none (by simp; omega)] at hl
      cases hl
  · rintro ⟨s, ht, hr, hf, e⟩
    refine ⟨(lay d c.2, c.2), ?_, s, ⟨(mem_lay h).mpr hr, hf⟩, ?_⟩
    · rw [List.getElem?_map, List.getElem?_range (by omega)]
      rfl
    · dsimp only
      rw [← e]
/-- the row among those that end so: by the program and by the specification the same -/
theorem row_same {d : Desk} (h : OkW d.world) {g : Nat → Nat → Nat} {f : Nat → Bool} {t l : Nat} {r : List Nat} (hr : ∃ x, (x, r) ∈ rowsAt d.world d.world.now t ∧ f x = true ∧ g x t = l)
    (hmin : ∀ x r', (x, r') ∈ rowsAt d.world d.world.now t → f x = true → g x t = l → lexlt r' r = false) : rowTo d t ((lay d t).filter fun s => f s && g s t == l) = r := by
  obtain ⟨x, hx, fx, gx⟩ := hr
  have RO := rowsAt_ok d.world d.world.now t
  have B := RO.is _ hx
  have mg : ∀ {y : Nat}, y ∈ ((lay d t).filter fun s => f s && g s t == l) ↔ R d.world d.world.now t y ∧ f y = true ∧ g y t = l := by
    intro y
    rw [List.mem_filter, mem_lay h, Bool.and_eq_true, beq_iff_eq]
  have hg : ∀ y ∈ ((lay d t).filter fun s => f s && g s t == l), y < 2 ^ d.world.m := fun y hy => R_lt h h.now (mg.mp hy).1
  have hxg : x ∈ ((lay d t).filter fun s => f s && g s t == l) := mg.mpr ⟨R_run.mpr ⟨r, B.1, B.2.1⟩, fx, gx⟩
  have hb : d.world.now ∈ bk d.world ((lay d t).filter fun s => f s && g s t == l) t := (mem_bk h hg).mpr ⟨h.now, r, x, B.1, B.2.1, hxg⟩
  obtain ⟨h1, ⟨y, h2, h3⟩, h4⟩ := goRow_ok h hg t t (Nat.le_refl _) d.world.now hb
  unfold rowTo
  rw [Nat.sub_self] at h1 h2 h4
  refine lexlt_tri ?_ (h4 r x B.1 B.2.1 hxg)
  obtain ⟨q, hq, eq⟩ := List.mem_map.mp (RO.all _ y h1 h2)
  have Bq := RO.is q hq
  have hmq := mg.mp h3
  have hq' : (y, q.2) ∈ rowsAt d.world d.world.now t := by
    rw [← eq]
    exact hq
  rw [eq] at Bq
  exact lex_ge_trans (hmin y q.2 hq' hmq.2.1 hmq.2.2) (Bq.2.2 _ h1 h2)
theorem end_of_R {w : World} {t x : Nat} (h : R w w.now t x) : ∃ r, (x, r) ∈ rowsAt w w.now t := by
  obtain ⟨r, hr, e⟩ := R_run.mp h
  obtain ⟨q, hq, eq⟩ := List.mem_map.mp ((rowsAt_ok w w.now t).all r x hr e)
  exact ⟨q.2, by rw [← eq]; exact hq⟩
theorem R_of_end {w : World} {t x : Nat} {r : List Nat} (h : (x, r) ∈ rowsAt w w.now t) : R w w.now t x := R_run.mpr ⟨r, ((rowsAt_ok w w.now t).is _ h).1, ((rowsAt_ok w w.now t).is _ h).2.1⟩
def lossEnds (d : Desk) (f : Nat → Bool) (k : Nat) : List (Int × Nat × List Nat) := (ends d.world f k).map fun e => ((loss d e.2.1 e.1 : Int), e.1, e.2.2)
def keptEnds (d : Desk) (f : Nat → Bool) (k : Nat) : List (Int × Nat × List Nat) := (ends d.world f k).map fun e => ((0 - (keeps d e.2.1 : Int)), e.1, e.2.2)
theorem mem_lossEnds {d : Desk} {f : Nat → Bool} {k : Nat} {c : Int × Nat × List Nat} : c ∈ lossEnds d f k ↔ ∃ x, c.2.1 ≤ k ∧ (x, c.2.2) ∈ rowsAt d.world d.world.now c.2.1 ∧ f x = true ∧ c.1 = (loss d x c.2.1 : Int) := by
  unfold lossEnds
  rw [List.mem_map]
  constructor
  · rintro ⟨⟨t, x, r⟩, hm, e⟩
    subst e
    obtain ⟨h1, h2, h3⟩ := mem_ends.mp hm
    exact ⟨x, h1, h2, h3, rfl⟩
  · rintro ⟨x, h1, h2, h3, e⟩
    exact ⟨(c.2.1, x, c.2.2), mem_ends.mpr ⟨h1, h2, h3⟩, by rw [← e]⟩
theorem mem_keptEnds {d : Desk} {f : Nat → Bool} {k : Nat} {c : Int × Nat × List Nat} : c ∈ keptEnds d f k ↔ ∃ x, c.2.1 ≤ k ∧ (x, c.2.2) ∈ rowsAt d.world d.world.now c.2.1 ∧ f x = true ∧ c.1 = 0 - (keeps d x : Int) := by
  unfold keptEnds
  rw [List.mem_map]
  constructor
  · rintro ⟨⟨t, x, r⟩, hm, e⟩
    subst e
    obtain ⟨h1, h2, h3⟩ := mem_ends.mp hm
    exact ⟨x, h1, h2, h3, rfl⟩
  · rintro ⟨x, h1, h2, h3, e⟩
    exact ⟨(c.2.1, x, c.2.2), mem_ends.mpr ⟨h1, h2, h3⟩, by rw [← e]⟩
def bLess (c n : Nat × Nat) : Bool := decide (c.1 < n.1 ∨ (c.1 = n.1 ∧ c.2 < n.2))
def bMore (c n : Nat × Nat) : Bool := decide (n.1 < c.1 ∨ (c.1 = n.1 ∧ c.2 < n.2))
theorem least_fold (d : Desk) (a w k : Nat) : least d a w k = ((layer d k).zipIdx.flatMap fun x => (x.1.filter (isAim a w)).map fun s => (loss d s x.2, x.2)).foldl (pick bLess) none := by
  unfold least
  congr 1
  funext m c
  cases m with
  | none => rfl
  | some n => simp [pick, bLess]
theorem most_fold (d : Desk) (a w k : Nat) : most d a w k = ((layer d k).zipIdx.flatMap fun x => (x.1.filter (isAim a w)).map fun s => (keeps d s, x.2)).foldl (pick bMore) none := by
  unfold most
  congr 1
  funext m c
  cases m with
  | none => rfl
  | some n => simp [pick, bMore]
def fold_less (l : List (Nat × Nat)) := fold_best bLess (by intro a b c; simp only [bLess, decide_eq_true_eq]; omega) (by intro a; simp [bLess]) (by intro a b c; simp only [bLess, decide_eq_false_iff_not]; omega) l none
def fold_more (l : List (Nat × Nat)) := fold_best bMore (by intro a b c; simp only [bMore, decide_eq_true_eq]; omega) (by intro a; simp [bMore]) (by intro a b c; simp only [bMore, decide_eq_false_iff_not]; omega) l none
theorem lossEnds_nil {d : Desk} (h : OkW d.world) {a w k : Nat} (e : lossEnds d (isAim a w) k = []) : least d a w k = none := by
  rw [least_fold]
  rcases fold_less ((layer d k).zipIdx.flatMap fun x => (x.1.filter (isAim a w)).map fun s => (loss d s x.2, x.2)) with ⟨h1, _, _⟩ | ⟨m, _, hm | hm, _, _⟩
  · exact h1
  · exfalso
    obtain ⟨s, h1, h2, h3, h4⟩ := (mem_pairs (g := fun s t => loss d s t) h).mp hm
    obtain ⟨r, hr⟩ := end_of_R h2
    have : ((loss d s m.2 : Int), m.2, r) ∈ lossEnds d (isAim a w) k := mem_lossEnds.mpr ⟨s, h1, hr, h3, rfl⟩
    rw [e] at this
    cases this
  · cases hm
theorem keptEnds_nil {d : Desk} (h : OkW d.world) {a w k : Nat} (e : keptEnds d (isAim a w) k = []) : most d a w k = none := by
  rw [most_fold]
  rcases fold_more ((layer d k).zipIdx.flatMap fun x => (x.1.filter (isAim a w)).map fun s => (keeps d s, x.2)) with ⟨h1, _, _⟩ | ⟨m, _, hm | hm, _, _⟩
  · exact h1
  · exfalso
    obtain ⟨s, h1, h2, h3, h4⟩ := (mem_pairs (g := fun s _ => keeps d s) h).mp hm
    obtain ⟨r, hr⟩ := end_of_R h2
    have : (0 - (keeps d s : Int), m.2, r) ∈ keptEnds d (isAim a w) k := mem_keptEnds.mpr ⟨s, h1, hr, h3, rfl⟩
    rw [e] at this
    cases this
  · cases hm
theorem lt3_false {a b : Int × Nat × List Nat} (h : lt3 a b = false) : b.1 < a.1 ∨ (a.1 = b.1 ∧ (b.2.1 < a.2.1 ∨ (a.2.1 = b.2.1 ∧ lexlt a.2.2 b.2.2 = false))) := by
  unfold lt3 at h
  by_cases e : a.1 = b.1
  · rw [if_pos e] at h
    by_cases e2 : a.2.1 = b.2.1
    · rw [if_pos e2] at h
      exact .inr ⟨e, .inr ⟨e2, h⟩⟩
    · rw [if_neg e2] at h
      have := of_decide_eq_false h
      exact .inr ⟨e, .inl (by omega)⟩
  · rw [if_neg e] at h
    have := of_decide_eq_false h
    exact .inl (by omega)
theorem least_is {d : Desk} (h : OkW d.world) {a w k : Nat} {m : Int × Nat × List Nat} (hm : IsMin lt3 (lossEnds d (isAim a w) k) m) :
    ∃ l : Nat, m.1 = (l : Int) ∧ least d a w k = some (l, m.2.1) ∧ leastRow d a w k = some m.2.2 := by
  obtain ⟨x, h1, h2, h3, h4⟩ := mem_lossEnds.mp hm.mem
  have hl : least d a w k = some (loss d x m.2.1, m.2.1) := by
    rw [least_fold]
    rcases fold_less ((layer d k).zipIdx.flatMap fun x => (x.1.filter (isAim a w)).map fun s => (loss d s x.2, x.2)) with ⟨_, e, _⟩ | ⟨n, hn, hmem | hmem, hall, _⟩
    · exfalso
      have : (loss d x m.2.1, m.2.1) ∈ ((layer d k).zipIdx.flatMap fun x => (x.1.filter (isAim a w)).map fun s => (loss d s x.2, x.2)) := (mem_pairs (g := fun s t => loss d s t) h).mpr ⟨x, h1, R_of_end h2, h3, rfl⟩
      rw [e] at this
      cases this
    · rw [hn]
      obtain ⟨s, q1, q2, q3, q4⟩ := (mem_pairs (g := fun s t => loss d s t) h).mp hmem
      obtain ⟨r, hr⟩ := end_of_R q2
      have z := hm.least _ (mem_lossEnds.mpr ⟨s, q1, hr, q3, rfl⟩ : ((loss d s n.2 : Int), n.2, r) ∈ lossEnds d (isAim a w) k)
      have z2 := lt3_false z
      dsimp only at z2
      have y := hall _ ((mem_pairs (g := fun s t => loss d s t) h).mpr ⟨x, h1, R_of_end h2, h3, rfl⟩ : (loss d x m.2.1, m.2.1) ∈ _)
      simp only [bLess, decide_eq_false_iff_not] at y
      obtain ⟨n1, n2⟩ := n
      dsimp only at *
      have e1 : n1 = loss d x m.2.1 := by omega
      have e2 : n2 = m.2.1 := by omega
      rw [e1, e2]
    · cases hmem
  refine ⟨loss d x m.2.1, h4, hl, ?_⟩
  unfold leastRow
  rw [hl]
  show some (rowTo d m.2.1 (((layer d m.2.1).getLastD []).filter fun s => isAim a w s && loss d s m.2.1 == loss d x m.2.1)) = _
  rw [layer_last]
  congr 1
  refine row_same (g := fun s t => loss d s t) h ⟨x, h2, h3, rfl⟩ fun y r' hy fy gy => ?_
  have z := lt3_false (hm.least _ (mem_lossEnds.mpr ⟨y, h1, hy, fy, rfl⟩ : ((loss d y m.2.1 : Int), m.2.1, r') ∈ lossEnds d (isAim a w) k))
  dsimp only at z gy
  rw [gy, h4] at z
  rcases z with z | ⟨_, z | ⟨_, z⟩⟩
  · omega
  · omega
  · exact z
theorem most_is {d : Desk} (h : OkW d.world) {a w k : Nat} {m : Int × Nat × List Nat} (hm : IsMin lt3 (keptEnds d (isAim a w) k) m) :
    ∃ l : Nat, 0 - m.1 = (l : Int) ∧ most d a w k = some (l, m.2.1) ∧ mostRow d a w k = some m.2.2 := by
  obtain ⟨x, h1, h2, h3, h4⟩ := mem_keptEnds.mp hm.mem
  have hl : most d a w k = some (keeps d x, m.2.1) := by
    rw [most_fold]
    rcases fold_more ((layer d k).zipIdx.flatMap fun x => (x.1.filter (isAim a w)).map fun s => (keeps d s, x.2)) with ⟨_, e, _⟩ | ⟨n, hn, hmem | hmem, hall, _⟩
    · exfalso
      have : (keeps d x, m.2.1) ∈ ((layer d k).zipIdx.flatMap fun x => (x.1.filter (isAim a w)).map fun s => (keeps d s, x.2)) := (mem_pairs (g := fun s _ => keeps d s) h).mpr ⟨x, h1, R_of_end h2, h3, rfl⟩
      rw [e] at this
      cases this
    · rw [hn]
      obtain ⟨s, q1, q2, q3, q4⟩ := (mem_pairs (g := fun s _ => keeps d s) h).mp hmem
      obtain ⟨r, hr⟩ := end_of_R q2
      have z := hm.least _ (mem_keptEnds.mpr ⟨s, q1, hr, q3, rfl⟩ : (0 - (keeps d s : Int), n.2, r) ∈ keptEnds d (isAim a w) k)
      have z2 := lt3_false z
      dsimp only at z2
      have y := hall _ ((mem_pairs (g := fun s _ => keeps d s) h).mpr ⟨x, h1, R_of_end h2, h3, rfl⟩ : (keeps d x, m.2.1) ∈ _)
      simp only [bMore, decide_eq_false_iff_not] at y
      obtain ⟨n1, n2⟩ := n
      dsimp only at *
      have e1 : n1 = keeps d x := by omega
      have e2 : n2 = m.2.1 := by omega
      rw [e1, e2]
    · cases hmem
  refine ⟨keeps d x, by omega, hl, ?_⟩
  unfold mostRow
  rw [hl]
  show some (rowTo d m.2.1 (((layer d m.2.1).getLastD []).filter fun s => isAim a w s && keeps d s == keeps d x)) = _
  rw [layer_last]
  congr 1
  refine row_same (g := fun s _ => keeps d s) h ⟨x, h2, h3, rfl⟩ fun y r' hy fy gy => ?_
  have z := lt3_false (hm.least _ (mem_keptEnds.mpr ⟨y, h1, hy, fy, rfl⟩ : (0 - (keeps d y : Int), m.2.1, r') ∈ keptEnds d (isAim a w) k))
  dsimp only at z gy
  rw [gy, h4] at z
  rcases z with z | ⟨_, z | ⟨_, z⟩⟩
  · omega
  · omega
  · exact z
/-- how many rows there are at the most -/
theorem rowsAt_len {w : World} (h : OkW w) (t : Nat) : (rowsAt w w.now t).length ≤ 32 := by
  have RO := rowsAt_ok w w.now t
  have := nodup_le (2 ^ w.m) ((rowsAt w w.now t).map (·.1)) RO.nd fun x hx => by
    obtain ⟨q, hq, e⟩ := List.mem_map.mp hx
    have B := RO.is q hq
    rw [e] at B
    exact R_lt h h.now (R_run.mpr ⟨q.2, B.1, B.2.1⟩)
  rw [List.length_map] at this
  exact Nat.le_trans this (Nat.pow_le_pow_right (by decide) h.hi)
end KpM
end
section
/-! Plain law, part C: tidied. -/
namespace KpM
open Kp371 Kp373

/-! ### what stays so -/
def AR (w : World) (f : Nat → Bool) (s : Nat) : Nat → Nat → Prop
  | 0, x => x = s ∧ f x = true
  | t + 1, x => f x = true ∧ ∃ u, AR w f s t u ∧ x ∈ nexts w u
theorem AR_lt {w : World} (h : OkW w) {f : Nat → Bool} {s : Nat} (hs : s < 2 ^ w.m) : ∀ {t x : Nat}, AR w f s t x → x < 2 ^ w.m
  | 0, x, r => by
    rw [r.1]
    exact hs
  | t + 1, x, ⟨_, u, hu, hx⟩ => by
    obtain ⟨i, e⟩ := mem_nexts.mp hx
    exact step_lt h (AR_lt h hs hu) e
def stl (d : Desk) (a w s : Nat) : Nat → List Nat
  | 0 => if isAim a w s = true then [s] else []
  | t + 1 => (states d.world).filter fun x => isAim a w x && (stl d a w s t).any fun u => (nexts d.world u).contains x
theorem stays_eq (d : Desk) (a w s : Nat) : ∀ k, stays d a w s k = (List.range (k + 1)).map (stl d a w s)
  | 0 => rfl
  | k + 1 => by
    have ih := stays_eq d a w s k
    have hl : (stays d a w s k).getLastD [] = stl d a w s k := by
      rw [ih, List.range_succ, List.map_append]
      exact List.getLastD_concat
    show stays d a w s k ++ [(states d.world).filter fun x => isAim a w x && ((stays d a w s k).getLastD []).any fun u => (nexts d.world u).contains x] = _
    rw [hl, ih, List.range_succ (n := k + 1), List.map_append]
    rfl
theorem mem_stl {d : Desk} (h : OkW d.world) {a w s : Nat} (hs : s < 2 ^ d.world.m) : ∀ {t x : Nat}, x ∈ stl d a w s t ↔ AR d.world (isAim a w) s t x
  | 0, x => by
    show x ∈ (if isAim a w s = true then [s] else []) ↔ x = s ∧ isAim a w x = true
    by_cases c : isAim a w s = true
    · rw [if_pos c, List.mem_singleton]
      constructor
      · intro e
        rw [e]
        exact ⟨rfl, c⟩
      · exact fun e => e.1
    · rw [if_neg c]
      constructor
      · intro e
        cases e
      · rintro ⟨e, e2⟩
        rw [e] at e2
        exact absurd e2 c
  | t + 1, x => by
    show x ∈ ((states d.world).filter fun x => isAim a w x && (stl d a w s t).any fun u => (nexts d.world u).contains x) ↔ _
    rw [List.mem_filter, states, List.mem_range, Bool.and_eq_true, List.any_eq_true]
    constructor
    · rintro ⟨_, hf, u, hu, hc⟩
      exact ⟨hf, u, (mem_stl h hs).mp hu, List.contains_iff_mem.mp hc⟩
    · intro r
      refine ⟨AR_lt h hs r, r.1, ?_⟩
      obtain ⟨_, u, hu, hx⟩ := r
      exact ⟨u, (mem_stl h hs).mpr hu, List.contains_iff_mem.mpr hx⟩

/-! ### the program's walk -/
def addTo (l : List Nat) (t : Nat) : List Nat := if l.contains t = true then l else l ++ [t]
theorem mem_addTo {l : List Nat} {t x : Nat} : x ∈ addTo l t ↔ x ∈ l ∨ x = t := by
  unfold addTo
  by_cases c : l.contains t = true
  · rw [if_pos c]
    have hm : t ∈ l := List.contains_iff_mem.mp c
    constructor
    · exact .inl
    · rintro (e | e)
      · exact e
      · rw [e]
        exact hm
  · rw [if_neg c, List.mem_append, List.mem_singleton]
theorem nodup_addTo {l : List Nat} {t : Nat} (h : l.Nodup) : (addTo l t).Nodup := by
  unfold addTo
  by_cases c : l.contains t = true
  · rw [if_pos c]
    exact h
  · rw [if_neg c]
    refine List.nodup_append.mpr ⟨h, by simp, fun a ha b hb e => ?_⟩
    have hb' : b = t := by simpa using hb
    rw [e, hb'] at ha
    exact c (List.contains_iff_mem.mpr ha)
def tOne (f : Nat → Bool) (met behind : List Nat) (p : Nat × Nat) : List Nat := if (f p.2 && !met.contains p.2) = true then addTo behind p.2 else behind
def tFrom (w : World) (f : Nat → Bool) (met behind : List Nat) (s : Nat) : List Nat := (foll w s).foldl (tOne f met) behind
def tMet (met layer : List Nat) : List Nat := layer.foldl addTo met
def tBehind (w : World) (f : Nat → Bool) (met layer : List Nat) : List Nat := layer.foldl (tFrom w f met) []
/-- what was met ahead of turn t; the layer at it -/
def tAt (w : World) (f : Nat → Bool) (s : Nat) : Nat → List Nat × List Nat
  | 0 => ([], [s])
  | t + 1 => (tMet (tAt w f s t).1 (tAt w f s t).2, tBehind w f (tMet (tAt w f s t).1 (tAt w f s t).2) (tAt w f s t).2)
theorem mem_tMet {layer : List Nat} : ∀ {met : List Nat} {x : Nat}, x ∈ tMet met layer ↔ x ∈ met ∨ x ∈ layer := by
  unfold tMet
  induction layer with
  | nil =>
    intro met x
    simp
  | cons a l ih =>
    intro met x
    rw [List.foldl_cons, ih, mem_addTo, List.mem_cons, or_assoc]
theorem mem_tFrom {w : World} {f : Nat → Bool} {met : List Nat} {s : Nat} {behind : List Nat} {x : Nat} : x ∈ tFrom w f met behind s ↔ x ∈ behind ∨ (f x = true ∧ x ∉ met ∧ x ∈ nexts w s) := by
  unfold tFrom
  rw [nexts_foll]
  generalize foll w s = l
  induction l generalizing behind with
  | nil => simp
  | cons p l ih =>
    rw [List.foldl_cons, ih]
    unfold tOne
    by_cases c : (f p.2 && !met.contains p.2) = true
    · rw [if_pos c, mem_addTo, List.map_cons, List.mem_cons]
      rw [Bool.and_eq_true] at c
      have c2 : p.2 ∉ met := by simpa using c.2
      constructor
      · rintro ((e | e) | ⟨e1, e2, e3⟩)
        · exact .inl e
        · rw [e]
          exact .inr ⟨c.1, c2, .inl rfl⟩
        · exact .inr ⟨e1, e2, .inr e3⟩
      · rintro (e | ⟨e1, e2, e3 | e3⟩)
        · exact .inl (.inl e)
        · exact .inl (.inr e3)
        · exact .inr ⟨e1, e2, e3⟩
    · rw [if_neg c, List.map_cons, List.mem_cons]
      constructor
      · rintro (e | ⟨e1, e2, e3⟩)
        · exact .inl e
        · exact .inr ⟨e1, e2, .inr e3⟩
      · rintro (e | ⟨e1, e2, e3 | e3⟩)
        · exact .inl e
        · exfalso
          rw [e3] at e1 e2
          exact c (by rw [e1]; simpa using e2)
        · exact .inr ⟨e1, e2, e3⟩
theorem mem_tBehind {w : World} {f : Nat → Bool} {met layer : List Nat} {x : Nat} : x ∈ tBehind w f met layer ↔ f x = true ∧ x ∉ met ∧ ∃ u ∈ layer, x ∈ nexts w u := by
  unfold tBehind
  have key : ∀ (l : List Nat) (b : List Nat), x ∈ l.foldl (tFrom w f met) b ↔ x ∈ b ∨ (f x = true ∧ x ∉ met ∧ ∃ u ∈ l, x ∈ nexts w u) := by
    intro l
    induction l with
    | nil =>
      intro b
      simp
    | cons a l ih =>
      intro b
      rw [List.foldl_cons, ih, mem_tFrom]
      simp only [List.mem_cons, exists_eq_or_imp]
      constructor
      · rintro ((e | ⟨e1, e2, e3⟩) | ⟨e1, e2, e3⟩)
        · exact .inl e
        · exact .inr ⟨e1, e2, .inl e3⟩
        · exact .inr ⟨e1, e2, .inr e3⟩
      · rintro (e | ⟨e1, e2, e3 | e3⟩)
        · exact .inl (.inl e)
        · exact .inl (.inr ⟨e1, e2, e3⟩)
        · exact .inr ⟨e1, e2, e3⟩
  rw [key]
  simp
theorem nodup_tBehind {w : World} {f : Nat → Bool} {met layer : List Nat} : (tBehind w f met layer).Nodup := by
  unfold tBehind
  have key : ∀ (l : List Nat) (b : List Nat), b.Nodup → (l.foldl (tFrom w f met) b).Nodup := by
    intro l
    induction l with
    | nil => exact fun b h => h
    | cons a l ih =>
      intro b hb
      rw [List.foldl_cons]
      refine ih _ ?_
      unfold tFrom
      generalize foll w a = q
      induction q generalizing b with
      | nil => exact hb
      | cons p q ih2 =>
        rw [List.foldl_cons]
        refine ih2 _ ?_
        unfold tOne
        split
        · exact nodup_addTo hb
        · exact hb
  exact key layer [] (by simp)
theorem tAt_spec {w : World} {f : Nat → Bool} {s : Nat} (hf : f s = true) : ∀ t, (∀ x, x ∈ (tAt w f s t).1 ↔ ∃ j, j < t ∧ AR w f s j x) ∧ (∀ x, x ∈ (tAt w f s t).2 ↔ AR w f s t x ∧ ∀ j, j < t → ¬ AR w f s j x)
  | 0 => by
    refine ⟨fun x => ?_, fun x => ?_⟩
    · show x ∈ [] ↔ _
      constructor
      · intro e
        cases e
      · rintro ⟨j, hj, _⟩
        omega
    · show x ∈ [s] ↔ _
      rw [List.mem_singleton]
      constructor
      · intro e
        rw [e]
        exact ⟨⟨rfl, hf⟩, fun j hj => by omega⟩
      · exact fun e => e.1.1
  | t + 1 => by
    obtain ⟨h1, h2⟩ := tAt_spec hf t
    have m1 : ∀ x, x ∈ tMet (tAt w f s t).1 (tAt w f s t).2 ↔ ∃ j, j < t + 1 ∧ AR w f s j x := fun x => by
      rw [mem_tMet, h1 x, h2 x]
      constructor
      · rintro (⟨j, hj, r⟩ | ⟨r, _⟩)
        · exact ⟨j, by omega, r⟩
        · exact ⟨t, by omega, r⟩
      · rintro ⟨j, hj, r⟩
        by_cases c : ∃ i, i < t ∧ AR w f s i x
        · exact .inl c
        · have : j = t := by
            by_cases q : j < t
            · exact absurd ⟨j, q, r⟩ c
            · omega
          subst this
          exact .inr ⟨r, fun i hi z => c ⟨i, hi, z⟩⟩
    refine ⟨m1, fun x => ?_⟩
    show x ∈ tBehind w f (tMet (tAt w f s t).1 (tAt w f s t).2) (tAt w f s t).2 ↔ _
    rw [mem_tBehind, m1 x]
    constructor
    · rintro ⟨fx, hn, u, hu, hx⟩
      exact ⟨⟨fx, u, ((h2 u).mp hu).1, hx⟩, fun j hj r => hn ⟨j, hj, r⟩⟩
    · rintro ⟨⟨fx, u, hu, hx⟩, hn⟩
      refine ⟨fx, fun ⟨j, hj, r⟩ => hn j hj r, u, (h2 u).mpr ⟨hu, fun j hj r => ?_⟩, hx⟩
      exact hn (j + 1) (by omega) ⟨fx, u, r, hx⟩
def ltT (a b : Int × Nat × Nat) : Bool := if a.1 = b.1 then (if a.2.1 = b.2.1 then decide (a.2.2 < b.2.2) else decide (a.2.1 < b.2.1)) else decide (a.1 < b.1)
def tidyEnds (d : Desk) (f : Nat → Bool) (k : Nat) : List (Int × Nat × Nat) := (List.range (k + 1)).flatMap fun t => (tAt d.world f d.world.now t).2.map fun s => (0 - (keeps d s : Int), t, s)
theorem mem_tidyEnds {d : Desk} {f : Nat → Bool} {k : Nat} {c : Int × Nat × Nat} : c ∈ tidyEnds d f k ↔ c.2.1 ≤ k ∧ c.2.2 ∈ (tAt d.world f d.world.now c.2.1).2 ∧ c.1 = 0 - (keeps d c.2.2 : Int) := by
  unfold tidyEnds
  simp only [List.mem_flatMap, List.mem_range, List.mem_map]
  constructor
  · rintro ⟨t, ht, s, hs, e⟩
    subst e
    exact ⟨by dsimp only; omega, hs, rfl⟩
  · rintro ⟨ht, hs, e⟩
    exact ⟨c.2.1, by omega, c.2.2, hs, by rw [← e]⟩
def bTidy (c n : Nat × Nat × Nat) : Bool := decide (n.1 < c.1 ∨ (c.1 = n.1 ∧ (c.2.1 < n.2.1 ∨ (c.2.1 = n.2.1 ∧ c.2.2 < n.2.2))))
theorem tidy_fold (d : Desk) (a w k : Nat) : tidy d a w k = ((stays d a w d.world.now k).zipIdx.flatMap fun x => x.1.map fun s => (keeps d s, x.2, s)).foldl (pick bTidy) none := by
  unfold tidy
  congr 1
  funext m c
  cases m with
  | none => rfl
  | some n => simp [pick, bTidy]
def fold_tidy (l : List (Nat × Nat × Nat)) := fold_best bTidy (by intro a b c; simp only [bTidy, decide_eq_true_eq]; omega) (by intro a; simp [bTidy]) (by intro a b c; simp only [bTidy, decide_eq_false_iff_not]; omega) l none
theorem mem_stays {d : Desk} (h : OkW d.world) {a w k : Nat} {c : Nat × Nat × Nat} : c ∈ ((stays d a w d.world.now k).zipIdx.flatMap fun x => x.1.map fun s => (keeps d s, x.2, s)) ↔ c.2.1 ≤ k ∧ AR d.world (isAim a w) d.world.now c.2.1 c.2.2 ∧ c.1 = keeps d c.2.2 := by
  simp only [List.mem_flatMap, List.mem_zipIdx_iff_getElem?, List.mem_map]
  rw [stays_eq]
  constructor
  · rintro ⟨⟨l, t⟩, hl, s, hs, e⟩
    subst e
    dsimp only at hl hs ⊢
    rw [List.getElem?_map] at hl
    by_cases ht : t < k + 1
    · rw [List.getElem?_range ht] at hl
      have e2 : stl d a w d.world.now t = l := Option.some.inj hl
      rw [← e2] at hs
      exact ⟨by omega, (mem_stl h h.now).mp hs, rfl⟩
    · rw [List.getElem?_eq_none (by simp; omega)] at hl
      cases hl
  · rintro ⟨ht, hr, e⟩
    refine ⟨(stl d a w d.world.now c.2.1, c.2.1), ?_, c.2.2, (mem_stl h h.now).mpr hr, ?_⟩
    · rw [List.getElem?_map, List.getElem?_range (by omega)]
      rfl
    · dsimp only
      rw [← e]
theorem tidy_none {d : Desk} (h : OkW d.world) {a w k : Nat} (hf : isAim a w d.world.now = false) : tidy d a w k = none := by
  rw [tidy_fold]
  rcases fold_tidy ((stays d a w d.world.now k).zipIdx.flatMap fun x => x.1.map fun s => (keeps d s, x.2, s)) with ⟨h1, _, _⟩ | ⟨m, _, hm | hm, _, _⟩
  · exact h1
  · exfalso
    obtain ⟨_, hr, _⟩ := (mem_stays h).mp hm
    have key : ∀ t x, ¬ AR d.world (isAim a w) d.world.now t x := by
      intro t
      induction t with
      | zero =>
        rintro x ⟨e, fx⟩
        rw [e, hf] at fx
        cases fx
      | succ t ih =>
        rintro x ⟨_, u, hu, _⟩
        exact ih u hu
    exact key _ _ hr
  · cases hm
/-- the first turn at which it can stand -/
theorem first_turn {P : Nat → Prop} : ∀ {t : Nat}, P t → ∃ j, j ≤ t ∧ P j ∧ ∀ i, i < j → ¬ P i := by
  intro t
  induction t using Nat.strongRecOn with
  | ind t ih =>
    intro h
    by_cases c : ∃ i, i < t ∧ P i
    · obtain ⟨i, hi, hp⟩ := c
      obtain ⟨j, hj, q, r⟩ := ih i hi hp
      exact ⟨j, by omega, q, r⟩
    · exact ⟨t, Nat.le_refl _, h, fun i hi z => c ⟨i, hi, z⟩⟩
theorem ltT_false {a b : Int × Nat × Nat} (h : ltT a b = false) : b.1 < a.1 ∨ (a.1 = b.1 ∧ (b.2.1 < a.2.1 ∨ (a.2.1 = b.2.1 ∧ b.2.2 ≤ a.2.2))) := by
  unfold ltT at h
  by_cases e : a.1 = b.1
  · rw [if_pos e] at h
    by_cases e2 : a.2.1 = b.2.1
    · rw [if_pos e2] at h
      have := of_decide_eq_false h
      exact .inr ⟨e, .inr ⟨e2, by omega⟩⟩
    · rw [if_neg e2] at h
      have := of_decide_eq_false h
      exact .inr ⟨e, .inl (by omega)⟩
  · rw [if_neg e] at h
    have := of_decide_eq_false h
    exact .inl (by omega)
theorem tidy_is {d : Desk} (h : OkW d.world) {a w k : Nat} (hf : isAim a w d.world.now = true) {m : Int × Nat × Nat} (hm : IsMin ltT (tidyEnds d (isAim a w) k) m) :
    ∃ l : Nat, 0 - m.1 = (l : Int) ∧ tidy d a w k = some (l, m.2.1, m.2.2) := by
  obtain ⟨h1, h2, h3⟩ := mem_tidyEnds.mp hm.mem
  have T := tAt_spec (w := d.world) hf
  refine ⟨keeps d m.2.2, by omega, ?_⟩
  rw [tidy_fold]
  rcases fold_tidy ((stays d a w d.world.now k).zipIdx.flatMap fun x => x.1.map fun s => (keeps d s, x.2, s)) with ⟨_, e, _⟩ | ⟨n, hn, hmem | hmem, hall, _⟩
  · exfalso
    have : (keeps d m.2.2, m.2.1, m.2.2) ∈ ((stays d a w d.world.now k).zipIdx.flatMap fun x => x.1.map fun s => (keeps d s, x.2, s)) := (mem_stays h).mpr ⟨h1, (((T m.2.1).2 _).mp h2).1, rfl⟩
    rw [e] at this
    cases this
  · rw [hn]
    obtain ⟨q1, q2, q3⟩ := (mem_stays h).mp hmem
    obtain ⟨j, hj, r, hmin⟩ := first_turn (P := fun t => AR d.world (isAim a w) d.world.now t n.2.2) q2
    have z := hm.least _ (mem_tidyEnds.mpr ⟨by dsimp only; omega, ((T j).2 _).mpr ⟨r, hmin⟩, rfl⟩ : (0 - (keeps d n.2.2 : Int), j, n.2.2) ∈ tidyEnds d (isAim a w) k)
    have z2 := ltT_false z
    dsimp only at z2
    have y := hall _ ((mem_stays h).mpr ⟨h1, (((T m.2.1).2 _).mp h2).1, rfl⟩ : (keeps d m.2.2, m.2.1, m.2.2) ∈ _)
    have y2 := hall _ ((mem_stays h).mpr ⟨by dsimp only; omega, r, rfl⟩ : (keeps d n.2.2, j, n.2.2) ∈ _)
    simp only [bTidy, decide_eq_false_iff_not] at y y2
    obtain ⟨n1, n2, n3⟩ := n
    dsimp only at *
    have e1 : n1 = keeps d m.2.2 := by omega
    have e2 : n2 = m.2.1 := by omega
    have e3 : n3 = m.2.2 := by omega
    rw [e1, e2, e3]
  · cases hmem
theorem tAt_nodup {w : World} {f : Nat → Bool} {s : Nat} : ∀ t, (tAt w f s t).2.Nodup
  | 0 => by simp [tAt]
  | t + 1 => nodup_tBehind
theorem tAt_lt {w : World} (h : OkW w) {f : Nat → Bool} {s : Nat} (hs : s < 2 ^ w.m) (hf : f s = true) {t x : Nat} (hx : x ∈ (tAt w f s t).2) : x < 2 ^ w.m := AR_lt h hs (((tAt_spec hf t).2 x).mp hx).1
theorem tAt_len {w : World} (h : OkW w) {f : Nat → Bool} {s : Nat} (hs : s < 2 ^ w.m) (hf : f s = true) (t : Nat) : (tAt w f s t).2.length ≤ 32 :=
  Nat.le_trans (nodup_le (2 ^ w.m) _ (tAt_nodup t) fun x hx => tAt_lt h hs hf hx) (Nat.pow_le_pow_right (by decide) h.hi)
end KpM
end
section
/-! Plain law, part D: sizes of what the walks hold; the tables of the walks. -/
namespace KpM
open Kp371 Kp373
structure FineS (w : World) (acc : List Nat × List Nat) : Prop where
  nd : acc.1.Nodup
  met : ∀ x ∈ acc.1, x < 2 ^ w.m
  new : ∀ x ∈ acc.2, x < 2 ^ w.m
  len : acc.2.length ≤ acc.1.length
theorem FineS.one {w : World} {acc : List Nat × List Nat} (h : FineS w acc) {t : Nat} (ht : t < 2 ^ w.m) : FineS w (seeOne acc t) := by
  unfold seeOne
  by_cases c : acc.1.contains t = true
  · rw [if_pos c]
    exact h
  · rw [if_neg c]
    have hn : t ∉ acc.1 := fun z => c (List.contains_iff_mem.mpr z)
    refine ⟨List.nodup_append.mpr ⟨h.nd, by simp, fun a ha b hb e => ?_⟩, fun x hx => ?_, fun x hx => ?_, ?_⟩
    · have hb' : b = t := by simpa using hb
      rw [e, hb'] at ha
      exact hn ha
    · rcases List.mem_append.mp hx with q | q
      · exact h.met x q
      · have : x = t := by simpa using q
        rw [this]
        exact ht
    · rcases List.mem_append.mp hx with q | q
      · exact h.new x q
      · have : x = t := by simpa using q
        rw [this]
        exact ht
    · have := h.len
      simp
      omega
theorem FineS.size {w : World} {acc : List Nat × List Nat} (h : FineS w acc) (hm : w.m ≤ 5) : acc.1.length ≤ 32 ∧ acc.2.length ≤ 32 := by
  have h1 := nodup_le _ _ h.nd h.met
  have h2 : (2 : Nat) ^ w.m ≤ 32 := Nat.pow_le_pow_right (by decide) hm
  have := h.len
  omega
theorem foll_lt {w : World} (ok : OkW w) {s : Nat} (hs : s < 2 ^ w.m) {p : Nat × Nat} (hp : p ∈ foll w s) : p.2 < 2 ^ w.m := step_lt ok hs (mem_foll (i := p.1).mp hp).1
theorem FineS.take {w : World} (ok : OkW w) {s : Nat} (hs : s < 2 ^ w.m) {acc : List Nat × List Nat} (h : FineS w acc) (i : Nat) : FineS w (((foll w s).take i).foldl (fun a p => seeOne a p.2) acc) := by
  have key : ∀ (l : List (Nat × Nat)) (acc : List Nat × List Nat), (∀ p ∈ l, p.2 < 2 ^ w.m) → FineS w acc → FineS w (l.foldl (fun a p => seeOne a p.2) acc) := by
    intro l
    induction l with
    | nil => exact fun acc _ h => h
    | cons p l ih => exact fun acc hl h => ih _ (fun q hq => hl q (List.mem_cons_of_mem _ hq)) (h.one (hl p List.mem_cons_self))
  exact key _ _ (fun p hp => foll_lt ok hs (List.mem_of_mem_take hp)) h
theorem FineS.all {w : World} (ok : OkW w) {s : Nat} (hs : s < 2 ^ w.m) {acc : List Nat × List Nat} (h : FineS w acc) : FineS w (seeAll w acc s) := by
  have := h.take ok hs (foll w s).length
  rw [List.take_length] at this
  exact this
theorem FineS.layer {w : World} (ok : OkW w) {layer : List Nat} (hl : ∀ x ∈ layer, x < 2 ^ w.m) {acc : List Nat × List Nat} (h : FineS w acc) (i : Nat) : FineS w ((layer.take i).foldl (seeAll w) acc) := by
  have key : ∀ (l : List Nat) (acc : List Nat × List Nat), (∀ p ∈ l, p < 2 ^ w.m) → FineS w acc → FineS w (l.foldl (seeAll w) acc) := by
    intro l
    induction l with
    | nil => exact fun acc _ h => h
    | cons p l ih => exact fun acc hl h => ih _ (fun q hq => hl q (List.mem_cons_of_mem _ hq)) (h.all ok (hl p List.mem_cons_self))
  exact key _ _ (fun p hp => hl p (List.mem_of_mem_take hp)) h
theorem FineS.fresh {w : World} {acc : List Nat × List Nat} (h : FineS w acc) : FineS w (acc.1, []) := ⟨h.nd, h.met, fun x hx => (by cases hx), Nat.zero_le _⟩
theorem fold_take {α β : Type} (f : β → α → β) (b : β) {l : List α} {i : Nat} {x : α} (h : l[i]? = some x) : (l.take (i + 1)).foldl f b = f ((l.take i).foldl f b) x := by
  rw [List.take_add_one, h, List.foldl_append]
  rfl
theorem come_stop {w : World} {f : Nat → Bool} {k : Nat} {met layer : List Nat} (h : (layer.isEmpty || layer.any f) = true) : come w f k met layer = layer := by
  cases k with
  | zero => rfl
  | succ k =>
    unfold come
    rw [if_pos h]
theorem come_go {w : World} {f : Nat → Bool} {k : Nat} {met layer : List Nat} (h : (layer.isEmpty || layer.any f) = false) : come w f (k + 1) met layer = come w f k (spread w met layer).1 (spread w met layer).2 := by
  show (if (layer.isEmpty || layer.any f) = true then layer else come w f k (spread w met layer).1 (spread w met layer).2) = _
  rw [if_neg (by rw [h]; exact Bool.false_ne_true)]
end KpM
end
section
set_option maxHeartbeats 400000
namespace KpM
theorem step371_neg {w : Kp371.World} {c : Kp371.Call} {D : Kp373.Desk} (hw : D.world = w) (hc : (∃ a b c' d, c = .deed a b c' d) ∨ (∃ a b c' d, c = .event a b c' d) ∨ (∃ i, c = .undeed i) ∨ (∃ i, c = .unevent i) ∨ (∃ i, c = .set i) ∨ c = .now ∨ ∃ i, c = .do_ i) {D' : Kp373.Desk} {a : Kp373.Ans} (h : Kp373.under (some D) D c = (some D', a)) (hn : a.num < 0) : D' = D ∧ a.nums = [] := by
  unfold Kp373.under at h
  dsimp only at h
  by_cases c0 : (Kp371.step (some D.world) c).2.num < 0
  · rw [if_pos c0] at h
    cases h
    refine ⟨rfl, ?_⟩
    show (Kp371.step (some D.world) c).2.nums = []
    rcases hc with ⟨a, b, c', d, rfl⟩ | ⟨a, b, c', d, rfl⟩ | ⟨i, rfl⟩ | ⟨i, rfl⟩ | ⟨i, rfl⟩ | rfl | ⟨i, rfl⟩ <;> simp only [Kp371.step] <;> (repeat' split) <;> first | rfl | (simp_all [Kp371.say])
  · exfalso
    have e : a.num = (Kp371.step (some D.world) c).2.num := by
      have := congrArg (fun p => p.2.num) h
      exact this.symm
    rw [e] at hn
    exact c0 hn
theorem step_neg {D D' : Kp373.Desk} {x : Kp373.Call} {a : Kp373.Ans} (hx : ∀ m, x ≠ .begin_ m) (h : Kp373.step (some D) x = (some D', a)) (hn : a.num < 0) : D' = D ∧ a.nums = [] := by
  cases x with
  | begin_ m => exact absurd rfl (hx m)
  | deed a b c e => exact step371_neg rfl (.inl ⟨_, _, _, _, rfl⟩) h hn
  | event a b c e => exact step371_neg rfl (.inr (.inl ⟨_, _, _, _, rfl⟩)) h hn
  | undeed i => exact step371_neg rfl (.inr (.inr (.inl ⟨_, rfl⟩))) h hn
  | unevent i => exact step371_neg rfl (.inr (.inr (.inr (.inl ⟨_, rfl⟩)))) h hn
  | set i => exact step371_neg rfl (.inr (.inr (.inr (.inr (.inl ⟨_, rfl⟩))))) h hn
  | now => exact step371_neg rfl (.inr (.inr (.inr (.inr (.inr (.inl rfl)))))) h hn
  | do_ i => exact step371_neg rfl (.inr (.inr (.inr (.inr (.inr (.inr ⟨_, rfl⟩)))))) h hn
  | aim a' w x k =>
    simp only [Kp373.step] at h
    repeat' split at h
    all_goals
      cases h
      first | exact ⟨rfl, rfl⟩ | (exfalso; revert hn; show ¬ (((_ : Nat) : Int) < 0); omega)
  | unaim i =>
    simp only [Kp373.step] at h
    repeat' split at h
    all_goals
      cases h
      first | exact ⟨rfl, rfl⟩ | (exfalso; revert hn; show ¬ (((_ : Nat) : Int) < 0); omega)
  | _ =>
    simp only [Kp373.step, Kp373.pairAns, Kp373.optRow, Kp373.row, Kp373.say] at h
    repeat' split at h
    all_goals
      cases h
      first | exact ⟨rfl, rfl⟩ | (exfalso; revert hn; dsimp only; omega)
theorem step_some {D : Kp373.Desk} {x : Kp373.Call} (hx : ∀ m, x ≠ .begin_ m) : ∃ D' a, Kp373.step (some D) x = (some D', a) := by
  have u : ∀ c, ∃ D' a, Kp373.under (some D) D c = (some D', a) := fun c => by
    unfold Kp373.under
    dsimp only
    split
    · exact ⟨_, _, rfl⟩
    · rename_i h
      cases hr : (Kp371.step (some D.world) c).1 with
      | some w => exact ⟨_, _, rfl⟩
      | none => 
        exfalso
        revert hr
        cases c <;> simp only [Kp371.step] <;> (repeat' split) <;> simp
  cases x with
  | begin_ m => exact absurd rfl (hx m)
  | deed a b c e => exact u _
  | event a b c e => exact u _
  | undeed i => exact u _
  | unevent i => exact u _
  | set i => exact u _
  | now => exact u _
  | do_ i => exact u _
  | _ =>
    simp only [Kp373.step]
    repeat' split
    all_goals exact ⟨_, _, rfl⟩
end KpM
end
set_option maxRecDepth 100000
set_option maxHeartbeats 400000
/-! Own rules: a constant of the module whose token is not told; the order of rows of numbers; min over a list of any things that have an order. -/
namespace Kw
open PySem PySem.Spec PyProof.Rows L2

/-! ### an int constant of the module -/
theorem pe_gint {X : Cx} {x : Str} {i : Int} {pos : Pos} (hg : Gl X x) (h : ∃ t, X.mg x = some (.int i t)) (hd : (x == ("__debug__" : Str)) = false := by decide) : PE X (.Name x pos) (tC (.int i)) :=
  ⟨fun pins s σ H Q I q => by
    obtain ⟨t, e⟩ := h
    exact (pe_glob hg e (v := .int i) ⟨t, rfl⟩ hd).run pins s σ H Q I q⟩

/-! ### order, by values -/
/-- wherever H is held, x < y gives b -/
def LtV (P : Program) (w : World) (n : Nat) (H : Hp) (x y : V) (b : Bool) : Prop := ∀ (Ar : Around) (s : Shared) (u v : Value), HOk P w H s.heap → RelV x u → RelV y v → Ar.units + n < cLine → SeqAt.RcLt Ar s u v b
/-- .. x == y -/
def EqV (P : Program) (w : World) (n : Nat) (H : Hp) (x y : V) (b : Bool) : Prop := ∀ (Ar : Around) (s : Shared) (u v : Value), HOk P w H s.heap → RelV x u → RelV y v → Ar.units + n < cLine → SeqAt.EqAt Ar s u v b
section
variable {P : Program} {w : World} {n : Nat} {H : Hp}
theorem ltv_int (i j : Int) : LtV P w n H (.int i) (.int j) (decide (i < j)) := fun Ar s u v _ ru rv _ => by
  obtain ⟨t, rfl⟩ := ru
  obtain ⟨t', rfl⟩ := rv
  exact fun prog w' E Q q => PyProof.Rows.lt_int q
theorem eqv_int (i j : Int) : EqV P w n H (.int i) (.int j) (i == j) := fun Ar s u v _ ru rv _ => by
  obtain ⟨t, rfl⟩ := ru
  obtain ⟨t', rfl⟩ := rv
  exact SeqAt.EqAt.int_int _ _ _ _
theorem firstLt_map {e r : Nat → Bool} {fin : Bool} (f : Nat → Nat) : ∀ l : List Nat, SeqAt.firstLt e r fin (l.map f) = SeqAt.firstLt (fun j => e (f j)) (fun j => r (f j)) fin l
  | [] => rfl
  | j :: t => by
    show (if e (f j) = true then SeqAt.firstLt e r fin (t.map f) else r (f j)) = (if e (f j) = true then SeqAt.firstLt (fun j => e (f j)) (fun j => r (f j)) fin t else r (f j))
    rw [firstLt_map f t]
theorem firstLt_cons {e r : Nat → Bool} {fin : Bool} {n : Nat} : SeqAt.firstLt e r fin (List.range (n + 1)) = if e 0 = true then SeqAt.firstLt (fun j => e (j + 1)) (fun j => r (j + 1)) fin (List.range n) else r 0 := by
  rw [List.range_succ_eq_map]
  show (if e 0 = true then SeqAt.firstLt e r fin ((List.range n).map Nat.succ) else r 0) = _
  rw [firstLt_map]
theorem firstLt_lex : ∀ ns ms : List Nat, SeqAt.firstLt (fun j => ((ns.getD j 0 : Nat) : Int) == ((ms.getD j 0 : Nat) : Int)) (fun j => decide (((ns.getD j 0 : Nat) : Int) < ((ms.getD j 0 : Nat) : Int))) (decide (ns.length < ms.length)) (List.range (min ns.length ms.length)) = KpM.lexlt ns ms
  | [], [] => rfl
  | [], m :: ms => by
    show SeqAt.firstLt _ _ (decide (0 < ms.length + 1)) (List.range (min 0 (ms.length + 1))) = true
    rw [Nat.zero_min]
    exact decide_eq_true (Nat.succ_pos _)
  | n :: ns, [] => by
    show SeqAt.firstLt _ _ (decide (ns.length + 1 < 0)) (List.range (min (ns.length + 1) 0)) = false
    rw [Nat.min_zero]
    exact decide_eq_false (Nat.not_lt_zero _)
  | n :: ns, m :: ms => by
    have ih := firstLt_lex ns ms
    have e1 : min (n :: ns).length (m :: ms).length = min ns.length ms.length + 1 := by simp only [List.length_cons]; omega
    rw [e1, firstLt_cons]
    have e2 : decide ((n :: ns).length < (m :: ms).length) = decide (ns.length < ms.length) := by simp
    rw [e2]
    show (if (((n : Nat) : Int) == ((m : Nat) : Int)) = true then SeqAt.firstLt (fun j => ((ns.getD j 0 : Nat) : Int) == ((ms.getD j 0 : Nat) : Int)) (fun j => decide (((ns.getD j 0 : Nat) : Int) < ((ms.getD j 0 : Nat) : Int))) (decide (ns.length < ms.length)) (List.range (min ns.length ms.length)) else decide (((n : Nat) : Int) < ((m : Nat) : Int))) = (if n = m then KpM.lexlt ns ms else decide (n < m))
    rw [ih]
    by_cases c : n = m
    · rw [if_pos c, if_pos (by rw [c]; exact beq_self_eq_true _)]
    · rw [if_neg c, if_neg (by rw [beq_iff_eq]; omega)]
      simp
theorem nats_at {ns : List Nat} {its : List Value} (r : Vals (ns.map fun n : Nat => V.int (n : Int)) its) : ∀ j (h : j < its.toArray.size), j < ns.length ∧ ∃ t, its.toArray[j] = .int ((ns.getD j 0 : Nat) : Int) t := fun j h => by
  have hl := Paired.length r
  rw [List.length_map] at hl
  have hj : j < ns.length := by
    rw [hl]
    simpa using h
  obtain ⟨u, hu, ru⟩ := Vals.get (i := j) (x := V.int ((ns[j] : Nat) : Int)) r (by rw [List.getElem?_map, List.getElem?_eq_getElem hj]; rfl)
  obtain ⟨t, rfl⟩ := ru
  refine ⟨hj, t, ?_⟩
  have h2 : its[j]? = some its.toArray[j] := by simp
  rw [h2] at hu
  rw [Option.some.inj hu, List.getD_eq_getElem?_getD, List.getElem?_eq_getElem hj]
  rfl
theorem ltv_nats {a b : Addr} {ns ms : List Nat} (ha : H a = some (.lst (ns.map fun n : Nat => V.int (n : Int)))) (hb : H b = some (.lst (ms.map fun n : Nat => V.int (n : Int)))) : LtV P w n H (.ref a) (.ref b) (KpM.lexlt ns ms) := fun Ar s u v ok ru rv hu => by
  cases ru
  cases rv
  obtain ⟨_, its, n1, r1, h1⟩ := ok a _ ha
  obtain ⟨_, its2, n2, r2, h2⟩ := ok b _ hb
  have l1 := Paired.length r1
  have l2 := Paired.length r2
  rw [List.length_map] at l1 l2
  have q := SeqAt.RcLt.lists (A := Ar) (s := s) (l := a) (b := b) (items := its.toArray) (items2 := its2.toArray) (e := fun j => ((ns.getD j 0 : Nat) : Int) == ((ms.getD j 0 : Nat) : Int)) (r := fun j => decide (((ns.getD j 0 : Nat) : Int) < ((ms.getD j 0 : Nat) : Int)))
    ⟨_, h1, rfl, n1, rfl⟩ ⟨_, h2, rfl, n2, rfl⟩ (by omega) (fun j h3 h4 => by
      obtain ⟨_, t, e⟩ := nats_at r1 j h3
      obtain ⟨_, t', e'⟩ := nats_at r2 j h4
      rw [e, e']
      exact SeqAt.EqAt.int_int _ _ _ _) (fun j h3 h4 _ => by
      obtain ⟨_, t, e⟩ := nats_at r1 j h3
      obtain ⟨_, t', e'⟩ := nats_at r2 j h4
      rw [e, e']
      exact fun prog w' E Q q => PyProof.Rows.lt_int q)
  have e1 : its.toArray.size = ns.length := by simpa using l1.symm
  have e2 : its2.toArray.size = ms.length := by simpa using l2.symm
  rw [e1, e2, firstLt_lex] at q
  exact q
/-- two triples: numbers, numbers, things with an order -/
theorem ltv_trip {a b : Addr} {i j i' j' : Int} {x y : V} {e3 r3 : Bool} (ha : H a = some (.tup [.int i, .int j, x])) (hb : H b = some (.tup [.int i', .int j', y])) (he : EqV P w n H x y e3) (hr : e3 = false → LtV P w n H x y r3) :
    LtV P w (n + 1) H (.ref a) (.ref b) (if (i == i') = true then (if (j == j') = true then (if e3 = true then false else r3) else decide (j < j')) else decide (i < i')) := fun Ar s u v ok ru rv hu => by
  cases ru
  cases rv
  obtain ⟨_, its, r1, h1⟩ := ok a _ ha
  obtain ⟨_, its2, r2, h2⟩ := ok b _ hb
  have hu1 : Ar.in1.units + n < cLine := by
    rw [Around.in1_units]
    omega
  cases r1 with
  | @cons _ u1 _ us1 q1 r1 =>
  cases r1 with
  | @cons _ u2 _ us2 q2 r1 =>
  cases r1 with
  | @cons _ u3 _ us3 q3 r1 =>
  cases r1
  cases r2 with
  | @cons _ v1 _ vs1 p1 r2 =>
  cases r2 with
  | @cons _ v2 _ vs2 p2 r2 =>
  cases r2 with
  | @cons _ v3 _ vs3 p3 r2 =>
  cases r2
  obtain ⟨t1, rfl⟩ := q1
  obtain ⟨t2, rfl⟩ := q2
  obtain ⟨s1, rfl⟩ := p1
  obtain ⟨s2, rfl⟩ := p2
  have q := SeqAt.RcLt.tuples (A := Ar) (s := s) (l := a) (b := b) (e := fun k => if k = 0 then i == i' else if k = 1 then j == j' else e3)
    (r := fun k => if k = 0 then decide (i < i') else if k = 1 then decide (j < j') else r3) h1 h2 (by omega) (fun k h3 h4 => by
      match k, h3, h4 with
      | 0, _, _ => exact SeqAt.EqAt.int_int _ _ _ _
      | 1, _, _ => exact SeqAt.EqAt.int_int _ _ _ _
      | 2, _, _ => exact he Ar.in1 s u3 v3 ok q3 p3 hu1) (fun k h3 h4 hk => by
      match k, h3, h4, hk with
      | 0, _, _, _ => exact fun prog w' E Q q => PyProof.Rows.lt_int q
      | 1, _, _, _ => exact fun prog w' E Q q => PyProof.Rows.lt_int q
      | 2, _, _, hk => exact hr hk Ar.in1 s u3 v3 ok q3 p3 hu1)
  exact q
/-! ### rows of numbers are equal -/
theorem reads_nats {h : Heap} : ∀ {ns : List Nat} {its : List Value}, Vals (ns.map fun n : Nat => V.int (n : Int)) its → ∃ as, ReadsAll h its (ns.map fun n : Nat => PyData.int (n : Int)) as
  | [], _, r => by
    cases r
    exact ⟨_, ReadsAll.nil⟩
  | m :: ns, _, r => by
    cases r with
    | cons r1 r2 =>
      obtain ⟨t, rfl⟩ := r1
      obtain ⟨as, q⟩ := reads_nats r2
      exact ⟨_, ReadsAll.cons (Reads.int _ t) q⟩
theorem eqv_nats : ∀ ns ms : List Nat, PyData.eqvAll (ns.map fun n : Nat => PyData.int (n : Int)) (ms.map fun n : Nat => PyData.int (n : Int)) = decide (ns = ms)
  | [], [] => rfl
  | [], m :: ms => rfl
  | n :: ns, [] => rfl
  | n :: ns, m :: ms => by
    show ((((n : Nat) : Int) == ((m : Nat) : Int)) && PyData.eqvAll (ns.map fun n : Nat => PyData.int (n : Int)) (ms.map fun n : Nat => PyData.int (n : Int))) = _
    rw [eqv_nats ns ms, Bool.eq_iff_iff]
    simp only [Bool.and_eq_true, beq_iff_eq, decide_eq_true_eq, List.cons.injEq]
    constructor
    · rintro ⟨e1, e2⟩
      exact ⟨by omega, e2⟩
    · rintro ⟨e1, e2⟩
      exact ⟨by omega, e2⟩
theorem lay_nats : ∀ ns : List Nat, PyData.canLayAll0 (ns.map fun n : Nat => PyData.int (n : Int)) = true ∧ PyData.depthAll (ns.map fun n : Nat => PyData.int (n : Int)) = 0
  | [] => ⟨rfl, rfl⟩
  | n :: ns => by
    obtain ⟨h1, h2⟩ := lay_nats ns
    refine ⟨?_, ?_⟩
    · show (true && PyData.canLayAll0 (ns.map fun n : Nat => PyData.int (n : Int))) = true
      rw [h1]
      rfl
    · show max 0 (PyData.depthAll (ns.map fun n : Nat => PyData.int (n : Int))) = 0
      rw [h2]
      rfl
theorem shaped_nats (ns : List Nat) : SeqAt.shaped (.list (ns.map fun n : Nat => PyData.int (n : Int))) = true := by
  obtain ⟨h1, h2⟩ := lay_nats ns
  show (PyData.canLayAll0 (ns.map fun n : Nat => PyData.int (n : Int)) && decide (PyData.depthAll (ns.map fun n : Nat => PyData.int (n : Int)) + 1 ≤ 64)) = true
  rw [h1, h2]
  rfl
theorem eqvv_nats {a b : Addr} {ns ms : List Nat} (hn : 2 ≤ n) (ha : H a = some (.lst (ns.map fun n : Nat => V.int (n : Int)))) (hb : H b = some (.lst (ms.map fun n : Nat => V.int (n : Int)))) : EqV P w n H (.ref a) (.ref b) (decide (ns = ms)) := fun Ar s u v ok ru rv hu => by
  cases ru
  cases rv
  obtain ⟨_, its, n1, r1, h1⟩ := ok a _ ha
  obtain ⟨_, its2, n2, r2, h2⟩ := ok b _ hb
  obtain ⟨as, q1⟩ := reads_nats (h := s.heap) r1
  obtain ⟨bs, q2⟩ := reads_nats (h := s.heap) r2
  obtain ⟨l1, d1⟩ := lay_nats ns
  obtain ⟨l2, d2⟩ := lay_nats ms
  have q := SeqAt.eqAt_reads (.list (ns.map fun n : Nat => PyData.int (n : Int))) (.list (ms.map fun n : Nat => PyData.int (n : Int))) Ar s (.ref a) (.ref b) _ _ (Reads.list h1 rfl rfl q1) (Reads.list h2 rfl rfl q2) l1 l2 (by
    show Ar.units + min (PyData.depthAll (ns.map fun n : Nat => PyData.int (n : Int)) + 1) (PyData.depthAll (ms.map fun n : Nat => PyData.int (n : Int)) + 1) < cLine
    rw [d1, d2]
    omega)
  have e : PyData.eqv (.list (ns.map fun n : Nat => PyData.int (n : Int))) (.list (ms.map fun n : Nat => PyData.int (n : Int))) = decide (ns = ms) := eqv_nats ns ms
  rw [e] at q
  exact q
end

/-! ### the rules -/
/-- x < y of two rows of numbers -/
def rLtL : R2 := fun x y H Q => ∃ (a b : Addr) (ns ms : List Nat), x = .ref a ∧ y = .ref b ∧ H a = some (.lst (ns.map fun n : Nat => V.int (n : Int))) ∧ H b = some (.lst (ms.map fun n : Nat => V.int (n : Int))) ∧ Q (.bl (KpM.lexlt ns ms)) H
theorem op_ltL {X : Cx} (hu : X.A.units + 1 < cLine) : OpR X (compareOp .Lt) rLtL := by
  intro pins s σ H x y v u Q I rx ry h
  obtain ⟨a, b, ns, ms, rfl, rfl, ha, hb, q⟩ := h
  have z : wpAny (model X.prog X.w) X.A (compareOp .Lt v u) (EP X pins σ Q) X.xe s := ltv_nats (P := X.prog) (w := X.w) (n := 1) ha hb X.A s v u I.hok rx ry hu X.prog X.w X.xe (EP X pins σ Q) ⟨.bl _, H, I, rfl, q⟩
  exact z
/-- the first of the least -/
def bestAt (lt : Nat → Nat → Bool) : Nat → Nat := argBest lt
theorem bestAt_le (lt : Nat → Nat → Bool) : ∀ k, bestAt lt k ≤ k
  | 0 => Nat.le_refl _
  | k + 1 => by
    show (if lt (k + 1) (bestAt lt k) = true then k + 1 else bestAt lt k) ≤ k + 1
    have := bestAt_le lt k
    split <;> omega
theorem bestAt_least (lt : Nat → Nat → Bool) (ir : ∀ i, lt i i = false) (tr : ∀ i j k, lt i j = true → lt j k = true → lt i k = true) : ∀ k i, i ≤ k → lt i (bestAt lt k) = false
  | 0, i, h => by
    have : i = 0 := by omega
    rw [this]
    exact ir 0
  | k + 1, i, h => by
    show lt i (if lt (k + 1) (bestAt lt k) = true then k + 1 else bestAt lt k) = false
    by_cases c : lt (k + 1) (bestAt lt k) = true
    · rw [if_pos c]
      by_cases hi : i = k + 1
      · rw [hi]
        exact ir _
      · have ih := bestAt_least lt ir tr k i (by omega)
        cases e : lt i (k + 1) with
        | false => rfl
        | true =>
          rw [tr _ _ _ e c] at ih
          cases ih
    · rw [if_neg c]
      by_cases hi : i = k + 1
      · rw [hi]
        simpa using c
      · exact bestAt_least lt ir tr k i (by omega)
section
variable {prog : Program} {w : World} {A : Around} {I S : Addr} {fp wr : List Addr} {n : Nat} {PV : Nat → Value → Prop} {St : Nat → Heap → Prop} {bt : Nat → Nat → Bool} {h0 : Heap}
/-- what stood before the walk stands -/
abbrev Old (h0 h : Heap) : Prop := ∀ b o, h0.get? b = some o → h.get? b = some o
/-- the order of the items, wherever what stood before stands -/
def CmpOld (prog : Program) (w : World) (A : Around) (h0 : Heap) (PV : Nat → Value → Prop) (bt : Nat → Nat → Bool) : Prop :=
  ∀ i j vi vj (s : Shared) (Q : Value → Shared → Prop) (E : Value → Shared → Prop), Old h0 s.heap → PV i vi → PV j vj → Q (.bool (bt i j)) s → wpAny (model prog w) A (richCompare .Lt vi vj) Q E s
theorem minloop_name : (toString "min" ++ toString ".loop" : String) = "min.loop" := by decide
theorem min_rest (W : Walks prog w A.in1 I fp wr n PV St) (hc : CmpOld prog w A.in1 h0 PV bt) (fS : S ∉ fp) (oS : h0.get? S = none) (oW : ∀ b ∈ wr, h0.get? b = none) :
    ∀ (left j : Nat) {R : Result → Shared → Prop} (s : Shared) (vb : Value) (c : Nat), n = j + 1 + left → Old h0 s.heap → St (j + 1) s.heap → PV (bestAt bt j) vb → s.heap.get? S = some { cls := .type "list", dict := none, data := .seq #[vb, vb] c, slots := #[] } →
      (∀ v h' tk, PV (bestAt bt (n - 1)) v → (∀ b o, b ∉ wr → b ≠ S → s.heap.get? b = some o → h'.get? b = some o) → R (.ok (.ret v)) { s with heap := h', toks := tk }) →
      codeAny (model prog w) A (.builtin "min.loop" ⟨[.ref I, .none, .ref S], []⟩) R s
  | 0, j, R, s, vb, c, hn, old, st, pb, hS, fin => by
    have wS : S ∉ wr := fun z => fS (W.sub _ z)
    have hj : j + 1 = n := by omega
    refine codeAny_builtin F.entry_min_loop ?_
    rw [Around.under_plainId F.plain_min_loop _]
    refine (show wpAny _ A.in1 (seqItems? (.ref S) >>= _) _ _ s from wpAny_bind (wpAny_seqItems hS rfl ?_))
    refine (show wpAny _ A.in1 (tryCatch (pyNext (.ref I)) _ >>= _) _ _ s from wpAny_bind (wpAny_tryCatch (W.done s _ _ (hj ▸ st) fun h1 tk1 k1 => ?_)))
    refine (show wpAny _ A.in1 (updateSeq S (fun _ => #[]) >>= _) _ _ _ from wpAny_bind (wpAny_updateSeq (k1 S _ wS hS) rfl (wpAny_bind (wpAny_letGo (wpAny_pure ?_)))))
    have e : n - 1 = j := by omega
    exact fin vb _ tk1 (by rw [e]; exact pb) fun b o bw bS q => (Heap.get?_update_other _ _ (Ne.symm bS)).trans (k1 b o bw q)
  | left + 1, j, R, s, vb, c, hn, old, st, pb, hS, fin => by
    have wS : S ∉ wr := fun z => fS (W.sub _ z)
    have hj : j + 1 < n := by omega
    refine codeAny_builtin F.entry_min_loop ?_
    rw [Around.under_plainId F.plain_min_loop _]
    refine (show wpAny _ A.in1 (seqItems? (.ref S) >>= _) _ _ s from wpAny_bind (wpAny_seqItems hS rfl ?_))
    refine (show wpAny _ A.in1 (tryCatch (pyNext (.ref I)) _ >>= _) _ _ s from wpAny_bind (wpAny_tryCatch (W.item (j + 1) s _ _ hj st fun v h1 tk1 pv st1 k1 => ?_)))
    have hS1 := k1 S _ wS hS
    have old1 : Old h0 h1 := fun b o q => k1 b o (fun z => by rw [oW b z] at q; cases q) (old b o q)
    refine (show wpAny _ A.in1 (tryCatch (holding [v, v] (richCompare .Lt v vb >>= _)) _ >>= _) _ _ _ from wpAny_bind (wpAny_tryCatch (wpAny_holding (wpAny_bind (hc (j + 1) (bestAt bt j) v vb _ _ _ old1 pv pb ?_)))))
    refine wpAny_bind (wpAny_holding (wpAny_truthy_bool ?_))
    refine wpAny_bind (wpAny_letGo (wpAny_pure ?_))
    cases hb : bt (j + 1) (bestAt bt j) with
    | true =>
      have eb : bestAt bt (j + 1) = j + 1 := by
        show (if bt (j + 1) (bestAt bt j) = true then j + 1 else bestAt bt j) = j + 1
        rw [if_pos hb]
      simp only [if_true]
      refine wpAny_bind (wpAny_updateSeq hS1 rfl (wpAny_bind (wpAny_letGo ?_)))
      rw [minloop_name]
      refine wpAny_pure ⟨plainId_quiet F.plain_min_loop _, min_rest W hc fS oS oW left (j + 1) _ v _ (by omega) (fun b o q => ?_) (W.frame _ _ _ st1 fun b bf o q => ?_) (by rw [eb]; exact pv) (Heap.get?_update_self _ hS1 rfl) fun v' h2 tk2 p2 k2 => ?_⟩
      · have bS : S ≠ b := fun z => by rw [← z, oS] at q; cases q
        exact (Heap.get?_update_other _ _ bS).trans (old1 b o q)
      · exact (Heap.get?_update_other _ _ (fun z : S = b => fS (by rw [z]; exact bf))).trans q
      · exact fin v' h2 tk2 p2 fun b o bw bS q => k2 b o bw bS ((Heap.get?_update_other _ _ (Ne.symm bS)).trans (k1 b o bw q))
    | false =>
      have eb : bestAt bt (j + 1) = bestAt bt j := by
        show (if bt (j + 1) (bestAt bt j) = true then j + 1 else bestAt bt j) = bestAt bt j
        rw [if_neg (by rw [hb]; exact Bool.false_ne_true)]
      simp only [Bool.false_eq_true, if_false]
      refine wpAny_bind (wpAny_letGo ?_)
      rw [minloop_name]
      exact wpAny_pure ⟨plainId_quiet F.plain_min_loop _, min_rest W hc fS oS oW left (j + 1) _ vb c (by omega) old1 st1 (by rw [eb]; exact pb) hS1 fun v' h2 tk2 p2 k2 => fin v' h2 tk2 p2 fun b o bw bS q => k2 b o bw bS (k1 b o bw q)⟩
theorem min_first (W : Walks prog w A.in1 I fp wr n PV St) (hc : CmpOld prog w A.in1 h0 PV bt) (fS : S ∉ fp) (oS : h0.get? S = none) (oW : ∀ b ∈ wr, h0.get? b = none) (hn : 0 < n) {R : Result → Shared → Prop} {s : Shared} {c : Nat} (old : Old h0 s.heap) (st : St 0 s.heap)
    (hS : s.heap.get? S = some { cls := .type "list", dict := none, data := .seq #[] c, slots := #[] })
    (fin : ∀ v h' tk, PV (bestAt bt (n - 1)) v → (∀ b o, b ∉ wr → b ≠ S → s.heap.get? b = some o → h'.get? b = some o) → R (.ok (.ret v)) { s with heap := h', toks := tk }) :
    codeAny (model prog w) A (.builtin "min.loop" ⟨[.ref I, .none, .ref S], []⟩) R s := by
  have wS : S ∉ wr := fun z => fS (W.sub _ z)
  refine codeAny_builtin F.entry_min_loop ?_
  rw [Around.under_plainId F.plain_min_loop _]
  refine (show wpAny _ A.in1 (seqItems? (.ref S) >>= _) _ _ s from wpAny_bind (wpAny_seqItems hS rfl ?_))
  refine (show wpAny _ A.in1 (tryCatch (pyNext (.ref I)) _ >>= _) _ _ s from wpAny_bind (wpAny_tryCatch (W.item 0 s _ _ hn st fun v h1 tk1 pv st1 k1 => ?_)))
  have hS1 := k1 S _ wS hS
  have old1 : Old h0 h1 := fun b o q => k1 b o (fun z => by rw [oW b z] at q; cases q) (old b o q)
  refine (show wpAny _ A.in1 (updateSeq S (fun _ => #[v, v]) >>= _) _ _ _ from wpAny_bind (wpAny_updateSeq hS1 rfl ?_))
  rw [minloop_name]
  refine wpAny_pure ⟨plainId_quiet F.plain_min_loop _, min_rest W hc fS oS oW (n - 1) 0 _ v _ (by omega) (fun b o q => ?_) (W.frame _ _ _ st1 fun b bf o q => ?_) pv (Heap.get?_update_self _ hS1 rfl) fun v' h2 tk2 p2 k2 => ?_⟩
  · have bS : S ≠ b := fun z => by rw [← z, oS] at q; cases q
    exact (Heap.get?_update_other _ _ bS).trans (old1 b o q)
  · exact (Heap.get?_update_other _ _ (fun z : S = b => fS (by rw [z]; exact bf))).trans q
  · exact fin v' h2 tk2 p2 fun b o bw bS q => k2 b o bw bS ((Heap.get?_update_other _ _ (Ne.symm bS)).trans (k1 b o bw q))
/-- min(l) of a list of any things that have an order -/
theorem call_minO {E : Value → Shared → Prop} {s : Shared} {l : Addr} {items : Array Value} {Q : Value → Shared → Prop} (hh : A.handled = none) (hl : s.heap.IsList l items) (hn : 0 < items.size) (hc : CmpOld prog w A.in1 s.heap (fun i v => items[i]? = some v) bt)
    (h : ∀ v h' tk, items[bestAt bt (items.size - 1)]? = some v → Old s.heap h' → Q v { s with heap := h', toks := tk }) : wpAny (model prog w) A (call (.builtin "min") [.ref l]) Q E s := by
  have ll : l < s.heap.objs.size := by
    obtain ⟨_, e, _⟩ := hl
    exact Heap.lt_size e
  have fresh : ∀ {a : Addr}, s.heap.objs.size ≤ a → s.heap.get? a = none := fun {a} le => by
    cases e : s.heap.get? a with
    | none => rfl
    | some o => exact absurd (Heap.lt_size e) (Nat.not_lt_of_le le)
  refine call_function_tree F.kind_min F.plain_min F.entry_min (F.args_min1 _) ?_
  refine (show wpAny _ A.in1 (Builtin.Builtins.bindParams "min" ["key", "default"] 0 ⟨[], []⟩ >>= _) _ _ s from wpAny_bind (wpAny_of_eq (show Builtin.Builtins.bindParams "min" ["key", "default"] 0 ⟨[], []⟩ = pure [none, none] from rfl) ?_))
  refine wpAny_bind (wpAny_pure (wpAny_bind (wpAny_pyIter_list hl ?_)))
  refine wpAny_bind (wpAny_newObj_type ?_)
  rw [minloop_name]
  have z1 : (s.heap.push { cls := .type "list_iterator", data := .fields #[.ref l, .int 0 0] }).objs.size = s.heap.objs.size + 1 := Heap.size_push ..
  have old1 : ∀ x y, Old s.heap ((s.heap.push x).push y) := fun x y b o q => Heap.get?_push_of_some _ (Heap.get?_push_of_some _ q)
  refine wpAny_pure ⟨plainId_quiet F.plain_min_loop _, min_first (h0 := s.heap) (S := (s.heap.push { cls := .type "list_iterator", data := .fields #[.ref l, .int 0 0] }).objs.size) (Walks.list (A := A.in1) hh _ l (Nat.ne_of_lt ll) items) hc ?_ (fresh (by rw [z1]; exact Nat.le_succ _)) (fun b hb => fresh ?_) hn (old1 _ _) ⟨⟨_, Heap.get?_push_of_some _ (Heap.get?_push_size _ rfl), rfl, rfl⟩, (hl.push _).push _⟩ (Heap.get?_push_size _ rfl) fun v h' tk pv k => ?_⟩
  · rw [z1]
    intro hm
    rcases List.mem_cons.mp hm with e | hm
    · exact Nat.succ_ne_self _ e
    · rcases List.mem_cons.mp hm with e | hm
      · have : s.heap.objs.size + 1 = l := e
        have ll' : l < s.heap.objs.size := ll
        exact absurd (Nat.lt_of_le_of_lt (Nat.le_of_eq this) ll') (Nat.not_lt_of_le (Nat.le_succ _))
      · cases hm
  · rcases List.mem_cons.mp hb with e | hm
    · exact Nat.le_of_eq e.symm
    · cases hm
  · refine h v h' tk pv fun b o q => k b o (fun hm => ?_) (fun e => ?_) (old1 _ _ b o q)
    · rcases List.mem_cons.mp hm with e | hm
      · exact absurd (e ▸ Heap.lt_size q) (Nat.lt_irrefl _)
      · cases hm
    · have : b < s.heap.objs.size := Heap.lt_size q
      rw [e, z1] at this
      exact absurd this (Nat.not_lt_of_le (Nat.le_succ _))
end
/-- min(xs), xs a list of things with an order -/
def rMinT (P : Program) (w : World) : List V → Hp → VK → Prop := fun vs H Q => ∃ (a : Addr) (xs : List V) (lt : Nat → Nat → Bool), vs = [.ref a] ∧ H a = some (.lst xs) ∧ 0 < xs.length ∧ (∀ i j x y, xs[i]? = some x → xs[j]? = some y → LtV P w 4 H x y (lt i j)) ∧
  ∀ v, xs[bestAt lt (xs.length - 1)]? = some v → Q v H
theorem cr_minT {X : Cx} (hc : X.calm = true) (hu : X.A.units + 64 < cLine) : CallR X (.builtin "min") (rMinT X.prog X.w) := by
  intro pins s σ H vs us Q I r h
  obtain ⟨a, xs, lt, rfl, ha, hn, hlt, q⟩ := h
  obtain ⟨hz, its, c, rv, hob⟩ := I.hok a _ ha
  have hl : xs.length = its.length := Paired.length rv
  have back : ∀ {i : Nat} {v : Value}, its.toArray[i]? = some v → ∃ x, xs[i]? = some x ∧ RelV x v := fun {i v} e => by
    have e' : its[i]? = some v := by simpa using e
    obtain ⟨hi, e2⟩ := List.getElem?_eq_some_iff.mp e'
    have hx : xs[i]? = some xs[i] := List.getElem?_eq_getElem (by omega)
    obtain ⟨u, hu, ru⟩ := Vals.get rv hx
    rw [hu] at e'
    cases e'
    exact ⟨_, hx, ru⟩
  rw [Vals.ref1 r]
  have fine : ∀ {v h' tk}, its.toArray[bestAt lt (its.toArray.size - 1)]? = some v → Old s.heap h' → EP X pins σ Q v { s with heap := h', toks := tk } := fun {v h' tk} hv old => by
    obtain ⟨x, hx, rx⟩ := back hv
    refine ⟨x, H, I.kept old, rx, q x ?_⟩
    have e : its.toArray.size = xs.length := by simp [hl]
    rw [← e]
    exact hx
  refine call_minO (bt := lt) (I.ok.hd hc) ⟨_, hob, rfl, c, rfl⟩ (by simpa using (by omega : 0 < its.length)) (fun i j vi vj s' Q' E' old hi hj hq => ?_) (fun v h' tk hv old => fine hv old)
  obtain ⟨x, hx, rx⟩ := back hi
  obtain ⟨y, hy, ry⟩ := back hj
  exact hlt i j x y hx hy X.A.in1 s' vi vj (I.hok.kept old) rx ry (by show X.A.units + 1 + 4 < cLine; omega) X.prog X.w E' Q' hq
end Kw
set_option maxRecDepth 100000
set_option maxHeartbeats 400000
/-! What a reading evaluates to, relative to what may change meanwhile (a relation of heaps). -/
namespace Kw
open PySem PySem.Spec PyProof.Rows L2

/-! ### promises by the number of arguments -/
def Sp1 (P : V → Hp → VK → XK → Prop) : Sp := fun vs H Q E => ∃ a, vs = [a] ∧ P a H Q E
def Sp2 (P : V → V → Hp → VK → XK → Prop) : Sp := fun vs H Q E => ∃ a b, vs = [a, b] ∧ P a b H Q E
def Sp3 (P : V → V → V → Hp → VK → XK → Prop) : Sp := fun vs H Q E => ∃ a b c, vs = [a, b, c] ∧ P a b c H Q E
def Sp4 (P : V → V → V → V → Hp → VK → XK → Prop) : Sp := fun vs H Q E => ∃ a b c d, vs = [a, b, c, d] ∧ P a b c d H Q E
def Sp5 (P : V → V → V → V → V → Hp → VK → XK → Prop) : Sp := fun vs H Q E => ∃ a b c d e, vs = [a, b, c, d, e] ∧ P a b c d e H Q E
section
variable {vs : List V} {H : Hp} {Q : VK} {E : XK}
theorem sp1_len {P : V → Hp → VK → XK → Prop} (h : Sp1 P vs H Q E) : vs.length = 1 := by
  obtain ⟨_, rfl, _⟩ := h
  rfl
theorem sp2_len {P : V → V → Hp → VK → XK → Prop} (h : Sp2 P vs H Q E) : vs.length = 2 := by
  obtain ⟨_, _, rfl, _⟩ := h
  rfl
theorem sp3_len {P : V → V → V → Hp → VK → XK → Prop} (h : Sp3 P vs H Q E) : vs.length = 3 := by
  obtain ⟨_, _, _, rfl, _⟩ := h
  rfl
theorem sp4_len {P : V → V → V → V → Hp → VK → XK → Prop} (h : Sp4 P vs H Q E) : vs.length = 4 := by
  obtain ⟨_, _, _, _, rfl, _⟩ := h
  rfl
theorem sp5_len {P : V → V → V → V → V → Hp → VK → XK → Prop} (h : Sp5 P vs H Q E) : vs.length = 5 := by
  obtain ⟨_, _, _, _, _, rfl, _⟩ := h
  rfl
end

/-! ### what may change meanwhile -/
class Good (R : Hp → Hp → Prop) : Prop where
  trans : ∀ {a b c}, R a b → R b c → R a c
  ext : ∀ {a b c}, R a b → Same b c → R a c
  here : ∀ {a b}, R a b → R b b
  keep : ∀ {a b x o}, R a b → a x = some o → (∀ kvs, o ≠ HO.dK kvs) → b x = some o
  free : ∀ {a b x}, R a b → b x = none → a x = none
instance : Good Same := ⟨Same.trans, Same.trans, fun _ => Same.refl _, fun r e _ => r _ _ e, fun r n => r.free n⟩
/-- all but what Z names stays; of that J is kept, whatever of the places X changes -/
def Rl (Z : Addr → Prop) (J : List Addr → Hp → Prop) (X : List Addr) (H H' : Hp) : Prop := J X H ∧ J X H' ∧ ∀ a o, ¬ Z a → H a = some o → H' a = some o
/-- where Z names there stand dicts; J goes on -/
class Mem (Z : Addr → Prop) (J : List Addr → Hp → Prop) : Prop where
  dict : ∀ {X H a}, J X H → Z a → ∃ kvs, H a = some (HO.dK kvs)
  same : ∀ {X H H'}, J X H → Same H H' → J X H'
  push : ∀ {X H D l}, J X H → H D = none → J (D :: X) (upd H D (.lst l))
  poke : ∀ {X H D l l'}, J (D :: X) H → H D = some (.lst l) → J (D :: X) (upd H D (.lst l'))
  pop : ∀ {X H D}, J (D :: X) H → J X H
instance {Z : Addr → Prop} {J : List Addr → Hp → Prop} {X : List Addr} [m : Mem Z J] : Good (Rl Z J X) :=
  ⟨fun r q => ⟨r.1, q.2.1, fun a o n e => q.2.2 a o n (r.2.2 a o n e)⟩, fun r s => ⟨r.1, m.same r.2.1 s, fun a o n e => s a o (r.2.2 a o n e)⟩, fun r => ⟨r.2.1, r.2.1, fun _ _ _ e => e⟩, fun {a b x o} r e no => by
    refine r.2.2 x o (fun z => ?_) e
    obtain ⟨kvs, q⟩ := m.dict r.1 z
    rw [q] at e
    exact no kvs (Option.some.inj e).symm, fun {a b x} r n => by
    cases e : a x with
    | none => rfl
    | some o =>
      have nz : ¬ Z x := fun z => by
        obtain ⟨kvs, q⟩ := m.dict r.2.1 z
        rw [n] at q
        cases q
      rw [r.2.2 x o nz e] at n
      cases n⟩
/-- nothing changes -/
abbrev Z0 : Addr → Prop := fun _ => False
abbrev J0 : List Addr → Hp → Prop := fun _ _ => True
instance : Mem Z0 J0 := ⟨fun _ z => z.elim, fun _ _ => trivial, fun _ _ => trivial, fun _ _ => trivial, fun _ => trivial⟩
theorem rl0 (X : List Addr) : Rl Z0 J0 X = Same := by
  funext H H'
  exact propext ⟨fun r a o e => r.2.2 a o (fun z => z) e, fun s => ⟨trivial, trivial, fun a o _ e => s a o e⟩⟩

abbrev Pr := V → Hp → Prop
def Is (v : V) : Pr := fun u _ => u = v
/-- a list | a tuple at some place, with these -/
def IsL (xs : List V) : Pr := fun u H => ∃ p, u = .ref p ∧ H p = some (.lst xs)
def IsT (xs : List V) : Pr := fun u H => ∃ p, u = .ref p ∧ H p = some (.tup xs)
def IsA (vs : List V) : List V → Hp → Prop := fun us _ => us = vs

section
variable (R : Hp → Hp → Prop)
def Ev (te : TE) (σ : L2.St) (H : Hp) (P : Pr) : Prop := ∀ H1, R H H1 → ∀ Q : VK, (∀ v H2, R H1 H2 → P v H2 → Q v H2) → te σ H1 Q
def EvT (tt : TT) (σ : L2.St) (H : Hp) (b : Bool) : Prop := ∀ H1, R H H1 → ∀ Q : Bool → Hp → Prop, (∀ H2, R H1 H2 → Q b H2) → tt σ H1 Q
def EvA (ta : TA) (σ : L2.St) (H : Hp) (P : List V → Hp → Prop) : Prop := ∀ H1, R H H1 → ∀ Q : List V → Hp → Prop, (∀ vs H2, R H1 H2 → P vs H2 → Q vs H2) → ta σ H1 Q
/-- an operation on these values -/
def OpV (r : R2) (x y : V) (H : Hp) (P : Pr) : Prop := ∀ Q : VK, (∀ v H2, R H H2 → P v H2 → Q v H2) → r x y H Q
/-- a call of what keeps sp -/
def Does (sp : Sp) (vs : List V) (H : Hp) (P : Pr) : Prop := ∀ (Q : VK) (E : XK), (∀ v H2, R H H2 → P v H2 → Q v H2) → sp vs H Q E
end
section
variable {R : Hp → Hp → Prop} [G : Good R] {K : PySem.W.Frag} {σ : L2.St} {H H' : Hp} {ta tb te : TE} {tt tu : TT} {t : TA} {x y z v : V} {r : R2} {P P1 P2 : Pr}
theorem Ev.mono (h : Ev R te σ H P) (e : R H H') : Ev R te σ H' P := fun H1 q => h H1 (G.trans e q)
theorem EvT.mono {b : Bool} (h : EvT R tt σ H b) (e : R H H') : EvT R tt σ H' b := fun H1 q => h H1 (G.trans e q)
theorem EvA.mono {PA : List V → Hp → Prop} (h : EvA R t σ H PA) (e : R H H') : EvA R t σ H' PA := fun H1 q => h H1 (G.trans e q)
theorem Ev.imp (h : Ev R te σ H P) (k : ∀ v H2, R H H2 → P v H2 → P1 v H2) : Ev R te σ H P1 := fun H1 e Q q => h H1 e Q fun v H2 e2 p => q v H2 e2 (k v H2 (G.trans e e2) p)
theorem Ev.is {u : V} (h : Ev R te σ H (Is v)) (e : v = u) : Ev R te σ H (Is u) := by
  rw [← e]
  exact h
theorem EvT.is {b c : Bool} (h : EvT R tt σ H b) (e : b = c) : EvT R tt σ H c := by
  rw [← e]
  exact h
theorem ev_var {i : Nat} (h : σ[i]? = some (some v)) : Ev R (tVar i) σ H (Is v) := fun H1 e _ q => ⟨v, h, q v H1 (G.here e) rfl⟩
theorem ev_c : Ev R (tC v) σ H (Is v) := fun H1 e _ q => q v H1 (G.here e) rfl
theorem ev_op (ha : Ev R ta σ H (Is x)) (hb : Ev R tb σ H (Is y)) (hr : ∀ H1, R H H1 → OpV R r x y H1 P) : Ev R (tOp r ta tb) σ H P := fun H1 e Q q =>
  ha H1 e _ fun u H2 e2 eu => by
    cases eu
    exact hb H2 (G.trans e e2) _ fun u2 H3 e3 eu2 => by
      cases eu2
      exact hr H3 (G.trans (G.trans e e2) e3) _ fun v H4 e4 p => q v H4 (G.trans (G.trans e2 e3) e4) p
/-- the second operand something new -/
theorem ev_opN (ha : Ev R ta σ H (Is x)) (hb : Ev R tb σ H P1) (hr : ∀ y H1, R H H1 → P1 y H1 → OpV R r x y H1 P) : Ev R (tOp r ta tb) σ H P := fun H1 e Q q =>
  ha H1 e _ fun u H2 e2 eu => by
    cases eu
    exact hb H2 (G.trans e e2) _ fun u2 H3 e3 p1 => hr u2 H3 (G.trans (G.trans e e2) e3) p1 _ fun v H4 e4 p => q v H4 (G.trans (G.trans e2 e3) e4) p
/-- the first operand something new -/
theorem ev_opN1 (ha : Ev R ta σ H P1) (hb : ∀ x H1, R H H1 → P1 x H1 → Ev R tb σ H1 P2) (hr : ∀ x y H1 H2, R H H1 → P1 x H1 → R H1 H2 → P2 y H2 → OpV R r x y H2 P) : Ev R (tOp r ta tb) σ H P := fun H1 e Q q =>
  ha H1 e _ fun u H2 e2 p1 => hb u H2 (G.trans e e2) p1 H2 (G.here e2) _ fun u2 H3 e3 p2 => hr u u2 H2 H3 (G.trans e e2) p1 e3 p2 _ fun v H4 e4 p => q v H4 (G.trans (G.trans e2 e3) e4) p
theorem opv_I0 {g : Int → Int → V} {i j : Int} (e : R H H) : OpV R (rI0 g) (.int i) (.int j) H (Is (g i j)) := fun Q q => ⟨i, j, rfl, rfl, q _ H e rfl⟩
theorem ev_I0 {g : Int → Int → V} {i j : Int} (ha : Ev R ta σ H (Is (.int i))) (hb : Ev R tb σ H (Is (.int j))) : Ev R (tOp (rI0 g) ta tb) σ H (Is (g i j)) := ev_op ha hb fun H1 e => opv_I0 (G.here e)
theorem ev_eq (ha : Ev R ta σ H (Is x)) (hb : Ev R tb σ H (Is y)) (hs : scal x y = true) : Ev R (tOp rEq ta tb) σ H (Is (.bl (decide (x = y)))) := ev_op ha hb fun H1 e Q q => ⟨hs, q _ H1 (G.here e) rfl⟩
theorem ev_isN (ha : Ev R ta σ H (Is x)) : Ev R (tOp (fun x y H Q => y = .non ∧ Q (.bl (decide (x = .non))) H) ta (tC .non)) σ H (Is (.bl (decide (x = .non)))) := ev_op ha ev_c fun H1 e Q q => ⟨rfl, q _ H1 (G.here e) rfl⟩
/-- a field of an instance -/
def FldAt (K : PySem.W.Frag) (H : Hp) (a : Addr) (f : Str) (v : V) : Prop := ∃ C dx fs, H a = some (.ins C dx fs) ∧ Cls K C ∧ NoAttr K C f ∧ fs.lookup f = some v
theorem ins_nd {C dx : Addr} {fs : List (Str × V)} : ∀ kvs, HO.ins C dx fs ≠ HO.dK kvs := fun _ z => nomatch z
theorem lst_nd {xs : List V} : ∀ kvs, HO.lst xs ≠ HO.dK kvs := fun _ z => nomatch z
theorem tup_nd {xs : List V} : ∀ kvs, HO.tup xs ≠ HO.dK kvs := fun _ z => nomatch z
theorem frz_nd {o : Obj} {u : HO} : ∀ kvs, HO.frz o u ≠ HO.dK kvs := fun _ z => nomatch z
theorem FldAt.keep {a : Addr} {f : Str} (h : FldAt K H a f v) (e : R H H') : FldAt K H' a f v := by
  obtain ⟨C, dx, fs, h1, h2⟩ := h
  exact ⟨C, dx, fs, G.keep e h1 ins_nd, h2⟩
theorem ev_fld {a : Addr} {f : Str} (ha : Ev R ta σ H (Is (.ref a))) (hf : FldAt K H a f v) : Ev R (tFld K ta f) σ H (Is v) := fun H1 e Q q =>
  ha H1 e _ fun u H2 e2 eu => by
    cases eu
    obtain ⟨C, dx, fs, h1, h2, h3, h4⟩ := hf.keep (G.trans e e2)
    exact ⟨a, C, dx, fs, v, rfl, h1, h2, h3, h4, q v H2 e2 rfl⟩
/-- arguments -/
theorem ea_nil : EvA R tNil σ H (IsA []) := fun H1 e _ q => q [] H1 (G.here e) rfl
theorem ea_cons {vs : List V} (h : Ev R te σ H (Is x)) (hr : EvA R t σ H (IsA vs)) : EvA R (tCons te t) σ H (IsA (x :: vs)) := fun H1 e Q q =>
  h H1 e _ fun u H2 e2 eu => by
    cases eu
    exact hr H2 (G.trans e e2) _ fun us H3 e3 eus => by
      cases eus
      exact q _ H3 (G.trans e2 e3) rfl
/-- one argument, something new -/
theorem ea_one (h : Ev R te σ H P) : EvA R (tCons te tNil) σ H (fun vs H => ∃ x, vs = [x] ∧ P x H) := fun H1 e Q q => h H1 e _ fun u H2 e2 p => q [u] H2 e2 ⟨u, rfl, p⟩
/-- an argument that may be something new, then the rest -/
theorem ea_consN {PA : List V → Hp → Prop} (h : Ev R te σ H P) (hr : ∀ x H1, R H H1 → P x H1 → EvA R t σ H1 (fun vs H2 => PA (x :: vs) H2)) : EvA R (tCons te t) σ H PA := fun H1 e Q q =>
  h H1 e _ fun u H2 e2 p => hr u H2 (G.trans e e2) p H2 (G.here e2) _ fun us H3 e3 pa => q (u :: us) H3 (G.trans e2 e3) pa
/-- calls -/
theorem ev_call {sp : Sp} {E : XK} {vs : List V} (ha : EvA R t σ H (IsA vs)) (hs : ∀ H1, R H H1 → Does R sp vs H1 P) : Ev R (tCall sp [] E t) σ H P := fun H1 e Q q =>
  ha H1 e _ fun us H2 e2 eus => by
    cases eus
    have := hs H2 (G.trans e e2) Q E fun v H3 e3 p => q v H3 (G.trans e2 e3) p
    rw [← List.append_nil vs] at this
    exact this
theorem ev_callN {sp : Sp} {E : XK} {PA : List V → Hp → Prop} (ha : EvA R t σ H PA) (hs : ∀ vs H1, R H H1 → PA vs H1 → Does R sp vs H1 P) : Ev R (tCall sp [] E t) σ H P := fun H1 e Q q =>
  ha H1 e _ fun us H2 e2 pa => by
    have := hs us H2 (G.trans e e2) pa Q E fun v H3 e3 p => q v H3 (G.trans e2 e3) p
    rw [← List.append_nil us] at this
    exact this
/-- at a an instance of the class at C, that has no attribute m -/
def InsAt (H : Hp) (a C : Addr) (m : Str) : Prop := ∃ dx fs, H a = some (.ins C dx fs) ∧ fs.lookup m = none
theorem InsAt.keep {a C : Addr} {m : Str} (h : InsAt H a C m) (e : R H H') : InsAt H' a C m := by
  obtain ⟨dx, fs, h1, h2⟩ := h
  exact ⟨dx, fs, G.keep e h1 ins_nd, h2⟩
theorem ev_meth {a C : Addr} {m : Str} {sp : Sp} {E : XK} {vs : List V} (ho : Ev R ta σ H (Is (.ref a))) (hi : InsAt H a C m) (ha : EvA R t σ H (IsA vs)) (hs : ∀ H1, R H H1 → Does R sp (.ref a :: vs) H1 P) : Ev R (tMeth C m sp [] E ta t) σ H P := fun H1 e Q q =>
  ho H1 e _ fun u H2 e2 eu => by
    cases eu
    obtain ⟨dx, fs, h1, h2⟩ := hi.keep (G.trans e e2)
    refine ⟨a, dx, fs, rfl, h1, h2, ha H2 (G.trans e e2) _ fun us H3 e3 eus => ?_⟩
    cases eus
    have := hs H3 (G.trans (G.trans e e2) e3) Q E fun v H4 e4 p => q v H4 (G.trans (G.trans e2 e3) e4) p
    rw [← List.append_nil vs] at this
    exact this
/-- .. some argument something new -/
theorem ev_methA {a C : Addr} {m : Str} {sp : Sp} {E : XK} {PA : List V → Hp → Prop} (ho : Ev R ta σ H (Is (.ref a))) (hi : InsAt H a C m) (ha : EvA R t σ H PA) (hs : ∀ vs H1, R H H1 → PA vs H1 → Does R sp (.ref a :: vs) H1 P) : Ev R (tMeth C m sp [] E ta t) σ H P := fun H1 e Q q =>
  ho H1 e _ fun u H2 e2 eu => by
    cases eu
    obtain ⟨dx, fs, h1, h2⟩ := hi.keep (G.trans e e2)
    refine ⟨a, dx, fs, rfl, h1, h2, ha H2 (G.trans e e2) _ fun us H3 e3 pa => ?_⟩
    have := hs us H3 (G.trans (G.trans e e2) e3) pa Q E fun v H4 e4 p => q v H4 (G.trans (G.trans e2 e3) e4) p
    rw [← List.append_nil us] at this
    exact this
/-- displays -/
theorem ev_lst {PA : List V → Hp → Prop} (h : EvA R t σ H PA) (hz : ∀ vs H1, PA vs H1 → vs.length ≤ 100) (k : ∀ vs H1 p, PA vs H1 → H1 p = none → P (.ref p) (upd H1 p (.lst vs))) : Ev R (tLst t) σ H P := fun H1 e Q q =>
  h H1 e _ fun us H2 e2 pa => ⟨Nat.le_trans (hz us H2 pa) (by decide), fun p hp => q _ _ (G.ext e2 fun b o z => by rw [upd_ne (ne_of_none z hp)]; exact z) (k us H2 p pa hp)⟩
theorem ev_tup {PA : List V → Hp → Prop} (h : EvA R t σ H PA) (hz : ∀ vs H1, PA vs H1 → vs.length ≤ 100) (k : ∀ vs H1 p, PA vs H1 → H1 p = none → P (.ref p) (upd H1 p (.tup vs))) : Ev R (tTup t) σ H P := fun H1 e Q q =>
  h H1 e _ fun us H2 e2 pa => ⟨Nat.le_trans (hz us H2 pa) (by decide), fun p hp => q _ _ (G.ext e2 fun b o z => by rw [upd_ne (ne_of_none z hp)]; exact z) (k us H2 p pa hp)⟩
/-- a new list, a new tuple, not there at H0 -/
def NewL (H0 : Hp) (xs : List V) : Pr := fun u H => ∃ p, u = .ref p ∧ H0 p = none ∧ H p = some (.lst xs)
def NewT (H0 : Hp) (xs : List V) : Pr := fun u H => ∃ p, u = .ref p ∧ H0 p = none ∧ H p = some (.tup xs)
theorem ev_lstF {vs : List V} (h : EvA R t σ H (IsA vs)) (hz : vs.length ≤ 100) : Ev R (tLst t) σ H (NewL H vs) := fun H1 e Q q =>
  h H1 e _ fun us H2 e2 eu => by
    cases eu
    exact ⟨Nat.le_trans hz (by decide), fun p hp => q _ _ (G.ext e2 fun b o z => by rw [upd_ne (ne_of_none z hp)]; exact z) ⟨p, rfl, G.free (G.trans e e2) hp, upd_same⟩⟩
theorem ev_tupF {vs : List V} (h : EvA R t σ H (IsA vs)) (hz : vs.length ≤ 100) : Ev R (tTup t) σ H (NewT H vs) := fun H1 e Q q =>
  h H1 e _ fun us H2 e2 eu => by
    cases eu
    exact ⟨Nat.le_trans hz (by decide), fun p hp => q _ _ (G.ext e2 fun b o z => by rw [upd_ne (ne_of_none z hp)]; exact z) ⟨p, rfl, G.free (G.trans e e2) hp, upd_same⟩⟩
theorem ev_lstC {vs : List V} (h : EvA R t σ H (IsA vs)) (hz : vs.length ≤ 100) : Ev R (tLst t) σ H (IsL vs) := ev_lst h (fun us _ e => by cases e; exact hz) fun us H1 p e hp => by
  cases e
  exact ⟨p, rfl, upd_same⟩
theorem ev_tupC {vs : List V} (h : EvA R t σ H (IsA vs)) (hz : vs.length ≤ 100) : Ev R (tTup t) σ H (IsT vs) := ev_tup h (fun us _ e => by cases e; exact hz) fun us H1 p e hp => by
  cases e
  exact ⟨p, rfl, upd_same⟩
/-- a subscript of a list, of a tuple -/
theorem ev_ixL {p : Addr} {xs : List V} {i : Nat} (ha : Ev R ta σ H (Is (.ref p))) (hb : Ev R tb σ H (Is (.int (i : Int)))) (hl : H p = some (.lst xs)) (hi : xs[i]? = some v) : Ev R (tOp (rIxL K) ta tb) σ H (Is v) :=
  ev_op ha hb fun H1 e Q q => ⟨p, xs, (i : Int), v, rfl, rfl, SqL.of (G.keep e hl lst_nd), atI_nat hi, q _ H1 (G.here e) rfl⟩
theorem ev_ixT {p : Addr} {xs : List V} {i : Nat} (ha : Ev R ta σ H (Is (.ref p))) (hb : Ev R tb σ H (Is (.int (i : Int)))) (hl : ∀ H1, R H H1 → SqT K H1 p xs) (hi : xs[i]? = some v) : Ev R (tOp (rIxT K) ta tb) σ H (Is v) :=
  ev_op ha hb fun H1 e Q q => ⟨p, xs, (i : Int), v, rfl, rfl, hl H1 e, atI_nat hi, q _ H1 (G.here e) rfl⟩
/-- len of a list -/
theorem ev_len {p : Addr} {xs : List V} (ha : Ev R ta σ H (Is (.ref p))) (hl : H p = some (.lst xs)) : Ev R (tCB (fun xs H Q => ∃ p ys, xs = [.ref p] ∧ (SqL K H p ys ∨ SqT K H p ys) ∧ Q (.int ys.length) H) (tCons ta tNil)) σ H (Is (.int (xs.length : Int))) := fun H1 e Q q =>
  ha H1 e _ fun u H2 e2 eu => by
    cases eu
    exact ⟨p, xs, rfl, .inl (SqL.of (G.keep (G.trans e e2) hl lst_nd)), q _ H2 e2 rfl⟩
/-- len of a new list -/
theorem ev_lenN {ys : List V} (ha : Ev R ta σ H (IsL ys)) : Ev R (tCB (fun xs H Q => ∃ p ys, xs = [.ref p] ∧ (SqL K H p ys ∨ SqT K H p ys) ∧ Q (.int ys.length) H) (tCons ta tNil)) σ H (Is (.int (ys.length : Int))) := fun H1 e Q q =>
  ha H1 e _ fun u H2 e2 ⟨p, eu, hp⟩ => by
    cases eu
    exact ⟨p, ys, rfl, .inl (SqL.of hp), q _ H2 e2 rfl⟩
/-- a call of a built-in on values -/
theorem ev_cb {rr : List V → Hp → VK → Prop} {vs : List V} (ha : EvA R t σ H (IsA vs)) (hr : ∀ H1, R H H1 → ∀ Q : VK, (∀ v H2, R H1 H2 → P v H2 → Q v H2) → rr vs H1 Q) : Ev R (tCB rr t) σ H P := fun H1 e Q q =>
  ha H1 e _ fun us H2 e2 eus => by
    cases eus
    exact hr H2 (G.trans e e2) Q fun v H3 e3 p => q v H3 (G.trans e2 e3) p
theorem ev_cbN {rr : List V → Hp → VK → Prop} {PA : List V → Hp → Prop} (ha : EvA R t σ H PA) (hr : ∀ vs H1, R H H1 → PA vs H1 → ∀ Q : VK, (∀ v H2, R H1 H2 → P v H2 → Q v H2) → rr vs H1 Q) : Ev R (tCB rr t) σ H P := fun H1 e Q q =>
  ha H1 e _ fun us H2 e2 pa => hr us H2 (G.trans e e2) pa Q fun v H3 e3 p => q v H3 (G.trans e2 e3) p
/-- tests -/
theorem et_test {b : Bool} (h : Ev R te σ H (Is (.bl b))) : EvT R (tTest te) σ H b := fun H1 e Q q => h H1 e _ fun u H2 e2 eu => by
  cases eu
  exact ⟨b, rfl, q H2 e2⟩
theorem et_B {b : Bool} (h : Ev R te σ H (Is (.bl b))) : EvT R (tB te) σ H b := fun H1 e Q q => h H1 e _ fun u H2 e2 eu => by
  cases eu
  exact ⟨b, rfl, q H2 e2⟩
theorem et_not {b : Bool} (h : EvT R tt σ H b) : EvT R (tNot tt) σ H (!b) := fun H1 e Q q => h H1 e _ fun H2 e2 => q H2 e2
theorem et_and {a b : Bool} (h1 : EvT R tt σ H a) (h2 : a = true → EvT R tu σ H b) : EvT R (tAnd tt tu) σ H (a && b) := fun H1 e Q q => h1 H1 e _ fun H2 e2 => by
  cases a with
  | true => exact h2 rfl H2 (G.trans e e2) Q fun H3 e3 => q H3 (G.trans e2 e3)
  | false => exact q H2 e2
theorem et_or {a b : Bool} (h1 : EvT R tt σ H a) (h2 : a = false → EvT R tu σ H b) : EvT R (tOr tt tu) σ H (a || b) := fun H1 e Q q => h1 H1 e _ fun H2 e2 => by
  cases a with
  | true => exact q H2 e2
  | false => exact h2 rfl H2 (G.trans e e2) Q fun H3 e3 => q H3 (G.trans e2 e3)
theorem ev_and {a b : Bool} (h1 : Ev R ta σ H (Is (.bl a))) (h2 : a = true → Ev R tb σ H (Is (.bl b))) : Ev R (tAndV ta tb) σ H (Is (.bl (a && b))) := fun H1 e Q q => h1 H1 e _ fun u H2 e2 eu => by
  cases eu
  refine ⟨a, rfl, ?_⟩
  cases a with
  | true => exact h2 rfl H2 (G.trans e e2) Q fun v H3 e3 p => q v H3 (G.trans e2 e3) p
  | false => exact q _ H2 e2 rfl
theorem ev_or {a b : Bool} (h1 : Ev R ta σ H (Is (.bl a))) (h2 : a = false → Ev R tb σ H (Is (.bl b))) : Ev R (tOrV ta tb) σ H (Is (.bl (a || b))) := fun H1 e Q q => h1 H1 e _ fun u H2 e2 eu => by
  cases eu
  refine ⟨a, rfl, ?_⟩
  cases a with
  | true => exact q _ H2 e2 rfl
  | false => exact h2 rfl H2 (G.trans e e2) Q fun v H3 e3 p => q v H3 (G.trans e2 e3) p
theorem ev_not {a : Bool} (h1 : Ev R ta σ H (Is (.bl a))) : Ev R (tNotV ta) σ H (Is (.bl (!a))) := fun H1 e Q q => h1 H1 e _ fun u H2 e2 eu => by
  cases eu
  exact ⟨a, rfl, q _ H2 e2 rfl⟩
theorem ev_if {b : Bool} (h : EvT R tt σ H b) (h1 : b = true → Ev R ta σ H P) (h2 : b = false → Ev R tb σ H P) : Ev R (tIf tt ta tb) σ H P := fun H1 e Q q => h H1 e _ fun H2 e2 => by
  cases b with
  | true => exact h1 rfl H2 (G.trans e e2) Q fun v H3 e3 p => q v H3 (G.trans e2 e3) p
  | false => exact h2 rfl H2 (G.trans e e2) Q fun v H3 e3 p => q v H3 (G.trans e2 e3) p
/-- a new empty dict; a dict's in, its entries -/
theorem ev_in {d : Addr} {k : Key} {neg : Bool} {kvs : Hp → List (Key × V)} (hy : Ev R ta σ H (Is (kV k))) (hd : Ev R tb σ H (Is (.ref d))) (h : ∀ H1, R H H1 → Rd H1 d (.dK (kvs H1))) {b : Bool} (hb : ∀ H1, R H H1 → (valV (kvs H1) k).isSome = b) : Ev R (tDIn ta tb) σ H (Is (.bl b)) := fun H1 e Q q =>
  hy H1 e _ fun u H2 e2 eu => by
    cases eu
    exact hd H2 (G.trans e e2) _ fun u2 H3 e3 eu2 => by
      cases eu2
      refine ⟨d, valV (kvs H3) k, rfl, .inl ⟨kvs H3, k, h H3 (G.trans (G.trans e e2) e3), rfl, rfl⟩, ?_⟩
      rw [hb H3 (G.trans (G.trans e e2) e3)]
      exact q _ H3 (G.trans e2 e3) rfl

/-! ### statements -/
variable {D : Ends} {ts tw : TS}
theorem s_ret (r0 : R H H) (h : Ev R te σ H P) (k : ∀ v H1, R H H1 → P v H1 → D.rt v H1) : tRet te D σ H := h H r0 _ k
theorem s_set {i : Nat} (r0 : R H H) (h : Ev R te σ H P) (k : ∀ v H1, R H H1 → P v H1 → D.nx (σ.set i (some v)) H1) : tAsg te (gName i) D σ H := h H r0 _ k
theorem s_par {i j : Nat} {PA : List V → Hp → Prop} (r0 : R H H) (h : EvA R t σ H PA) (k : ∀ vs H1, R H H1 → PA vs H1 → ∃ v w, vs = [v, w] ∧ D.nx ((σ.set i (some v)).set j (some w)) H1) : tPar i j t D σ H := h H r0 _ k
theorem s_drop (r0 : R H H) (h : Ev R te σ H P) (k : ∀ v H1, R H H1 → P v H1 → D.nx σ H1) : tDrop te D σ H := h H r0 _ k
theorem s_if {b : Bool} (r0 : R H H) (h : EvT R tt σ H b) (h1 : b = true → ∀ H1, R H H1 → ts D σ H1) (h2 : b = false → ∀ H1, R H H1 → tw D σ H1) : tIfS tt ts tw D σ H := h H r0 _ fun H1 e => by
  cases b with
  | true => exact h1 rfl H1 e
  | false => exact h2 rfl H1 e
end
/-! ### comprehensions -/
/-- of the turns that f takes, what Pe says of each -/
def El (f : Nat → Bool) (Pe : Nat → Pr) (n : Nat) (ys : List V) (H : Hp) : Prop := ys.length = ((List.range n).filter f).length ∧ ∀ (k i : Nat) (v : V), ((List.range n).filter f)[k]? = some i → ys[k]? = some v → Pe i v H
theorem El.imp {f : Nat → Bool} {Pe Pe' : Nat → Pr} {n : Nat} {ys : List V} {H H' : Hp} (h : El f Pe n ys H) (k : ∀ i v, i < n → Pe i v H → Pe' i v H') : El f Pe' n ys H' := ⟨h.1, fun j i v hi hv => k i v (by
  have := List.mem_of_getElem? hi
  rw [List.mem_filter, List.mem_range] at this
  exact this.1) (h.2 j i v hi hv)⟩
theorem El.map {f : Nat → Bool} {e : Nat → V} {n : Nat} {ys : List V} {H : Hp} (h : El f (fun i => Is (e i)) n ys H) : ys = ((List.range n).filter f).map e := by
  apply List.ext_getElem?
  intro k
  rw [List.getElem?_map]
  cases hk : ((List.range n).filter f)[k]? with
  | none =>
    have := List.getElem?_eq_none_iff.mp hk
    rw [List.getElem?_eq_none (by rw [h.1]; exact this)]
    rfl
  | some i =>
    have hl := (List.getElem?_eq_some_iff.mp hk).1
    have hy : ys[k]? = some (ys[k]'(by rw [h.1]; exact hl)) := List.getElem?_eq_getElem _
    have : ys[k]'(by rw [h.1]; exact hl) = e i := h.2 k i _ hk hy
    rw [hy, this]
    rfl
theorem filt_yes {f : Nat → Bool} {n : Nat} (h : f n = true) : (List.range (n + 1)).filter f = (List.range n).filter f ++ [n] := by
  rw [List.range_succ, List.filter_append, List.filter_cons, if_pos h] <;> rfl
theorem filt_no {f : Nat → Bool} {n : Nat} (h : f n = false) : (List.range (n + 1)).filter f = (List.range n).filter f := by
  rw [List.range_succ, List.filter_append, List.filter_cons, if_neg (by rw [h]; decide)]
  exact List.append_nil _
theorem El.yes {f : Nat → Bool} {Pe : Nat → Pr} {n : Nat} {ys : List V} {H : Hp} (h : El f Pe n ys H) (hf : f n = true) {v : V} (hv : Pe n v H) : El f Pe (n + 1) (ys ++ [v]) H := by
  unfold El
  rw [filt_yes hf]
  refine ⟨by simp [h.1], fun k i u hi hu => ?_⟩
  rw [List.getElem?_append] at hi hu
  rw [h.1] at hu
  by_cases c : k < ((List.range n).filter f).length
  · rw [if_pos c] at hi hu
    exact h.2 k i u hi hu
  · rw [if_neg c] at hi hu
    cases hk : k - ((List.range n).filter f).length with
    | zero =>
      rw [hk] at hi hu
      cases Option.some.inj (show some n = some i from hi)
      cases Option.some.inj (show some v = some u from hu)
      exact hv
    | succ m =>
      rw [hk] at hi
      simp at hi
theorem El.no {f : Nat → Bool} {Pe : Nat → Pr} {n : Nat} {ys : List V} {H : Hp} (h : El f Pe n ys H) (hf : f n = false) : El f Pe (n + 1) ys H := by
  unfold El
  rw [filt_no hf]
  exact h
theorem El.zero {f : Nat → Bool} {Pe : Nat → Pr} {H : Hp} : El f Pe 0 [] H := ⟨rfl, fun k i v hi => by simp at hi⟩
theorem El.len {f : Nat → Bool} {Pe : Nat → Pr} {n : Nat} {ys : List V} {H : Hp} (h : El f Pe n ys H) : ys.length ≤ n := by
  rw [h.1]
  have := List.length_filter_le f (List.range n)
  rw [List.length_range] at this
  exact this
section
variable {Z : Addr → Prop} {J : List Addr → Hp → Prop} {X : List Addr} [M : Mem Z J] {K : PySem.W.Frag} {σ : L2.St} {H : Hp} {wi : TI} {g : TG} {tt : TT} {te : TE} {vs : List Nat}
/-- all that was known, but what Z names, is as it was -/
def Kept (Z : Addr → Prop) (H H' : Hp) : Prop := ∀ a o, ¬ Z a → H a = some o → H' a = some o
theorem Kept.trans {Z : Addr → Prop} {H H1 H2 : Hp} (a : Kept Z H H1) (b : Kept Z H1 H2) : Kept Z H H2 := fun x o n e => b x o n (a x o n e)
theorem Kept.of_same {Z : Addr → Prop} {H H1 : Hp} (s : Same H H1) : Kept Z H H1 := fun x o _ e => s x o e
theorem Kept.mut {Z : Addr → Prop} {H H1 : Hp} (a : Kept Z H H1) {D : Addr} {o : HO} (n : H D = none) : Kept Z H (upd H1 D o) := fun x u nz e => by
  rw [upd_ne (ne_of_none e n)]
  exact a x u nz e
/-- the core: over anything that is walked; it takes n turns; of turn i the item is as Y i says -/
theorem lc_gen {It1 : It} {H1 : Hp} {n : Nat} {f : Nat → Bool} {Pe : Nat → Pr} {Y : Nat → Pr} {Q : VK} (r1 : Rl Z J X H H1) (hn : n ≤ 100000)
    (hgo : ∀ i H', i < n → Kept Z H1 H' → It1.go i H' ∧ ∀ x H2, It1.yld i H' x H2 → Same H' H2 ∧ Y i x H2) (hstop : ∀ H', Kept Z H1 H' → It1.stop n H')
    (turn : ∀ D i x H', i < n → H1 D = none → Rl Z J (D :: X) H' H' → Kept Z H1 H' → Y i x H' → ∃ σ2, (∀ Q : L2.St → Hp → Prop, Q σ2 H' → g x (wipe σ vs) H' Q) ∧ wipe σ2 vs = wipe σ vs ∧ EvT (Rl Z J (D :: X)) tt σ2 H' (f i) ∧ (f i = true → Ev (Rl Z J (D :: X)) te σ2 H' (Pe i)))
    (hPe : ∀ D i v H' H2 l, i < n → Pe i v H' → H1 D = none → H' D = some (.lst l) → (∀ a o, ¬ Z a → a ≠ D → H' a = some o → H2 a = some o) → Pe i v H2)
    (q : ∀ D ys H', H D = none → Rl Z J X H H' → H' D = some (.lst ys) → El f Pe n ys H' → Q (.ref D) H') :
    ∀ D, H1 D = none → ∃ W : Nat → Nat → Hp → Prop, (∃ m, W 0 m (upd H1 D (.lst []))) ∧ ∀ i m H, W i m H →
      (It1.stop i H ∧ Q (.ref D) H) ∨ (It1.go i H ∧ ∃ Nx : Hp → Prop, (∀ H', Nx H' → ∃ m', m' < m ∧ W (i + 1) m' H') ∧ ∀ x H', It1.yld i H x H' → g x (wipe σ vs) H' fun σ2 H2 => wipe σ2 vs = wipe σ vs ∧ tt σ2 H2 fun b H3 =>
        if b = true then te σ2 H3 fun y H4 => ∃ acc, H4 D = some (.lst acc) ∧ acc.length < sizeLine ∧ Nx (upd H4 D (.lst (acc ++ [y]))) else Nx H3) := by
  intro D hD
  have nzD : ∀ {H'}, Rl Z J (D :: X) H' H' → ∀ {l}, H' D = some (.lst l) → ¬ Z D := fun {H'} r {l} e z => by
    obtain ⟨kvs, q⟩ := M.dict r.1 z
    rw [q] at e
    cases e
  refine ⟨fun i m H' => m = n - i ∧ i ≤ n ∧ J (D :: X) H' ∧ Kept Z H1 H' ∧ ∃ ys, H' D = some (.lst ys) ∧ El f Pe i ys H', ⟨n, rfl, Nat.zero_le _, M.push r1.2.1 hD, (Kept.mut (fun _ _ _ e => e) hD), [], upd_same, El.zero⟩, ?_⟩
  rintro i m H' ⟨rfl, hi, hJ, hk, ys, hys, hel⟩
  by_cases hlt : i < n
  · obtain ⟨go, yl⟩ := hgo i H' hlt hk
    refine .inr ⟨go, fun H2 => i + 1 ≤ n ∧ J (D :: X) H2 ∧ Kept Z H1 H2 ∧ ∃ ys, H2 D = some (.lst ys) ∧ El f Pe (i + 1) ys H2, fun H2 h2 => ⟨n - (i + 1), by omega, rfl, h2⟩, fun x H2 hy => ?_⟩
    obtain ⟨s2, y2⟩ := yl x H2 hy
    have J2 := M.same hJ s2
    have k2 : Kept Z H1 H2 := hk.trans (Kept.of_same s2)
    have d2 : H2 D = some (.lst ys) := s2 _ _ hys
    have rr : Rl Z J (D :: X) H2 H2 := ⟨J2, J2, fun _ _ _ e => e⟩
    obtain ⟨σ2, hg, hw, ht, he⟩ := turn D i x H2 hlt hD rr k2 y2
    have el2 : El f Pe i ys H2 := hel.imp fun j v hj p => hPe D j v H' H2 ys (by omega) p hD hys fun a o _ _ e => s2 a o e
    refine hg _ ⟨hw, ht H2 rr _ fun H3 e3 => ?_⟩
    have nz := nzD rr d2
    have d3 : H3 D = some (.lst ys) := e3.2.2 _ _ nz d2
    have k3 : Kept Z H1 H3 := k2.trans e3.2.2
    have el3 : El f Pe i ys H3 := el2.imp fun j v hj p => hPe D j v H2 H3 ys (by omega) p hD d2 fun a o nz _ e => e3.2.2 a o nz e
    cases hf : f i with
    | true =>
      refine he hf H3 e3 _ fun y H4 e4 p4 => ?_
      have d4 : H4 D = some (.lst ys) := e4.2.2 _ _ nz d3
      have up : ∀ a o, ¬ Z a → a ≠ D → H4 a = some o → (upd H4 D (.lst (ys ++ [y]))) a = some o := fun a o _ na e => by
        rw [upd_ne na]
        exact e
      refine ⟨ys, d4, Nat.lt_of_le_of_lt (Nat.le_trans hel.len (Nat.le_trans hi hn)) (by decide), hlt, M.poke e4.2.1 d4, (k3.trans e4.2.2).mut hD, ys ++ [y], upd_same, ?_⟩
      refine El.yes ((el3.imp fun j v hj p => hPe D j v H3 H4 ys (by omega) p hD d3 fun a o nz _ e => e4.2.2 a o nz e).imp fun j v hj p => hPe D j v H4 _ ys (by omega) p hD d4 up) hf (hPe D i y H4 _ ys hlt p4 hD d4 up)
    | false => exact ⟨hlt, e3.2.1, k3, ys, d3, el3.no hf⟩
  · have e : i = n := by omega
    subst e
    refine .inl ⟨hstop H' hk, q D ys H' (Good.free r1 hD) ⟨r1.1, M.pop hJ, r1.2.2 |> fun z => Kept.trans z hk⟩ hys hel⟩
/-- a new list of what a comprehension gives -/
def NewC (H0 : Hp) (f : Nat → Bool) (Pe : Nat → Pr) (n : Nat) : Pr := fun u H => ∃ D ys, u = .ref D ∧ H0 D = none ∧ H D = some (.lst ys) ∧ El f Pe n ys H
/-- over a list -/
theorem ev_lcL {tl : TE} {xs : List V} {f : Nat → Bool} {Pe : Nat → Pr} (hl : Ev (Rl Z J X) tl σ H (IsL xs)) (hn : xs.length ≤ 100000)
    (turn : ∀ D i x H', xs[i]? = some x → Rl Z J (D :: X) H' H' → Kept Z H H' → ∃ σ2, (∀ Q : L2.St → Hp → Prop, Q σ2 H' → g x (wipe σ vs) H' Q) ∧ wipe σ2 vs = wipe σ vs ∧ EvT (Rl Z J (D :: X)) tt σ2 H' (f i) ∧ (f i = true → Ev (Rl Z J (D :: X)) te σ2 H' (Pe i)))
    (hPe : ∀ D i v H' H2 l, i < xs.length → Pe i v H' → H D = none → H' D = some (.lst l) → (∀ a o, ¬ Z a → a ≠ D → H' a = some o → H2 a = some o) → Pe i v H2) :
    Ev (Rl Z J X) (tLc (iList K tl) g tt te vs) σ H (NewC H f Pe xs.length) := fun H0 e0 Q q => hl H0 e0 _ fun v H1 e1 ⟨a, ev, ha⟩ => by
  subst ev
  have nz : ¬ Z a := fun z => by
    obtain ⟨kvs, h⟩ := M.dict e1.2.1 z
    rw [h] at ha
    cases ha
  refine ⟨a, rfl, ⟨xs, SqL.of ha⟩, ?_⟩
  refine lc_gen (H := H0) (Y := fun i x _ => xs[i]? = some x) e1 hn (fun i H' hi hk => ?_) (fun H' hk => ?_) (fun D i x H' hi hD rr hk hy => ?_) (fun D i v H' H2 l hi p hD => hPe D i v H' H2 l hi p (Good.free (Good.trans e0 e1) hD)) (fun D ys H' hD r hd hel => q _ _ r ⟨D, ys, rfl, Good.free e0 hD, hd, hel⟩)
  · have ha' : SqL K H' a xs := SqL.of (hk _ _ nz ha)
    refine ⟨⟨xs, xs[i], ha', List.getElem?_eq_getElem hi⟩, fun x H2 hy => ?_⟩
    obtain ⟨e, y⟩ := hy
    subst e
    exact ⟨Same.refl _, y xs ha'⟩
  · exact ⟨xs, SqL.of (hk _ _ nz ha), Nat.le_refl _⟩
  · exact turn D i x H' hy rr (Kept.trans (Kept.trans e0.2.2 e1.2.2) hk)
end
/-- over a list, where nothing that was known changes -/
theorem ev_lcS {K : PySem.W.Frag} {σ : L2.St} {H : Hp} {g : TG} {tt : TT} {te tl : TE} {vs : List Nat} {xs : List V} {f : Nat → Bool} {Pe : Nat → Pr} (hl : Ev Same tl σ H (IsL xs)) (hn : xs.length ≤ 100000)
    (turn : ∀ i x H', xs[i]? = some x → Same H H' → ∃ σ2, (∀ Q : L2.St → Hp → Prop, Q σ2 H' → g x (wipe σ vs) H' Q) ∧ wipe σ2 vs = wipe σ vs ∧ EvT Same tt σ2 H' (f i) ∧ (f i = true → Ev Same te σ2 H' (Pe i)))
    (hPe : ∀ D i v H' H2 l, i < xs.length → Pe i v H' → H D = none → H' D = some (.lst l) → (∀ a o, a ≠ D → H' a = some o → H2 a = some o) → Pe i v H2) :
    Ev Same (tLc (iList K tl) g tt te vs) σ H (NewC H f Pe xs.length) := by
  have := ev_lcL (Z := Z0) (J := J0) (X := []) (K := K) (σ := σ) (H := H) (g := g) (tt := tt) (te := te) (vs := vs) (tl := tl) (xs := xs) (f := f) (Pe := Pe) (by rw [rl0]; exact hl) hn
    (fun D i x H' hx _ hk => by
      rw [rl0]
      exact turn i x H' hx fun a o e => hk a o (fun z => z) e)
    (fun D i v H' H2 l hi p hD hl' hk => hPe D i v H' H2 l hi p hD hl' fun a o na e => hk a o (fun z => z) na e)
  rw [rl0] at this
  exact this
section
variable {R : Hp → Hp → Prop} [G : Good R] {K : PySem.W.Frag} {σ : L2.St} {H : Hp} {D : Ends} {tu : TS} {te : TE} {t : TA} {P : Pr}
/-- for i in range(n) -/
theorem s_forR {n j : Nat} (r0 : R H H) (h : EvA R t σ H (IsA [.int (n : Int)])) (hn : n ≤ 100000) (Pv : Nat → L2.St → Hp → Prop) (h0 : ∀ H1, R H H1 → Pv 0 σ H1)
    (hs : ∀ i σ' H', i < n → Pv i σ' H' → tu { D with nx := Pv (i + 1), ct := Pv (i + 1), bk := D.nx } (σ'.set j (some (.int (i : Int)))) H') (hd : ∀ σ' H', Pv n σ' H' → D.nx σ' H') : tFor (iRng1 t) (gName j) tu D σ H :=
  h H r0 _ fun us H1 e eu => by
    cases eu
    refine ⟨(n : Int), rfl, by omega, by omega, for_range (lo := 0) (n := n) Pv (h0 H1 e) (fun i σ' H' hi p => ?_) hd⟩
    show tu { D with nx := Pv (i + 1), ct := Pv (i + 1), bk := D.nx } (σ'.set j (some (.int ((0 : Int) + (i : Int))))) H'
    rw [Int.zero_add]
    exact hs i σ' H' hi p
/-- for x in a list -/
theorem s_forL {xs : List V} {g : TG} (r0 : R H H) (h : Ev R te σ H (IsL xs)) (Pv : Addr → Nat → L2.St → Hp → Prop) (h0 : ∀ a H1, R H H1 → H1 a = some (.lst xs) → Pv a 0 σ H1) (hl : ∀ a i σ' H', Pv a i σ' H' → H' a = some (.lst xs))
    (hs : ∀ a i x σ' H', xs[i]? = some x → Pv a i σ' H' → g x σ' H' fun σ2 H2 => tu { D with nx := Pv a (i + 1), ct := Pv a (i + 1), bk := D.nx } σ2 H2) (hd : ∀ a σ' H', Pv a xs.length σ' H' → D.nx σ' H') : tFor (iList K te) g tu D σ H :=
  h H r0 _ fun v H1 e ⟨a, ev, ha⟩ => by
    subst ev
    exact ⟨a, rfl, ⟨xs, SqL.of ha⟩, for_list (Pv a) (h0 a H1 e ha) (fun i σ' H' _ p => SqL.of (hl a i σ' H' p)) (hs a) (hd a)⟩
/-- for i in range(n), left by a break too: Fin is what holds behind it either way -/
theorem s_forRB {n j : Nat} (r0 : R H H) (h : EvA R t σ H (IsA [.int (n : Int)])) (hn : n ≤ 100000) (Pv : Nat → L2.St → Hp → Prop) (Fin : L2.St → Hp → Prop) (h0 : ∀ H1, R H H1 → Pv 0 σ H1)
    (hs : ∀ bk : L2.St → Hp → Prop, (∀ σ' H', Fin σ' H' → bk σ' H') → ∀ i σ' H', i < n → Pv i σ' H' → tu { D with nx := Pv (i + 1), ct := Pv (i + 1), bk := bk } (σ'.set j (some (.int (i : Int)))) H') (hd : ∀ σ' H', Pv n σ' H' → Fin σ' H') (fin : ∀ σ' H', Fin σ' H' → D.nx σ' H') : tFor (iRng1 t) (gName j) tu D σ H :=
  s_forR r0 h hn Pv h0 (hs D.nx fin) fun σ' H' p => fin σ' H' (hd σ' H' p)
/-- for x in a list whose place is told -/
theorem s_forLr {a : Addr} {xs : List V} {g : TG} (r0 : R H H) (h : Ev R te σ H (Is (.ref a))) (ha : H a = some (.lst xs)) (Pv : Nat → L2.St → Hp → Prop) (h0 : ∀ H1, R H H1 → Pv 0 σ H1) (hl : ∀ i σ' H', Pv i σ' H' → H' a = some (.lst xs))
    (hs : ∀ i x σ' H', xs[i]? = some x → Pv i σ' H' → g x σ' H' fun σ2 H2 => tu { D with nx := Pv (i + 1), ct := Pv (i + 1), bk := D.nx } σ2 H2) (hd : ∀ σ' H', Pv xs.length σ' H' → D.nx σ' H') : tFor (iList K te) g tu D σ H :=
  h H r0 _ fun v H1 e ev => by
    cases ev
    exact ⟨a, rfl, ⟨xs, SqL.of (G.keep e ha lst_nd)⟩, for_list Pv (h0 H1 e) (fun i σ' H' _ p => SqL.of (hl i σ' H' p)) hs hd⟩
/-- for x in something new, that holds a list -/
theorem s_forG {g : TG} (r0 : R H H) (h : Ev R te σ H P) (k : ∀ v H1, R H H1 → P v H1 → ∃ a xs, v = .ref a ∧ H1 a = some (.lst xs) ∧ ∃ Pv : Nat → L2.St → Hp → Prop, Pv 0 σ H1 ∧ (∀ i σ' H', Pv i σ' H' → H' a = some (.lst xs)) ∧
    (∀ i x σ' H', xs[i]? = some x → Pv i σ' H' → g x σ' H' fun σ2 H2 => tu { D with nx := Pv (i + 1), ct := Pv (i + 1), bk := D.nx } σ2 H2) ∧ ∀ σ' H', Pv xs.length σ' H' → D.nx σ' H') : tFor (iList K te) g tu D σ H :=
  h H r0 _ fun v H1 e p => by
    obtain ⟨a, xs, ev, ha, Pv, h0, hl, hs, hd⟩ := k v H1 e p
    subst ev
    exact ⟨a, rfl, ⟨xs, SqL.of ha⟩, for_list Pv h0 (fun i σ' H' _ p => SqL.of (hl i σ' H' p)) hs hd⟩
/-- a, b = a pair -/
theorem g_pair {t : Addr} {x y : V} {i j n : Nat} {Q : L2.St → Hp → Prop} (h : H t = some (.tup [x, y])) (q : Q ((σ.set i (some x)).set j (some y)) H) (hn : n = 2 := by rfl) : gTup K n (gCons (gName i) (gCons (gName j) gNil)) (.ref t) σ H Q := by
  subst hn
  exact ⟨t, [x, y], rfl, SqT.of h, rfl, x, [y], rfl, y, [], rfl, rfl, q⟩
theorem g_trip {t : Addr} {x y z : V} {i j l n : Nat} {Q : L2.St → Hp → Prop} (h : H t = some (.tup [x, y, z])) (q : Q (((σ.set i (some x)).set j (some y)).set l (some z)) H) (hn : n = 3 := by rfl) : gTup K n (gCons (gName i) (gCons (gName j) (gCons (gName l) gNil))) (.ref t) σ H Q := by
  subst hn
  exact ⟨t, [x, y, z], rfl, SqT.of h, rfl, x, [y, z], rfl, y, [z], rfl, z, [], rfl, rfl, q⟩
/-- an if whose ways meet: Mid is what holds behind it -/
theorem s_ifJ {b : Bool} {tt : TT} {tw : TS} (r0 : R H H) (h : EvT R tt σ H b) (Mid : L2.St → Hp → Prop) (h1 : ∀ nx : L2.St → Hp → Prop, (∀ σ' H', Mid σ' H' → nx σ' H') → b = true → ∀ H1, R H H1 → tu { D with nx := nx } σ H1)
    (h2 : ∀ nx : L2.St → Hp → Prop, (∀ σ' H', Mid σ' H' → nx σ' H') → b = false → ∀ H1, R H H1 → tw { D with nx := nx } σ H1) (k : ∀ σ' H', Mid σ' H' → D.nx σ' H') : tIfS tt tu tw D σ H := h H r0 _ fun H1 e => by
  cases b with
  | true => exact h1 D.nx k rfl H1 e
  | false => exact h2 D.nx k rfl H1 e
/-- if c: x = e, told by what x holds behind it -/
theorem s_ifset {b : Bool} {i : Nat} {tt : TT} {v : V} (r0 : R H H) (h : EvT R tt σ H b) (h1 : b = true → Ev R te σ H (Is v)) (h2 : b = false → σ.set i (some v) = σ) (k : ∀ H1, R H H1 → D.nx (σ.set i (some v)) H1) : tIfS tt (tAsg te (gName i)) tNext D σ H := h H r0 _ fun H1 e => by
  cases b with
  | true =>
    exact h1 rfl H1 e _ fun u H2 e2 eu => by
      cases eu
      exact k H2 (G.trans e e2)
  | false =>
    have q := k H1 e
    rw [h2 rfl] at q
    exact q
/-- a store to a field -/
theorem s_fldE {i : Nat} {f : Str} {a C dx : Addr} {fs : List (Str × V)} (r0 : R H H) (h : Ev R te σ H P) (ho : σ[i]? = some (some (.ref a))) (hx : H a = some (.ins C dx fs)) (c : Cls K C) (n : NoAttr K C f) (k : ∀ v H1, R H H1 → P v H1 → D.nx σ (upd H1 a (.ins C dx (putF f v fs)))) (hl : fs.length < 1000 := by simp) : sFld K (tVar i) te f D σ H :=
  h H r0 _ fun v H1 s p => ⟨.ref a, ho, a, C, dx, fs, rfl, G.keep s hx ins_nd, c, n, hl, k v H1 s p⟩
end
/-- over enumerate(a list), where nothing that was known changes -/
theorem ev_lcE {K : PySem.W.Frag} {σ : L2.St} {H : Hp} {g : TG} {tt : TT} {te ta : TE} {vs : List Nat} {oa : Addr} {xs : List V} {f : Nat → Bool} {Pe : Nat → Pr} (hl : Ev Same ta σ H (Is (.ref oa))) (ho : H oa = some (.lst xs)) (hn : xs.length ≤ 100000)
    (turn : ∀ (i : Nat) x H' U, xs[i]? = some x → Same H H' → H' U = some (.tup [.int (i : Int), x]) → ∃ σ2, (∀ Q : L2.St → Hp → Prop, Q σ2 H' → g (.ref U) (wipe σ vs) H' Q) ∧ wipe σ2 vs = wipe σ vs ∧ EvT Same tt σ2 H' (f i) ∧ (f i = true → Ev Same te σ2 H' (Pe i)))
    (hPe : ∀ D i v H' H2 l, i < xs.length → Pe i v H' → H D = none → H' D = some (.lst l) → (∀ a o, a ≠ D → H' a = some o → H2 a = some o) → Pe i v H2) :
    Ev Same (tLc (iEnum K (tCons ta tNil)) g tt te vs) σ H (NewC H f Pe xs.length) := fun H0 e0 Q q => hl H0 e0 _ fun v H1 e1 ev => by
  cases ev
  have h1 : H1 oa = some (.lst xs) := e1 _ _ (e0 _ _ ho)
  refine ⟨oa, xs, rfl, SqL.of h1, ?_⟩
  refine lc_gen (Z := Z0) (J := J0) (X := []) (H := H0) (Y := fun i x H2 => ∃ U y, x = .ref U ∧ xs[i]? = some y ∧ H2 U = some (.tup [.int (i : Int), y])) (by rw [rl0]; exact e1) hn (fun i H' hi hk => ?_) (fun H' hk => ?_) (fun D i x H' hi hD rr hk hy => ?_) (fun D i v H' H2 l hi p hD hl' hk => hPe D i v H' H2 l hi p ((e0.trans e1).free hD) hl' fun a o na e => hk a o (fun z => z) na e) (fun D ys H' hD r hd hel => q _ _ (by rw [rl0] at r; exact r) ⟨D, ys, rfl, e0.free hD, hd, hel⟩)
  · have ha' : SqL K H' oa xs := SqL.of (hk _ _ (fun z => z) h1)
    refine ⟨⟨xs, xs[i], ha', List.getElem?_eq_getElem hi⟩, fun x H2 hy => ?_⟩
    obtain ⟨U, y, ex, nU, e2, hy⟩ := hy
    subst ex e2
    exact ⟨fun b o z => by rw [upd_ne (ne_of_none z nU)]; exact z, U, y, rfl, hy xs ha', upd_same⟩
  · exact ⟨xs, SqL.of (hk _ _ (fun z => z) h1), Nat.le_refl _⟩
  · obtain ⟨U, y, ex, hy, hU⟩ := hy
    subst ex
    rw [rl0]
    exact turn i y H' U hy ((e0.trans e1).trans fun a o e => hk a o (fun z => z) e) hU
end Kw
set_option maxRecDepth 100000
set_option maxHeartbeats 400000
namespace Kw
open PySem PySem.Spec PyProof.Rows L2
/-- the i-th statement of the program -/
def top (i : Nat) : Stmt := PySem.Challenge.pw_keptpossible_s01_answers.main.body.getD i (.Pass ⟨0, 0, 0, 0⟩)
structure Ad where
  CChange : Addr
  CWorld : Addr
  CAim : Addr
  COther : Addr
  CChances : Addr
  CRefused : Addr
  CLine : Addr
  tEVERY : Addr
  tSIZES : Addr
  f_is_within : Addr
  d_is_within : FuncData
  f_Change_init : Addr
  d_Change_init : FuncData
  f_Change_is_one : Addr
  d_Change_is_one : FuncData
  f_Change_is_let : Addr
  d_Change_is_let : FuncData
  f_Change_done : Addr
  d_Change_done : FuncData
  f_World_init : Addr
  d_World_init : FuncData
  f_World_waiting : Addr
  d_World_waiting : FuncData
  f_World_choices : Addr
  d_World_choices : FuncData
  f_World_is_state : Addr
  d_World_is_state : FuncData
  f_World_is_let : Addr
  d_World_is_let : FuncData
  f_World_behind : Addr
  d_World_behind : FuncData
  f_World_followers : Addr
  d_World_followers : FuncData
  f_World_waited : Addr
  d_World_waited : FuncData
  f_Aim_init : Addr
  d_Aim_init : FuncData
  f_Aim_is_one : Addr
  d_Aim_is_one : FuncData
  f_Aim_is_so : Addr
  d_Aim_is_so : FuncData
  f_Other_init : Addr
  d_Other_init : FuncData
  f_Other_told : Addr
  d_Other_told : FuncData
  f_Other_is_like : Addr
  d_Other_is_like : FuncData
  f_can_be_come_to : Addr
  d_can_be_come_to : FuncData
  f_Chances_init : Addr
  d_Chances_init : FuncData
  f_Chances_possible : Addr
  d_Chances_possible : FuncData
  f_Chances_worth_of : Addr
  d_Chances_worth_of : FuncData
  f_Chances_kept : Addr
  d_Chances_kept : FuncData
  f_Chances_lost : Addr
  d_Chances_lost : FuncData
  f_Chances_loss : Addr
  d_Chances_loss : FuncData
  f_Refused_init : Addr
  d_Refused_init : FuncData
  f_refuse_if : Addr
  d_refuse_if : FuncData
  f_next_rows : Addr
  d_next_rows : FuncData
  f_all_ends : Addr
  d_all_ends : FuncData
  f_first_of : Addr
  d_first_of : FuncData
  f_least_lost : Addr
  d_least_lost : FuncData
  f_most_kept : Addr
  d_most_kept : FuncData
  f_tidied : Addr
  d_tidied : FuncData
  f_counted : Addr
  d_counted : FuncData
  f_Line_init : Addr
  d_Line_init : FuncData
  f_Line_chances : Addr
  d_Line_chances : FuncData
  f_Line_look_there : Addr
  d_Line_look_there : FuncData
  f_Line_look_state : Addr
  d_Line_look_state : FuncData
  f_Line_add_change : Addr
  d_Line_add_change : FuncData
  f_Line_take_out : Addr
  d_Line_take_out : FuncData
  f_Line_set_state : Addr
  d_Line_set_state : FuncData
  f_Line_do_deed : Addr
  d_Line_do_deed : FuncData
  f_Line_add_aim : Addr
  d_Line_add_aim : FuncData
  f_Line_told_aim : Addr
  d_Line_told_aim : FuncData
  f_Line_open_at : Addr
  d_Line_open_at : FuncData
  f_Line_keeps : Addr
  d_Line_keeps : FuncData
  f_Line_costs : Addr
  d_Line_costs : FuncData
  f_Line_own_aim : Addr
  d_Line_own_aim : FuncData
  f_Line_least : Addr
  d_Line_least : FuncData
  f_Line_most : Addr
  d_Line_most : FuncData
  f_Line_tidy : Addr
  d_Line_tidy : FuncData
  f_Line_harmless : Addr
  d_Line_harmless : FuncData
  f_Line_last_chance : Addr
  d_Line_last_chance : FuncData
  f_told_deed : Addr
  d_told_deed : FuncData
  f_told_state : Addr
  d_told_state : FuncData
  f_told_row : Addr
  d_told_row : FuncData
  f_answered : Addr
  d_answered : FuncData
  f_begun : Addr
  d_begun : FuncData
  f_told_by : Addr
  d_told_by : FuncData
  f_answers : Addr
  d_answers : FuncData
structure Txt (K : PySem.W.Frag) (mg : Str → Option Value) (A : Ad) : Prop where
  gC_Change : mg "Change" = some (.ref A.CChange)
  c_Change : Cls K A.CChange
  mk_Change : Mk K A.CChange A.f_Change_init
  n_Change_asked : NoAttr K A.CChange "asked"
  n_Change_so : NoAttr K A.CChange "so"
  n_Change_touched : NoAttr K A.CChange "touched"
  n_Change_made : NoAttr K A.CChange "made"
  gC_World : mg "World" = some (.ref A.CWorld)
  c_World : Cls K A.CWorld
  mk_World : Mk K A.CWorld A.f_World_init
  n_World_every : NoAttr K A.CWorld "every"
  n_World_deeds : NoAttr K A.CWorld "deeds"
  n_World_events : NoAttr K A.CWorld "events"
  n_World_state : NoAttr K A.CWorld "state"
  gC_Aim : mg "Aim" = some (.ref A.CAim)
  c_Aim : Cls K A.CAim
  mk_Aim : Mk K A.CAim A.f_Aim_init
  n_Aim_facts : NoAttr K A.CAim "facts"
  n_Aim_so : NoAttr K A.CAim "so"
  gC_Other : mg "OtherAim" = some (.ref A.COther)
  c_Other : Cls K A.COther
  mk_Other : Mk K A.COther A.f_Other_init
  n_Other_aim : NoAttr K A.COther "aim"
  n_Other_worth : NoAttr K A.COther "worth"
  n_Other_steps : NoAttr K A.COther "steps"
  gC_Chances : mg "Chances" = some (.ref A.CChances)
  c_Chances : Cls K A.CChances
  mk_Chances : Mk K A.CChances A.f_Chances_init
  n_Chances_world : NoAttr K A.CChances "world"
  n_Chances_others : NoAttr K A.CChances "others"
  n_Chances_known : NoAttr K A.CChances "known"
  gC_Refused : mg "Refused" = some (.ref A.CRefused)
  gC_Line : mg "Line" = some (.ref A.CLine)
  c_Line : Cls K A.CLine
  mk_Line : Mk K A.CLine A.f_Line_init
  n_Line_world : NoAttr K A.CLine "world"
  n_Line_others : NoAttr K A.CLine "others"
  oex : OexC K A.CRefused
  xf : XfC K A.CRefused
  iR : PySem.W.findIn K (.ref A.CRefused) "__init__" = some (some (.ref A.f_Refused_init))
  tyR : PySem.W.typeIn K (.ref A.f_Refused_init) = some (.type "function")
  nR_number : PySem.W.findIn K (.ref A.CRefused) "number" = some none
  eR : PySem.W.exmOne K (.ref A.CRefused) (.ref A.CRefused) = some true
  vV : PySem.W.findCls K (.type "ValueError") (.type "type") "__init__" = some (.val (.builtin "ValueError.__init__"))
  g_BEGIN : ∃ t, mg "BEGIN" = some (.int (0) t)
  g_NOT_BEGUN : ∃ t, mg "NOT_BEGUN" = some (.int (-11) t)
  g_ABSENT : ∃ t, mg "ABSENT" = some (.int (-2) t)
  g_OUT_OF_RANGE : ∃ t, mg "OUT_OF_RANGE" = some (.int (-22) t)
  g_ALIKE : ∃ t, mg "ALIKE" = some (.int (-17) t)
  g_TOO_MANY : ∃ t, mg "TOO_MANY" = some (.int (-28) t)
  g_NOT_LET : ∃ t, mg "NOT_LET" = some (.int (-6) t)
  g_IN_VAIN : ∃ t, mg "IN_VAIN" = some (.int (-33) t)
  g_LEAST_FACTS : ∃ t, mg "LEAST_FACTS" = some (.int (2) t)
  g_MOST_FACTS : ∃ t, mg "MOST_FACTS" = some (.int (5) t)
  g_MOST_DEEDS : ∃ t, mg "MOST_DEEDS" = some (.int (6) t)
  g_MOST_EVENTS : ∃ t, mg "MOST_EVENTS" = some (.int (3) t)
  g_MOST_AIMS : ∃ t, mg "MOST_AIMS" = some (.int (6) t)
  g_MOST_WORTH : ∃ t, mg "MOST_WORTH" = some (.int (100) t)
  g_MOST_TIME : ∃ t, mg "MOST_TIME" = some (.int (40) t)
  g_MOST_STEPS : ∃ t, mg "MOST_STEPS" = some (.int (10) t)
  g_EVERY : mg "EVERY" = some (.ref A.tEVERY)
  q_EVERY : ∀ H : Hp, SqT K H A.tEVERY ([V.int 0, V.int 1, V.int 3, V.int 7, V.int 15, V.int 31] : List V)
  g_SIZES : mg "SIZES" = some (.ref A.tSIZES)
  q_SIZES : ∀ H : Hp, SqT K H A.tSIZES ([V.int 1, V.int 4, V.int 4, V.int 1, V.int 1, V.int 1, V.int 0, V.int 1, V.int 4, V.int 1, V.int 1, V.int 0, V.int 1, V.int 1, V.int 1, V.int 3, V.int 3, V.int 3, V.int 3, V.int 3, V.int 0, V.int 1] : List V)
  len : mg "len" = none
  any : mg "any" = none
  sum : mg "sum" = none
  min : mg "min" = none
  list : mg "list" = none
  range : mg "range" = none
  enumerate : mg "enumerate" = none
  ValueError : mg "ValueError" = none
  F_is_within : Fun K "is_within" "is_within" (top 2) A.f_is_within A.d_is_within
  b_is_within : Binds K A.d_is_within ["part", "whole"] []
  g_is_within : mg "is_within" = some (.ref A.f_is_within)
  F_Change_init : Fun K "__init__" "Change.__init__" (inClass (top 3) 0) A.f_Change_init A.d_Change_init
  b_Change_init : Binds K A.d_Change_init ["self", "asked", "so", "touched", "made"] []
  F_Change_is_one : Fun K "is_one" "Change.is_one" (inClass (top 3) 1) A.f_Change_is_one A.d_Change_is_one
  b_Change_is_one : Binds K A.d_Change_is_one ["self", "every"] []
  m_Change_is_one : Meth K A.CChange "is_one" A.f_Change_is_one
  F_Change_is_let : Fun K "is_let" "Change.is_let" (inClass (top 3) 2) A.f_Change_is_let A.d_Change_is_let
  b_Change_is_let : Binds K A.d_Change_is_let ["self", "state"] []
  m_Change_is_let : Meth K A.CChange "is_let" A.f_Change_is_let
  F_Change_done : Fun K "done" "Change.done" (inClass (top 3) 3) A.f_Change_done A.d_Change_done
  b_Change_done : Binds K A.d_Change_done ["self", "state"] []
  m_Change_done : Meth K A.CChange "done" A.f_Change_done
  F_World_init : Fun K "__init__" "World.__init__" (inClass (top 4) 0) A.f_World_init A.d_World_init
  b_World_init : Binds K A.d_World_init ["self", "many"] []
  F_World_waiting : Fun K "waiting" "World.waiting" (inClass (top 4) 1) A.f_World_waiting A.d_World_waiting
  b_World_waiting : Binds K A.d_World_waiting ["self"] []
  m_World_waiting : Meth K A.CWorld "waiting" A.f_World_waiting
  F_World_choices : Fun K "choices" "World.choices" (inClass (top 4) 2) A.f_World_choices A.d_World_choices
  b_World_choices : Binds K A.d_World_choices ["self"] []
  m_World_choices : Meth K A.CWorld "choices" A.f_World_choices
  F_World_is_state : Fun K "is_state" "World.is_state" (inClass (top 4) 3) A.f_World_is_state A.d_World_is_state
  b_World_is_state : Binds K A.d_World_is_state ["self", "number"] []
  m_World_is_state : Meth K A.CWorld "is_state" A.f_World_is_state
  F_World_is_let : Fun K "is_let" "World.is_let" (inClass (top 4) 4) A.f_World_is_let A.d_World_is_let
  b_World_is_let : Binds K A.d_World_is_let ["self", "state", "choice"] []
  m_World_is_let : Meth K A.CWorld "is_let" A.f_World_is_let
  F_World_behind : Fun K "behind" "World.behind" (inClass (top 4) 5) A.f_World_behind A.d_World_behind
  b_World_behind : Binds K A.d_World_behind ["self", "state", "choice"] []
  m_World_behind : Meth K A.CWorld "behind" A.f_World_behind
  F_World_followers : Fun K "followers" "World.followers" (inClass (top 4) 6) A.f_World_followers A.d_World_followers
  b_World_followers : Binds K A.d_World_followers ["self", "state"] []
  m_World_followers : Meth K A.CWorld "followers" A.f_World_followers
  F_World_waited : Fun K "waited" "World.waited" (inClass (top 4) 7) A.f_World_waited A.d_World_waited
  b_World_waited : Binds K A.d_World_waited ["self", "state", "many"] []
  m_World_waited : Meth K A.CWorld "waited" A.f_World_waited
  F_Aim_init : Fun K "__init__" "Aim.__init__" (inClass (top 6) 0) A.f_Aim_init A.d_Aim_init
  b_Aim_init : Binds K A.d_Aim_init ["self", "facts", "so"] []
  F_Aim_is_one : Fun K "is_one" "Aim.is_one" (inClass (top 6) 1) A.f_Aim_is_one A.d_Aim_is_one
  b_Aim_is_one : Binds K A.d_Aim_is_one ["self", "every"] []
  m_Aim_is_one : Meth K A.CAim "is_one" A.f_Aim_is_one
  F_Aim_is_so : Fun K "is_so" "Aim.is_so" (inClass (top 6) 2) A.f_Aim_is_so A.d_Aim_is_so
  b_Aim_is_so : Binds K A.d_Aim_is_so ["self", "state"] []
  m_Aim_is_so : Meth K A.CAim "is_so" A.f_Aim_is_so
  F_Other_init : Fun K "__init__" "OtherAim.__init__" (inClass (top 7) 0) A.f_Other_init A.d_Other_init
  b_Other_init : Binds K A.d_Other_init ["self", "aim", "worth", "steps"] []
  F_Other_told : Fun K "told" "OtherAim.told" (inClass (top 7) 1) A.f_Other_told A.d_Other_told
  b_Other_told : Binds K A.d_Other_told ["self"] []
  m_Other_told : Meth K A.COther "told" A.f_Other_told
  F_Other_is_like : Fun K "is_like" "OtherAim.is_like" (inClass (top 7) 2) A.f_Other_is_like A.d_Other_is_like
  b_Other_is_like : Binds K A.d_Other_is_like ["self", "other"] []
  m_Other_is_like : Meth K A.COther "is_like" A.f_Other_is_like
  F_can_be_come_to : Fun K "can_be_come_to" "can_be_come_to" (top 8) A.f_can_be_come_to A.d_can_be_come_to
  b_can_be_come_to : Binds K A.d_can_be_come_to ["world", "state", "aim", "many"] []
  g_can_be_come_to : mg "can_be_come_to" = some (.ref A.f_can_be_come_to)
  F_Chances_init : Fun K "__init__" "Chances.__init__" (inClass (top 9) 0) A.f_Chances_init A.d_Chances_init
  b_Chances_init : Binds K A.d_Chances_init ["self", "world", "others"] []
  F_Chances_possible : Fun K "possible" "Chances.possible" (inClass (top 9) 1) A.f_Chances_possible A.d_Chances_possible
  b_Chances_possible : Binds K A.d_Chances_possible ["self", "state"] []
  m_Chances_possible : Meth K A.CChances "possible" A.f_Chances_possible
  F_Chances_worth_of : Fun K "worth_of" "Chances.worth_of" (inClass (top 9) 2) A.f_Chances_worth_of A.d_Chances_worth_of
  b_Chances_worth_of : Binds K A.d_Chances_worth_of ["self", "numbers"] []
  m_Chances_worth_of : Meth K A.CChances "worth_of" A.f_Chances_worth_of
  F_Chances_kept : Fun K "kept" "Chances.kept" (inClass (top 9) 3) A.f_Chances_kept A.d_Chances_kept
  b_Chances_kept : Binds K A.d_Chances_kept ["self", "state"] []
  m_Chances_kept : Meth K A.CChances "kept" A.f_Chances_kept
  F_Chances_lost : Fun K "lost" "Chances.lost" (inClass (top 9) 4) A.f_Chances_lost A.d_Chances_lost
  b_Chances_lost : Binds K A.d_Chances_lost ["self", "state", "steps"] []
  m_Chances_lost : Meth K A.CChances "lost" A.f_Chances_lost
  F_Chances_loss : Fun K "loss" "Chances.loss" (inClass (top 9) 5) A.f_Chances_loss A.d_Chances_loss
  b_Chances_loss : Binds K A.d_Chances_loss ["self", "state", "steps"] []
  m_Chances_loss : Meth K A.CChances "loss" A.f_Chances_loss
  F_Refused_init : Fun K "__init__" "Refused.__init__" (inClass (top 11) 0) A.f_Refused_init A.d_Refused_init
  b_Refused_init : Binds K A.d_Refused_init ["self", "number"] []
  F_refuse_if : Fun K "refuse_if" "refuse_if" (top 12) A.f_refuse_if A.d_refuse_if
  b_refuse_if : Binds K A.d_refuse_if ["is_so", "number"] []
  g_refuse_if : mg "refuse_if" = some (.ref A.f_refuse_if)
  F_next_rows : Fun K "next_rows" "next_rows" (top 14) A.f_next_rows A.d_next_rows
  b_next_rows : Binds K A.d_next_rows ["world", "rows"] []
  g_next_rows : mg "next_rows" = some (.ref A.f_next_rows)
  F_all_ends : Fun K "all_ends" "all_ends" (top 15) A.f_all_ends A.d_all_ends
  b_all_ends : Binds K A.d_all_ends ["world", "aim", "most"] []
  g_all_ends : mg "all_ends" = some (.ref A.f_all_ends)
  F_first_of : Fun K "first_of" "first_of" (top 16) A.f_first_of A.d_first_of
  b_first_of : Binds K A.d_first_of ["ends"] []
  g_first_of : mg "first_of" = some (.ref A.f_first_of)
  F_least_lost : Fun K "least_lost" "least_lost" (top 17) A.f_least_lost A.d_least_lost
  b_least_lost : Binds K A.d_least_lost ["world", "chances", "aim", "most"] []
  g_least_lost : mg "least_lost" = some (.ref A.f_least_lost)
  F_most_kept : Fun K "most_kept" "most_kept" (top 18) A.f_most_kept A.d_most_kept
  b_most_kept : Binds K A.d_most_kept ["world", "chances", "aim", "most"] []
  g_most_kept : mg "most_kept" = some (.ref A.f_most_kept)
  F_tidied : Fun K "tidied" "tidied" (top 19) A.f_tidied A.d_tidied
  b_tidied : Binds K A.d_tidied ["world", "chances", "aim", "most"] []
  g_tidied : mg "tidied" = some (.ref A.f_tidied)
  F_counted : Fun K "counted" "counted" (top 38) A.f_counted A.d_counted
  b_counted : Binds K A.d_counted ["row"] []
  g_counted : mg "counted" = some (.ref A.f_counted)
  F_Line_init : Fun K "__init__" "Line.__init__" (inClass (top 39) 0) A.f_Line_init A.d_Line_init
  b_Line_init : Binds K A.d_Line_init ["self", "many"] []
  F_Line_chances : Fun K "chances" "Line.chances" (inClass (top 39) 1) A.f_Line_chances A.d_Line_chances
  b_Line_chances : Binds K A.d_Line_chances ["self"] []
  m_Line_chances : Meth K A.CLine "chances" A.f_Line_chances
  F_Line_look_there : Fun K "look_there" "Line.look_there" (inClass (top 39) 2) A.f_Line_look_there A.d_Line_look_there
  b_Line_look_there : Binds K A.d_Line_look_there ["self", "number", "row"] []
  m_Line_look_there : Meth K A.CLine "look_there" A.f_Line_look_there
  F_Line_look_state : Fun K "look_state" "Line.look_state" (inClass (top 39) 3) A.f_Line_look_state A.d_Line_look_state
  b_Line_look_state : Binds K A.d_Line_look_state ["self", "state"] []
  m_Line_look_state : Meth K A.CLine "look_state" A.f_Line_look_state
  F_Line_add_change : Fun K "add_change" "Line.add_change" (inClass (top 39) 4) A.f_Line_add_change A.d_Line_add_change
  b_Line_add_change : Binds K A.d_Line_add_change ["self", "numbers", "row", "most"] []
  m_Line_add_change : Meth K A.CLine "add_change" A.f_Line_add_change
  F_Line_take_out : Fun K "take_out" "Line.take_out" (inClass (top 39) 5) A.f_Line_take_out A.d_Line_take_out
  b_Line_take_out : Binds K A.d_Line_take_out ["self", "number", "row"] []
  m_Line_take_out : Meth K A.CLine "take_out" A.f_Line_take_out
  F_Line_set_state : Fun K "set_state" "Line.set_state" (inClass (top 39) 6) A.f_Line_set_state A.d_Line_set_state
  b_Line_set_state : Binds K A.d_Line_set_state ["self", "state"] []
  m_Line_set_state : Meth K A.CLine "set_state" A.f_Line_set_state
  F_Line_do_deed : Fun K "do_deed" "Line.do_deed" (inClass (top 39) 7) A.f_Line_do_deed A.d_Line_do_deed
  b_Line_do_deed : Binds K A.d_Line_do_deed ["self", "number"] []
  m_Line_do_deed : Meth K A.CLine "do_deed" A.f_Line_do_deed
  F_Line_add_aim : Fun K "add_aim" "Line.add_aim" (inClass (top 39) 8) A.f_Line_add_aim A.d_Line_add_aim
  b_Line_add_aim : Binds K A.d_Line_add_aim ["self", "numbers"] []
  m_Line_add_aim : Meth K A.CLine "add_aim" A.f_Line_add_aim
  F_Line_told_aim : Fun K "told_aim" "Line.told_aim" (inClass (top 39) 9) A.f_Line_told_aim A.d_Line_told_aim
  b_Line_told_aim : Binds K A.d_Line_told_aim ["self", "number"] []
  m_Line_told_aim : Meth K A.CLine "told_aim" A.f_Line_told_aim
  F_Line_open_at : Fun K "open_at" "Line.open_at" (inClass (top 39) 10) A.f_Line_open_at A.d_Line_open_at
  b_Line_open_at : Binds K A.d_Line_open_at ["self", "state"] []
  m_Line_open_at : Meth K A.CLine "open_at" A.f_Line_open_at
  F_Line_keeps : Fun K "keeps" "Line.keeps" (inClass (top 39) 11) A.f_Line_keeps A.d_Line_keeps
  b_Line_keeps : Binds K A.d_Line_keeps ["self", "state"] []
  m_Line_keeps : Meth K A.CLine "keeps" A.f_Line_keeps
  F_Line_costs : Fun K "costs" "Line.costs" (inClass (top 39) 12) A.f_Line_costs A.d_Line_costs
  b_Line_costs : Binds K A.d_Line_costs ["self", "choice"] []
  m_Line_costs : Meth K A.CLine "costs" A.f_Line_costs
  F_Line_own_aim : Fun K "own_aim" "Line.own_aim" (inClass (top 39) 13) A.f_Line_own_aim A.d_Line_own_aim
  b_Line_own_aim : Binds K A.d_Line_own_aim ["self", "numbers"] []
  m_Line_own_aim : Meth K A.CLine "own_aim" A.f_Line_own_aim
  F_Line_least : Fun K "least" "Line.least" (inClass (top 39) 14) A.f_Line_least A.d_Line_least
  b_Line_least : Binds K A.d_Line_least ["self", "numbers"] []
  m_Line_least : Meth K A.CLine "least" A.f_Line_least
  F_Line_most : Fun K "most" "Line.most" (inClass (top 39) 15) A.f_Line_most A.d_Line_most
  b_Line_most : Binds K A.d_Line_most ["self", "numbers"] []
  m_Line_most : Meth K A.CLine "most" A.f_Line_most
  F_Line_tidy : Fun K "tidy" "Line.tidy" (inClass (top 39) 16) A.f_Line_tidy A.d_Line_tidy
  b_Line_tidy : Binds K A.d_Line_tidy ["self", "numbers"] []
  m_Line_tidy : Meth K A.CLine "tidy" A.f_Line_tidy
  F_Line_harmless : Fun K "harmless" "Line.harmless" (inClass (top 39) 17) A.f_Line_harmless A.d_Line_harmless
  b_Line_harmless : Binds K A.d_Line_harmless ["self"] []
  m_Line_harmless : Meth K A.CLine "harmless" A.f_Line_harmless
  F_Line_last_chance : Fun K "last_chance" "Line.last_chance" (inClass (top 39) 18) A.f_Line_last_chance A.d_Line_last_chance
  b_Line_last_chance : Binds K A.d_Line_last_chance ["self", "most"] []
  m_Line_last_chance : Meth K A.CLine "last_chance" A.f_Line_last_chance
  F_told_deed : Fun K "told_deed" "told_deed" (top 40) A.f_told_deed A.d_told_deed
  b_told_deed : Binds K A.d_told_deed ["line", "call", "numbers"] []
  g_told_deed : mg "told_deed" = some (.ref A.f_told_deed)
  F_told_state : Fun K "told_state" "told_state" (top 41) A.f_told_state A.d_told_state
  b_told_state : Binds K A.d_told_state ["line", "call", "numbers"] []
  g_told_state : mg "told_state" = some (.ref A.f_told_state)
  F_told_row : Fun K "told_row" "told_row" (top 42) A.f_told_row A.d_told_row
  b_told_row : Binds K A.d_told_row ["line", "call", "numbers"] []
  g_told_row : mg "told_row" = some (.ref A.f_told_row)
  F_answered : Fun K "answered" "answered" (top 43) A.f_answered A.d_answered
  b_answered : Binds K A.d_answered ["line", "call", "numbers"] []
  g_answered : mg "answered" = some (.ref A.f_answered)
  F_begun : Fun K "begun" "begun" (top 44) A.f_begun A.d_begun
  b_begun : Binds K A.d_begun ["numbers"] []
  g_begun : mg "begun" = some (.ref A.f_begun)
  F_told_by : Fun K "told_by" "told_by" (top 45) A.f_told_by A.d_told_by
  b_told_by : Binds K A.d_told_by ["line", "call", "numbers"] []
  g_told_by : mg "told_by" = some (.ref A.f_told_by)
  F_answers : Fun K "answers" "answers" (top 46) A.f_answers A.d_answers
  b_answers : Binds K A.d_answers ["calls"] []
  g_answers : mg "answers" = some (.ref A.f_answers)
/-! ### how the data lie in the heap -/
abbrev N (n : Nat) : V := .int (n : Int)
abbrev Ns (l : List Nat) : List V := l.map fun n : Nat => V.int (n : Int)
/-- references, each to something that is as told -/
def ListAt {α : Type} (P : Addr → α → Prop) (vs : List V) (xs : List α) : Prop := vs.length = xs.length ∧ ∀ (i : Nat) (x : α), xs[i]? = some x → ∃ a : Addr, vs[i]? = some (V.ref a) ∧ P a x
theorem ListAt.nil {α : Type} {P : Addr → α → Prop} : ListAt P [] ([] : List α) := ⟨rfl, fun i x h => by simp at h⟩
theorem ListAt.imp {α : Type} {P Q : Addr → α → Prop} {vs : List V} {xs : List α} (h : ListAt P vs xs) (k : ∀ a x, P a x → Q a x) : ListAt Q vs xs := ⟨h.1, fun i x e => by
  obtain ⟨a, h1, h2⟩ := h.2 i x e
  exact ⟨a, h1, k a x h2⟩⟩
theorem ListAt.snoc {α : Type} {P : Addr → α → Prop} {vs : List V} {xs : List α} (h : ListAt P vs xs) {a : Addr} {x : α} (p : P a x) : ListAt P (vs ++ [.ref a]) (xs ++ [x]) := by
  refine ⟨by simp [h.1], fun i y e => ?_⟩
  rw [List.getElem?_append] at e ⊢
  rw [h.1]
  by_cases hi : i < xs.length
  · rw [if_pos hi] at e ⊢
    exact h.2 i y e
  · rw [if_neg hi] at e ⊢
    cases hk : i - xs.length with
    | zero =>
      rw [hk] at e
      have e' : x = y := Option.some.inj e
      rw [← e']
      exact ⟨a, rfl, p⟩
    | succ k =>
      rw [hk] at e
      simp at e
theorem ListAt.erase {α : Type} {P : Addr → α → Prop} {vs : List V} {xs : List α} (h : ListAt P vs xs) (j : Nat) : ListAt P (vs.eraseIdx j) (xs.eraseIdx j) := by
  refine ⟨by rw [List.length_eraseIdx, List.length_eraseIdx, h.1], fun i y e => ?_⟩
  rw [List.getElem?_eraseIdx] at e ⊢
  split at e
  · rename_i c
    rw [if_pos c]
    exact h.2 _ y e
  · rename_i c
    rw [if_neg c]
    exact h.2 _ y e
theorem ListAt.get {α : Type} {P : Addr → α → Prop} {vs : List V} {xs : List α} (h : ListAt P vs xs) {i : Nat} {v : V} (e : vs[i]? = some v) : ∃ a x, xs[i]? = some x ∧ v = .ref a ∧ P a x := by
  obtain ⟨hi, _⟩ := List.getElem?_eq_some_iff.mp e
  have hx : xs[i]? = some (xs[i]'(by rw [← h.1]; exact hi)) := List.getElem?_eq_getElem _
  obtain ⟨a, h1, h2⟩ := h.2 i _ hx
  rw [h1] at e
  exact ⟨a, _, hx, (Option.some.inj e).symm, h2⟩
section
variable (A : Ad)
def ChangeAt (H : Hp) (a : Addr) (d : Kp371.Deed) : Prop := ∃ dx, H a = some (.ins A.CChange dx [("asked", N d.needs), ("so", N d.so), ("touched", N d.makes), ("made", N d.thus)])
def AimAt (H : Hp) (a : Addr) (f w : Nat) : Prop := ∃ dx, H a = some (.ins A.CAim dx [("facts", N f), ("so", N w)])
def OtherAt (H : Hp) (a : Addr) (x : Kp373.Aim) : Prop := ∃ dx am, H a = some (.ins A.COther dx [("aim", .ref am), ("worth", N x.worth), ("steps", N x.steps)]) ∧ AimAt A H am x.a x.w
/-- of a list at l: these changes; these other aims -/
def ChangesAt (H : Hp) (l : Addr) (ds : List Kp371.Deed) : Prop := ∃ vs, H l = some (.lst vs) ∧ ListAt (ChangeAt A H) vs ds
def OthersAt (H : Hp) (l : Addr) (xs : List Kp373.Aim) : Prop := ∃ vs, H l = some (.lst vs) ∧ ListAt (OtherAt A H) vs xs
/-- a world: its facts, its lists' places, how it stands -/
structure WorldAt (H : Hp) (wa da ea : Addr) (w : Kp371.World) : Prop where
  ob : ∃ dx, H wa = some (.ins A.CWorld dx [("every", N (2 ^ w.m - 1)), ("deeds", .ref da), ("events", .ref ea), ("state", N w.now)])
  deeds : ChangesAt A H da w.deeds
  events : ChangesAt A H ea w.events
end
section
variable {A : Ad} {R : Hp → Hp → Prop} [G : Good R] {H H' : Hp} {a l wa da ea : Addr}
theorem ChangeAt.keep {d : Kp371.Deed} (h : ChangeAt A H a d) (e : R H H') : ChangeAt A H' a d := by
  obtain ⟨dx, h⟩ := h
  exact ⟨dx, G.keep e h ins_nd⟩
theorem AimAt.keep {f w : Nat} (h : AimAt A H a f w) (e : R H H') : AimAt A H' a f w := by
  obtain ⟨dx, h⟩ := h
  exact ⟨dx, G.keep e h ins_nd⟩
theorem OtherAt.keep {x : Kp373.Aim} (h : OtherAt A H a x) (e : R H H') : OtherAt A H' a x := by
  obtain ⟨dx, am, h, h2⟩ := h
  exact ⟨dx, am, G.keep e h ins_nd, h2.keep e⟩
theorem ChangesAt.keep {ds : List Kp371.Deed} (h : ChangesAt A H l ds) (e : R H H') : ChangesAt A H' l ds := by
  obtain ⟨vs, h1, h2⟩ := h
  exact ⟨vs, G.keep e h1 lst_nd, h2.imp fun _ _ z => z.keep e⟩
theorem OthersAt.keep {xs : List Kp373.Aim} (h : OthersAt A H l xs) (e : R H H') : OthersAt A H' l xs := by
  obtain ⟨vs, h1, h2⟩ := h
  exact ⟨vs, G.keep e h1 lst_nd, h2.imp fun _ _ z => z.keep e⟩
theorem WorldAt.keep {w : Kp371.World} (h : WorldAt A H wa da ea w) (e : R H H') : WorldAt A H' wa da ea w := by
  obtain ⟨⟨dx, h1⟩, h2, h3⟩ := h
  exact ⟨⟨dx, G.keep e h1 ins_nd⟩, h2.keep e, h3.keep e⟩
end
/-! ### attributes by name -/
theorem lk_here {k : Str} {v : V} {r : List (Str × V)} : List.lookup k ((k, v) :: r) = some v := by
  have e : (k == k) = true := beq_self_eq_true k
  simp only [List.lookup, e]
theorem lk_past {k g : Str} {v : V} {r : List (Str × V)} (h : (k == g) = false) : List.lookup k ((g, v) :: r) = List.lookup k r := by
  simp only [List.lookup, h]
theorem put_here {f : Str} {v x : V} {r : List (Str × V)} : putF f v ((f, x) :: r) = (f, v) :: r := if_pos rfl
theorem put_past {f g : Str} {v x : V} {r : List (Str × V)} (h : ¬ g = f) : putF f v ((g, x) :: r) = (g, x) :: putF f v r := if_neg h
theorem lk_2 {k g : Str} {u v : V} {r : List (Str × V)} (h : (k == g) = false) : List.lookup k ((g, u) :: (k, v) :: r) = some v := (lk_past h).trans lk_here
theorem lk_3 {k g1 g2 : Str} {u1 u2 v : V} {r : List (Str × V)} (h1 : (k == g1) = false) (h2 : (k == g2) = false) : List.lookup k ((g1, u1) :: (g2, u2) :: (k, v) :: r) = some v := (lk_past h1).trans (lk_2 h2)
theorem lk_4 {k g1 g2 g3 : Str} {u1 u2 u3 v : V} {r : List (Str × V)} (h1 : (k == g1) = false) (h2 : (k == g2) = false) (h3 : (k == g3) = false) : List.lookup k ((g1, u1) :: (g2, u2) :: (g3, u3) :: (k, v) :: r) = some v := (lk_past h1).trans (lk_3 h2 h3)
theorem lk_n2 {k g1 g2 : Str} {u1 u2 : V} (h1 : (k == g1) = false) (h2 : (k == g2) = false) : List.lookup k [(g1, u1), (g2, u2)] = none := (lk_past h1).trans ((lk_past h2).trans rfl)
theorem lk_n3 {k g1 g2 g3 : Str} {u1 u2 u3 : V} (h1 : (k == g1) = false) (h2 : (k == g2) = false) (h3 : (k == g3) = false) : List.lookup k [(g1, u1), (g2, u2), (g3, u3)] = none := (lk_past h1).trans (lk_n2 h2 h3)
theorem lk_n4 {k g1 g2 g3 g4 : Str} {u1 u2 u3 u4 : V} (h1 : (k == g1) = false) (h2 : (k == g2) = false) (h3 : (k == g3) = false) (h4 : (k == g4) = false) : List.lookup k [(g1, u1), (g2, u2), (g3, u3), (g4, u4)] = none := (lk_past h1).trans (lk_n3 h2 h3 h4)
end Kw
set_option maxRecDepth 100000
set_option maxHeartbeats 400000
namespace Kw
open PySem PySem.Spec PyProof.Rows L2
theorem bor (a b : Nat) : Builtin.bitOr (a : Int) (b : Int) = ((a ||| b : Nat) : Int) := Bits.bitOr_pp (Int.natCast_nonneg a) (Int.natCast_nonneg b)
theorem band (a b : Nat) : Builtin.bitAnd (a : Int) (b : Int) = ((a &&& b : Nat) : Int) := rfl
theorem bxor (a b : Nat) : Builtin.bitXor (a : Int) (b : Int) = ((a ^^^ b : Nat) : Int) := Bits.bitXor_pp (Int.natCast_nonneg a) (Int.natCast_nonneg b)
theorem vint_eq (a b : Nat) : decide (N a = N b) = decide (a = b) := by
  by_cases c : a = b
  · subst c
    simp
  · have : ¬ N a = N b := fun z => c (by have := V.int.inj z; omega)
    rw [decide_eq_false this, decide_eq_false c]
theorem fldAt_of {K : PySem.W.Frag} {H : Hp} {a C dx : Addr} {fs : List (Str × V)} {f : Str} {v : V} (h : H a = some (.ins C dx fs)) (c : Cls K C) (n : NoAttr K C f) (l : fs.lookup f = some v) : FldAt K H a f v := ⟨C, dx, fs, h, c, n, l⟩
theorem insAt_of {H : Hp} {a C dx : Addr} {fs : List (Str × V)} {m : Str} (h : H a = some (.ins C dx fs)) (l : fs.lookup m = none) : InsAt H a C m := ⟨dx, fs, h, l⟩
section
variable {K : PySem.W.Frag} {mg : Str → Option Value} {A : Ad} {H : Hp} {a wa da ea : Addr}
theorem ChangeAt.asked (T : Txt K mg A) {d : Kp371.Deed} (h : ChangeAt A H a d) : FldAt K H a "asked" (N d.needs) := h.elim fun _ h => fldAt_of h T.c_Change T.n_Change_asked lk_here
theorem ChangeAt.so (T : Txt K mg A) {d : Kp371.Deed} (h : ChangeAt A H a d) : FldAt K H a "so" (N d.so) := h.elim fun _ h => fldAt_of h T.c_Change T.n_Change_so (lk_2 (by decide +kernel))
theorem ChangeAt.touched (T : Txt K mg A) {d : Kp371.Deed} (h : ChangeAt A H a d) : FldAt K H a "touched" (N d.makes) := h.elim fun _ h => fldAt_of h T.c_Change T.n_Change_touched (lk_3 (by decide +kernel) (by decide +kernel))
theorem ChangeAt.made (T : Txt K mg A) {d : Kp371.Deed} (h : ChangeAt A H a d) : FldAt K H a "made" (N d.thus) := h.elim fun _ h => fldAt_of h T.c_Change T.n_Change_made (lk_4 (by decide +kernel) (by decide +kernel) (by decide +kernel))
theorem ChangeAt.m {d : Kp371.Deed} {m : Str} (h : ChangeAt A H a d) (h1 : (m == ("asked" : Str)) = false := by decide +kernel) (h2 : (m == ("so" : Str)) = false := by decide +kernel) (h3 : (m == ("touched" : Str)) = false := by decide +kernel) (h4 : (m == ("made" : Str)) = false := by decide +kernel) : InsAt H a A.CChange m := h.elim fun _ h => insAt_of h (lk_n4 h1 h2 h3 h4)
theorem AimAt.facts (T : Txt K mg A) {f w : Nat} (h : AimAt A H a f w) : FldAt K H a "facts" (N f) := h.elim fun _ h => fldAt_of h T.c_Aim T.n_Aim_facts lk_here
theorem AimAt.so (T : Txt K mg A) {f w : Nat} (h : AimAt A H a f w) : FldAt K H a "so" (N w) := h.elim fun _ h => fldAt_of h T.c_Aim T.n_Aim_so (lk_2 (by decide +kernel))
theorem AimAt.m {f w : Nat} {m : Str} (h : AimAt A H a f w) (h1 : (m == ("facts" : Str)) = false := by decide +kernel) (h2 : (m == ("so" : Str)) = false := by decide +kernel) : InsAt H a A.CAim m := h.elim fun _ h => insAt_of h (lk_n2 h1 h2)
theorem OtherAt.aim (T : Txt K mg A) {x : Kp373.Aim} (h : OtherAt A H a x) : ∃ am, FldAt K H a "aim" (.ref am) ∧ AimAt A H am x.a x.w := by
  obtain ⟨dx, am, h1, h2⟩ := h
  exact ⟨am, fldAt_of h1 T.c_Other T.n_Other_aim lk_here, h2⟩
theorem OtherAt.worth (T : Txt K mg A) {x : Kp373.Aim} (h : OtherAt A H a x) : FldAt K H a "worth" (N x.worth) := by
  obtain ⟨dx, am, h1, h2⟩ := h
  exact fldAt_of h1 T.c_Other T.n_Other_worth (lk_2 (by decide +kernel))
theorem OtherAt.steps (T : Txt K mg A) {x : Kp373.Aim} (h : OtherAt A H a x) : FldAt K H a "steps" (N x.steps) := by
  obtain ⟨dx, am, h1, h2⟩ := h
  exact fldAt_of h1 T.c_Other T.n_Other_steps (lk_3 (by decide +kernel) (by decide +kernel))
theorem OtherAt.m {x : Kp373.Aim} {m : Str} (h : OtherAt A H a x) (h1 : (m == ("aim" : Str)) = false := by decide +kernel) (h2 : (m == ("worth" : Str)) = false := by decide +kernel) (h3 : (m == ("steps" : Str)) = false := by decide +kernel) : InsAt H a A.COther m := by
  obtain ⟨dx, am, h, _⟩ := h
  exact insAt_of h (lk_n3 h1 h2 h3)
end
theorem put1 {f1 : Str} {v1 : V} : putF f1 v1 [] = [(f1, v1)] := rfl
theorem put2 {f1 f2 : Str} {v1 v2 : V} (h12 : ¬ f1 = f2) : putF f2 v2 [(f1, v1)] = [(f1, v1), (f2, v2)] := (put_past h12).trans rfl
theorem put3 {f1 f2 f3 : Str} {v1 v2 v3 : V} (h13 : ¬ f1 = f3) (h23 : ¬ f2 = f3) : putF f3 v3 [(f1, v1), (f2, v2)] = [(f1, v1), (f2, v2), (f3, v3)] := (put_past h13).trans (congrArg _ (put2 h23))
theorem put4 {f1 f2 f3 f4 : Str} {v1 v2 v3 v4 : V} (h14 : ¬ f1 = f4) (h24 : ¬ f2 = f4) (h34 : ¬ f3 = f4) : putF f4 v4 [(f1, v1), (f2, v2), (f3, v3)] = [(f1, v1), (f2, v2), (f3, v3), (f4, v4)] := (put_past h14).trans (congrArg _ (put3 h24 h34))
/-- a store to a field of an instance, its value as it stands -/
theorem s_fld {K : PySem.W.Frag} {σ : L2.St} {H : Hp} {D : Ends} {i j : Nat} {f : Str} {a C dx : Addr} {fs gs : List (Str × V)} {v : V} (ho : σ[i]? = some (some (.ref a))) (hv : σ[j]? = some (some v)) (h : H a = some (.ins C dx fs)) (c : Cls K C) (n : NoAttr K C f) (hp : putF f v fs = gs) (k : D.nx σ (upd H a (.ins C dx gs))) (hl : fs.length < 1000 := by simp) :
    sFld K (tVar i) (tVar j) f D σ H := ⟨v, hv, .ref a, ho, a, C, dx, fs, rfl, h, c, n, hl, by rw [hp]; exact k⟩
/-- a new instance -/
theorem ev_make {R : Hp → Hp → Prop} [G : Good R] {σ : L2.St} {H : Hp} {t : TA} {C : Addr} {sp : Sp} {E : XK} {PA : List V → Hp → Prop} {P : Pr} (ha : EvA R t σ H PA)
    (hs : ∀ vs H1 x dx, R H H1 → PA vs H1 → H1 x = none → H1 dx = none → dx ≠ x → ∀ (Q : VK) (E : XK), (∀ H2, Same H1 H2 → P (.ref x) H2 → Q .non H2) → sp (.ref x :: vs) (upd (upd H1 dx (.own x)) x (.ins C dx [])) Q E) : Ev R (tMake C sp [] E t) σ H P := fun H1 e Q q =>
  ha H1 e _ fun us H2 e2 pa x dx nx nd ne => by
    have := hs us H2 x dx (G.trans e e2) pa nx nd ne (fun v H3 => v = .non ∧ Q (.ref x) H3) E fun H3 s p => ⟨rfl, q _ _ (G.ext e2 s) p⟩
    rw [← List.append_nil us] at this
    exact this
section
variable {R : Hp → Hp → Prop} [G : Good R] {K : PySem.W.Frag} {A : Ad} {H : Hp} {a : Addr}
/-- whether part is within whole -/
def sp_is_within (K : PySem.W.Frag) (A : Ad) : Sp := Sp2 fun a b H Q E => ∃ p q : Nat, a = N p ∧ b = N q ∧ ∀ H', Same H H' → Q (.bl (decide (p ||| q = q))) H'
theorem do_is_within {p q : Nat} (e : R H H) : Does R (sp_is_within K A) [N p, N q] H (Is (.bl (decide (p ||| q = q)))) := fun Q E k => ⟨_, _, rfl, p, q, rfl, rfl, fun H' s => k _ H' (G.ext e s) rfl⟩
def sp_Change_init (K : PySem.W.Frag) (A : Ad) : Sp := Sp5 fun s a b c d H Q E => ∃ (x dx : Addr) (e : Kp371.Deed), s = .ref x ∧ a = N e.needs ∧ b = N e.so ∧ c = N e.makes ∧ d = N e.thus ∧ H x = some (.ins A.CChange dx []) ∧
  ∀ H', ChangeAt A H' x e → (∀ b o, H b = some o → b ≠ x → H' b = some o) → Q .non H'
def sp_Change_is_one (K : PySem.W.Frag) (A : Ad) : Sp := Sp2 fun s m H Q E => ∃ (x : Addr) (e : Kp371.Deed) (w : Kp371.World), s = .ref x ∧ m = N (2 ^ w.m - 1) ∧ w.m ≤ 5 ∧ ChangeAt A H x e ∧ ∀ H', Same H H' → Q (.bl (Kp371.okDeed w e.needs e.so e.makes e.thus)) H'
theorem do_Change_is_one {e : Kp371.Deed} {w : Kp371.World} (r : R H H) (hm : w.m ≤ 5) (h : ChangeAt A H a e) : Does R (sp_Change_is_one K A) [.ref a, N (2 ^ w.m - 1)] H (Is (.bl (Kp371.okDeed w e.needs e.so e.makes e.thus))) := fun Q E k => ⟨_, _, rfl, a, e, w, rfl, rfl, hm, h, fun H' s => k _ H' (G.ext r s) rfl⟩
def sp_Change_is_let (K : PySem.W.Frag) (A : Ad) : Sp := Sp2 fun s m H Q E => ∃ (x : Addr) (e : Kp371.Deed) (n : Nat), s = .ref x ∧ m = N n ∧ ChangeAt A H x e ∧ ∀ H', Same H H' → Q (.bl (Kp371.able n e)) H'
theorem do_Change_is_let {e : Kp371.Deed} {n : Nat} (r : R H H) (h : ChangeAt A H a e) : Does R (sp_Change_is_let K A) [.ref a, N n] H (Is (.bl (Kp371.able n e))) := fun Q E k => ⟨_, _, rfl, a, e, n, rfl, rfl, h, fun H' s => k _ H' (G.ext r s) rfl⟩
def sp_Change_done (K : PySem.W.Frag) (A : Ad) : Sp := Sp2 fun s m H Q E => ∃ (x : Addr) (e : Kp371.Deed) (n : Nat), s = .ref x ∧ m = N n ∧ n < 32 ∧ e.makes < 32 ∧ ChangeAt A H x e ∧ ∀ H', Same H H' → Q (N (Kp371.done_ n e)) H'
theorem do_Change_done {e : Kp371.Deed} {n : Nat} (r : R H H) (hn : n < 32) (hm : e.makes < 32) (h : ChangeAt A H a e) : Does R (sp_Change_done K A) [.ref a, N n] H (Is (N (Kp371.done_ n e))) := fun Q E k => ⟨_, _, rfl, a, e, n, rfl, rfl, hn, hm, h, fun H' s => k _ H' (G.ext r s) rfl⟩
def sp_Aim_init (K : PySem.W.Frag) (A : Ad) : Sp := Sp3 fun s a b H Q E => ∃ (x dx : Addr) (f w : Nat), s = .ref x ∧ a = N f ∧ b = N w ∧ H x = some (.ins A.CAim dx []) ∧ ∀ H', AimAt A H' x f w → (∀ b o, H b = some o → b ≠ x → H' b = some o) → Q .non H'
def sp_Aim_is_one (K : PySem.W.Frag) (A : Ad) : Sp := Sp2 fun s m H Q E => ∃ (x : Addr) (f v : Nat) (w : Kp371.World), s = .ref x ∧ m = N (2 ^ w.m - 1) ∧ w.m ≤ 5 ∧ AimAt A H x f v ∧ ∀ H', Same H H' → Q (.bl (Kp371.okAim w f v)) H'
theorem do_Aim_is_one {f v : Nat} {w : Kp371.World} (r : R H H) (hm : w.m ≤ 5) (h : AimAt A H a f v) : Does R (sp_Aim_is_one K A) [.ref a, N (2 ^ w.m - 1)] H (Is (.bl (Kp371.okAim w f v))) := fun Q E k => ⟨_, _, rfl, a, f, v, w, rfl, rfl, hm, h, fun H' s => k _ H' (G.ext r s) rfl⟩
def sp_Aim_is_so (K : PySem.W.Frag) (A : Ad) : Sp := Sp2 fun s m H Q E => ∃ (x : Addr) (f v n : Nat), s = .ref x ∧ m = N n ∧ AimAt A H x f v ∧ ∀ H', Same H H' → Q (.bl (Kp371.isAim f v n)) H'
theorem do_Aim_is_so {f v n : Nat} (r : R H H) (h : AimAt A H a f v) : Does R (sp_Aim_is_so K A) [.ref a, N n] H (Is (.bl (Kp371.isAim f v n))) := fun Q E k => ⟨_, _, rfl, a, f, v, n, rfl, rfl, h, fun H' s => k _ H' (G.ext r s) rfl⟩
def sp_Other_init (K : PySem.W.Frag) (A : Ad) : Sp := Sp4 fun s a b c H Q E => ∃ (x dx am : Addr) (y : Kp373.Aim), s = .ref x ∧ a = .ref am ∧ b = N y.worth ∧ c = N y.steps ∧ H x = some (.ins A.COther dx []) ∧ AimAt A H am y.a y.w ∧ ∀ H', OtherAt A H' x y → (∀ b o, H b = some o → b ≠ x → H' b = some o) → Q .non H'
def sp_Other_told (K : PySem.W.Frag) (A : Ad) : Sp := Sp1 fun s H Q E => ∃ (x : Addr) (y : Kp373.Aim), s = .ref x ∧ OtherAt A H x y ∧ ∀ p H', Same H H' → H p = none → H' p = some (.lst [N y.a, N y.w, N y.worth, N y.steps]) → Q (.ref p) H'
def sp_Other_is_like (K : PySem.W.Frag) (A : Ad) : Sp := Sp2 fun s m H Q E => ∃ (x z : Addr) (y u : Kp373.Aim), s = .ref x ∧ m = .ref z ∧ OtherAt A H x y ∧ OtherAt A H z u ∧ ∀ H', Same H H' → Q (.bl (u.a == y.a && u.w == y.w && u.steps == y.steps)) H'
theorem do_Other_is_like {z : Addr} {y u : Kp373.Aim} (r : R H H) (h : OtherAt A H a y) (h2 : OtherAt A H z u) : Does R (sp_Other_is_like K A) [.ref a, .ref z] H (Is (.bl (u.a == y.a && u.w == y.w && u.steps == y.steps))) := fun Q E k => ⟨_, _, rfl, a, z, y, u, rfl, rfl, h, h2, fun H' s => k _ H' (G.ext r s) rfl⟩
end
section
variable {P : Program} {w : World} {K : PySem.W.Frag} {mg : Str → Option Value} {base : Heap} {A : Ad}
theorem sc_is_within : FnScope ["part", "whole"] ["part", "whole"] (defScope (top 2)) := ⟨rfl, rfl, rfl, by decide +kernel, rfl, by decide +kernel, by decide +kernel⟩
theorem ok_is_within (T : Txt K mg A) : FnOk P w K mg base CX0 1 A.f_is_within A.d_is_within ["part", "whole"] (sp_is_within K A) := by
  refine T.F_is_within.ok sc_is_within (fun vs H Q E h => sp2_len h) (fun cdv Ar outer s H vs Q E hr h => ⟨_,
      (pss_one (ps_ret (pe_cmpR op_eq (pe_op op_or (pv 0) (pv 1)) (pv 1) (nomark _)))), ?_⟩)
  obtain ⟨_, _, rfl, p, q, rfl, rfl, k⟩ := h
  refine s_ret (R := Same) (P := Is (.bl (decide (p ||| q = q)))) (Same.refl _) ?_ (fun v H1 s e => by cases e; exact k H1 s)
  refine (ev_eq (ev_I0 (ev_var rfl) (ev_var rfl)) (ev_var rfl) rfl).is ?_
  rw [bor]
  exact congrArg V.bl (vint_eq _ _)
theorem sc_Change_init : FnScope ["self", "asked", "so", "touched", "made"] ["self", "asked", "so", "touched", "made"] (defScope (inClass (top 3) 0)) := ⟨rfl, rfl, rfl, by decide +kernel, rfl, by decide +kernel, by decide +kernel⟩
theorem ok_Change_init (T : Txt K mg A) : FnOk P w K mg base CX0 1 A.f_Change_init A.d_Change_init ["self", "asked", "so", "touched", "made"] (sp_Change_init K A) := by
  refine T.F_Change_init.ok sc_Change_init (fun vs H Q E h => sp5_len h) (fun cdv Ar outer s H vs Q E hr h => ⟨_,
      (pss_cons (ps_fld (pv 0) (pv 1) rfl)
      (pss_cons (ps_fld (pv 0) (pv 2) rfl)
      (pss_cons (ps_fld (pv 0) (pv 3) rfl)
      (pss_one (ps_fld (pv 0) (pv 4) rfl))))), ?_⟩)
  obtain ⟨_, _, _, _, _, rfl, x, dx, e, rfl, rfl, rfl, rfl, rfl, hx, k⟩ := h
  refine s_fld rfl rfl hx T.c_Change T.n_Change_asked put1 ?_
  refine s_fld rfl rfl upd_same T.c_Change T.n_Change_so (put2 (by decide +kernel)) ?_
  refine s_fld rfl rfl upd_same T.c_Change T.n_Change_touched (put3 (by decide +kernel) (by decide +kernel)) ?_
  refine s_fld rfl rfl upd_same T.c_Change T.n_Change_made (put4 (by decide +kernel) (by decide +kernel) (by decide +kernel)) ?_
  exact k _ ⟨dx, upd_same⟩ fun b o q hb => by
    rw [upd_ne hb, upd_ne hb, upd_ne hb, upd_ne hb]
    exact q
theorem sc_Change_is_one : FnScope ["self", "every"] ["self", "every"] (defScope (inClass (top 3) 1)) := ⟨rfl, rfl, rfl, by decide +kernel, rfl, by decide +kernel, by decide +kernel⟩
theorem ok_Change_is_one (T : Txt K mg A) : FnOk P w K mg base CX0 2 A.f_Change_is_one A.d_Change_is_one ["self", "every"] (sp_Change_is_one K A) := by
  refine T.F_Change_is_one.ok sc_Change_is_one (fun vs H Q E h => sp2_len h) (fun cdv Ar outer s H vs Q E hr h => ⟨_,
      (pss_cons (ps_if (PW.pt (pw_or (pt_not (pt_val (pe_call (ok_is_within T) (hr.mono (by decide)) rfl T.g_is_within T.F_is_within.kp T.b_is_within .nil pass0 (pa_cons (pe_fld (pv 0) rfl) (pa_cons (pv 1) pa_nil))))) (pw_or (pt_not (pt_val (pe_call (ok_is_within T) (hr.mono (by decide)) rfl T.g_is_within T.F_is_within.kp T.b_is_within .nil pass0 (pa_cons (pe_fld (pv 0) rfl) (pa_cons (pv 1) pa_nil))))) (pw_or1 (pt_cmpR op_eq (pe_fld (pv 0) rfl) pe_int (nomark _))))))
        (pss_one (ps_ret pe_bl)) pss_nil)
      (pss_one (ps_ret (pe_and (pe_call (ok_is_within T) (hr.mono (by decide)) rfl T.g_is_within T.F_is_within.kp T.b_is_within .nil pass0 (pa_cons (pe_fld (pv 0) rfl) (pa_cons (pe_fld (pv 0) rfl) pa_nil))) (pe_one (pe_call (ok_is_within T) (hr.mono (by decide)) rfl T.g_is_within T.F_is_within.kp T.b_is_within .nil pass0 (pa_cons (pe_fld (pv 0) rfl) (pa_cons (pe_fld (pv 0) rfl) pa_nil)))))))), ?_⟩)
  obtain ⟨_, _, rfl, x, e, w', rfl, rfl, hm, hx, k⟩ := h
  have wi : ∀ {H1 : Hp} {f g : Str} {p q : Nat} {ta tb : TE} {σ : L2.St} {E : XK}, Ev Same ta σ H1 (Is (N p)) → Ev Same tb σ H1 (Is (N q)) → Ev Same (tCall (sp_is_within K A) [] E (tCons ta (tCons tb tNil))) σ H1 (Is (.bl (decide (p ||| q = q)))) := fun ha hb =>
    ev_call (ea_cons ha (ea_cons hb ea_nil)) fun H1 _ => do_is_within (Same.refl _)
  have b1 : decide (e.needs ||| (2 ^ w'.m - 1) = 2 ^ w'.m - 1) = decide (e.needs < 2 ^ w'.m) := decide_eq_decide.mpr (KpM.within_iff hm)
  have b2 : decide (e.makes ||| (2 ^ w'.m - 1) = 2 ^ w'.m - 1) = decide (e.makes < 2 ^ w'.m) := decide_eq_decide.mpr (KpM.within_iff hm)
  have b3 : decide (e.so ||| e.needs = e.needs) = ((e.so &&& e.needs) == e.so) := by rw [Bool.beq_eq_decide_eq]; exact decide_eq_decide.mpr KpM.or_and_iff
  have b4 : decide (e.thus ||| e.makes = e.makes) = ((e.thus &&& e.makes) == e.thus) := by rw [Bool.beq_eq_decide_eq]; exact decide_eq_decide.mpr KpM.or_and_iff
  refine s_if (R := Same) (b := (!decide (e.needs < 2 ^ w'.m)) || ((!decide (e.makes < 2 ^ w'.m)) || decide (e.makes = 0))) (Same.refl _) (et_or (et_not (et_B ((wi (f := "") (g := "") (ev_fld (ev_var rfl) (hx.asked T)) (ev_var rfl)).is (congrArg V.bl b1)))) fun _ =>
    et_or (et_not (et_B ((wi (f := "") (g := "") (ev_fld (ev_var rfl) (hx.touched T)) (ev_var rfl)).is (congrArg V.bl b2)))) fun _ => et_test ((ev_eq (ev_fld (ev_var rfl) (hx.touched T)) ev_c rfl).is (congrArg V.bl (vint_eq e.makes 0)))) (fun hb H1 s1 => ?_) (fun hb H1 s1 => ?_)
  · refine s_ret (R := Same) (P := Is (.bl false)) (Same.refl _) ev_c (fun v H2 s2 ev => ?_)
    cases ev
    have : Kp371.okDeed w' e.needs e.so e.makes e.thus = false := by
      unfold Kp371.okDeed
      simp only [Bool.or_eq_true, Bool.not_eq_true', decide_eq_false_iff_not, decide_eq_true_eq] at hb
      rcases hb with hb | hb | hb
      · rw [decide_eq_false hb]
        rfl
      · rw [decide_eq_false hb]
        simp
      · simp [hb]
    rw [← this]
    exact k H2 (s1.trans s2)
  · have hx1 := hx.keep s1
    refine s_ret (R := Same) (P := Is (.bl (((e.so &&& e.needs) == e.so) && ((e.thus &&& e.makes) == e.thus)))) (Same.refl _) (ev_and ((wi (f := "") (g := "") (ev_fld (ev_var rfl) (hx1.so T)) (ev_fld (ev_var rfl) (hx1.asked T))).is (congrArg V.bl b3)) fun _ => (wi (f := "") (g := "") (ev_fld (ev_var rfl) (hx1.made T)) (ev_fld (ev_var rfl) (hx1.touched T))).is (congrArg V.bl b4)) (fun v H2 s2 ev => ?_)
    cases ev
    have : Kp371.okDeed w' e.needs e.so e.makes e.thus = (((e.so &&& e.needs) == e.so) && ((e.thus &&& e.makes) == e.thus)) := by
      unfold Kp371.okDeed
      simp only [Bool.or_eq_false_iff, Bool.not_eq_false', decide_eq_true_eq, decide_eq_false_iff_not] at hb
      obtain ⟨h1, h2, h3⟩ := hb
      rw [decide_eq_true h1, decide_eq_true h2, decide_eq_true h3]
      simp
    rw [← this]
    exact k H2 (s1.trans s2)
theorem sc_Change_is_let : FnScope ["self", "state"] ["self", "state"] (defScope (inClass (top 3) 2)) := ⟨rfl, rfl, rfl, by decide +kernel, rfl, by decide +kernel, by decide +kernel⟩
theorem ok_Change_is_let (T : Txt K mg A) : FnOk P w K mg base CX0 1 A.f_Change_is_let A.d_Change_is_let ["self", "state"] (sp_Change_is_let K A) := by
  refine T.F_Change_is_let.ok sc_Change_is_let (fun vs H Q E h => sp2_len h) (fun cdv Ar outer s H vs Q E hr h => ⟨_,
      (pss_one (ps_ret (pe_cmpR op_eq (pe_op op_and (pv 1) (pe_fld (pv 0) rfl)) (pe_fld (pv 0) rfl) (nomark _)))), ?_⟩)
  obtain ⟨_, _, rfl, x, e, n, rfl, rfl, hx, k⟩ := h
  refine s_ret (R := Same) (P := Is (.bl (Kp371.able n e))) (Same.refl _) ?_ (fun v H1 s ev => by cases ev; exact k H1 s)
  refine (ev_eq (ev_I0 (ev_var rfl) (ev_fld (ev_var rfl) (hx.asked T))) (ev_fld (ev_var rfl) (hx.so T)) rfl).is ?_
  rw [band]
  refine congrArg V.bl ((vint_eq _ _).trans ?_)
  unfold Kp371.able
  rw [Bool.beq_eq_decide_eq]
theorem sc_Change_done : FnScope ["self", "state"] ["self", "state"] (defScope (inClass (top 3) 3)) := ⟨rfl, rfl, rfl, by decide +kernel, rfl, by decide +kernel, by decide +kernel⟩
theorem ok_Change_done (T : Txt K mg A) : FnOk P w K mg base CX0 1 A.f_Change_done A.d_Change_done ["self", "state"] (sp_Change_done K A) := by
  refine T.F_Change_done.ok sc_Change_done (fun vs H Q E h => sp2_len h) (fun cdv Ar outer s H vs Q E hr h => ⟨_,
      (pss_one (ps_ret (pe_op op_or (pe_op op_xor (pe_op op_or (pv 1) (pe_fld (pv 0) rfl)) (pe_fld (pv 0) rfl)) (pe_fld (pv 0) rfl)))), ?_⟩)
  obtain ⟨_, _, rfl, x, e, n, rfl, rfl, hn, hm, hx, k⟩ := h
  refine s_ret (R := Same) (P := Is (N (Kp371.done_ n e))) (Same.refl _) ?_ (fun v H1 s ev => by cases ev; exact k H1 s)
  refine (ev_I0 (ev_I0 (ev_I0 (ev_var rfl) (ev_fld (ev_var rfl) (hx.touched T))) (ev_fld (ev_var rfl) (hx.touched T))) (ev_fld (ev_var rfl) (hx.made T))).is ?_
  rw [bor, bxor, bor, KpM.xor_sub n e.makes hn hm]
  rfl
theorem sc_Aim_init : FnScope ["self", "facts", "so"] ["self", "facts", "so"] (defScope (inClass (top 6) 0)) := ⟨rfl, rfl, rfl, by decide +kernel, rfl, by decide +kernel, by decide +kernel⟩
theorem ok_Aim_init (T : Txt K mg A) : FnOk P w K mg base CX0 1 A.f_Aim_init A.d_Aim_init ["self", "facts", "so"] (sp_Aim_init K A) := by
  refine T.F_Aim_init.ok sc_Aim_init (fun vs H Q E h => sp3_len h) (fun cdv Ar outer s H vs Q E hr h => ⟨_,
      (pss_cons (ps_fld (pv 0) (pv 1) rfl)
      (pss_one (ps_fld (pv 0) (pv 2) rfl))), ?_⟩)
  obtain ⟨_, _, _, rfl, x, dx, f, w', rfl, rfl, rfl, hx, k⟩ := h
  refine s_fld rfl rfl hx T.c_Aim T.n_Aim_facts put1 ?_
  refine s_fld rfl rfl upd_same T.c_Aim T.n_Aim_so (put2 (by decide +kernel)) ?_
  exact k _ ⟨dx, upd_same⟩ fun b o q hb => by
    rw [upd_ne hb, upd_ne hb]
    exact q
theorem sc_Aim_is_one : FnScope ["self", "every"] ["self", "every"] (defScope (inClass (top 6) 1)) := ⟨rfl, rfl, rfl, by decide +kernel, rfl, by decide +kernel, by decide +kernel⟩
theorem ok_Aim_is_one (T : Txt K mg A) : FnOk P w K mg base CX0 2 A.f_Aim_is_one A.d_Aim_is_one ["self", "every"] (sp_Aim_is_one K A) := by
  refine T.F_Aim_is_one.ok sc_Aim_is_one (fun vs H Q E h => sp2_len h) (fun cdv Ar outer s H vs Q E hr h => ⟨_,
      (pss_one (ps_ret (pe_and (pe_call (ok_is_within T) (hr.mono (by decide)) rfl T.g_is_within T.F_is_within.kp T.b_is_within .nil pass0 (pa_cons (pe_fld (pv 0) rfl) (pa_cons (pv 1) pa_nil))) (pe_one (pe_call (ok_is_within T) (hr.mono (by decide)) rfl T.g_is_within T.F_is_within.kp T.b_is_within .nil pass0 (pa_cons (pe_fld (pv 0) rfl) (pa_cons (pe_fld (pv 0) rfl) pa_nil))))))), ?_⟩)
  obtain ⟨_, _, rfl, x, f, v, w', rfl, rfl, hm, hx, k⟩ := h
  have b1 : decide (f ||| (2 ^ w'.m - 1) = 2 ^ w'.m - 1) = decide (f < 2 ^ w'.m) := decide_eq_decide.mpr (KpM.within_iff hm)
  have b3 : decide (v ||| f = f) = ((v &&& f) == v) := by rw [Bool.beq_eq_decide_eq]; exact decide_eq_decide.mpr KpM.or_and_iff
  refine s_ret (R := Same) (P := Is (.bl (Kp371.okAim w' f v))) (Same.refl _) ?_ (fun v H1 s ev => by cases ev; exact k H1 s)
  exact ev_and ((ev_call (ea_cons (ev_fld (ev_var rfl) (hx.facts T)) (ea_cons (ev_var rfl) ea_nil)) fun H1 _ => do_is_within (Same.refl _)).is (congrArg V.bl b1)) fun _ => (ev_call (ea_cons (ev_fld (ev_var rfl) (hx.so T)) (ea_cons (ev_fld (ev_var rfl) (hx.facts T)) ea_nil)) fun H1 _ => do_is_within (Same.refl _)).is (congrArg V.bl b3)
theorem sc_Aim_is_so : FnScope ["self", "state"] ["self", "state"] (defScope (inClass (top 6) 2)) := ⟨rfl, rfl, rfl, by decide +kernel, rfl, by decide +kernel, by decide +kernel⟩
theorem ok_Aim_is_so (T : Txt K mg A) : FnOk P w K mg base CX0 1 A.f_Aim_is_so A.d_Aim_is_so ["self", "state"] (sp_Aim_is_so K A) := by
  refine T.F_Aim_is_so.ok sc_Aim_is_so (fun vs H Q E h => sp2_len h) (fun cdv Ar outer s H vs Q E hr h => ⟨_,
      (pss_one (ps_ret (pe_cmpR op_eq (pe_op op_and (pv 1) (pe_fld (pv 0) rfl)) (pe_fld (pv 0) rfl) (nomark _)))), ?_⟩)
  obtain ⟨_, _, rfl, x, f, v, n, rfl, rfl, hx, k⟩ := h
  refine s_ret (R := Same) (P := Is (.bl (Kp371.isAim f v n))) (Same.refl _) ?_ (fun v H1 s ev => by cases ev; exact k H1 s)
  refine (ev_eq (ev_I0 (ev_var rfl) (ev_fld (ev_var rfl) (hx.facts T))) (ev_fld (ev_var rfl) (hx.so T)) rfl).is ?_
  rw [band]
  refine congrArg V.bl ((vint_eq _ _).trans ?_)
  unfold Kp371.isAim
  rw [Bool.beq_eq_decide_eq]
theorem sc_Other_init : FnScope ["self", "aim", "worth", "steps"] ["self", "aim", "worth", "steps"] (defScope (inClass (top 7) 0)) := ⟨rfl, rfl, rfl, by decide +kernel, rfl, by decide +kernel, by decide +kernel⟩
theorem ok_Other_init (T : Txt K mg A) : FnOk P w K mg base CX0 1 A.f_Other_init A.d_Other_init ["self", "aim", "worth", "steps"] (sp_Other_init K A) := by
  refine T.F_Other_init.ok sc_Other_init (fun vs H Q E h => sp4_len h) (fun cdv Ar outer s H vs Q E hr h => ⟨_,
      (pss_cons (ps_fld (pv 0) (pv 1) rfl)
      (pss_cons (ps_fld (pv 0) (pv 2) rfl)
      (pss_one (ps_fld (pv 0) (pv 3) rfl)))), ?_⟩)
  obtain ⟨_, _, _, _, rfl, x, dx, am, y, rfl, rfl, rfl, rfl, hx, ha, k⟩ := h
  refine s_fld rfl rfl hx T.c_Other T.n_Other_aim put1 ?_
  refine s_fld rfl rfl upd_same T.c_Other T.n_Other_worth (put2 (by decide +kernel)) ?_
  refine s_fld rfl rfl upd_same T.c_Other T.n_Other_steps (put3 (by decide +kernel) (by decide +kernel)) ?_
  have st : ∀ b o, H b = some o → b ≠ x → (upd (upd (upd H x (.ins A.COther dx [("aim", .ref am)])) x (.ins A.COther dx [("aim", .ref am), ("worth", N y.worth)])) x (.ins A.COther dx [("aim", .ref am), ("worth", N y.worth), ("steps", N y.steps)])) b = some o := fun b o q hb => by
    rw [upd_ne hb, upd_ne hb, upd_ne hb]
    exact q
  obtain ⟨dm, hm⟩ := ha
  refine k _ ⟨dx, am, upd_same, dm, st _ _ hm fun z => ?_⟩ st
  rw [z, hx] at hm
  have := HO.ins.inj (Option.some.inj hm)
  cases this.2.2
theorem sc_Other_told : FnScope ["self"] ["self"] (defScope (inClass (top 7) 1)) := ⟨rfl, rfl, rfl, by decide +kernel, rfl, by decide +kernel, by decide +kernel⟩
theorem ok_Other_told (T : Txt K mg A) : FnOk P w K mg base CX0 1 A.f_Other_told A.d_Other_told ["self"] (sp_Other_told K A) := by
  refine T.F_Other_told.ok sc_Other_told (fun vs H Q E h => sp1_len h) (fun cdv Ar outer s H vs Q E hr h => ⟨_,
      (pss_one (ps_ret (pe_lst (pa_cons (pe_fld (pe_fld (pv 0) rfl) rfl) (pa_cons (pe_fld (pe_fld (pv 0) rfl) rfl) (pa_cons (pe_fld (pv 0) rfl) (pa_cons (pe_fld (pv 0) rfl) pa_nil))))))), ?_⟩)
  obtain ⟨_, rfl, x, y, rfl, hx, k⟩ := h
  obtain ⟨am, ha, hm⟩ := hx.aim T
  refine s_ret (R := Same) (P := fun v H' => ∃ p, v = .ref p ∧ H p = none ∧ H' p = some (.lst [N y.a, N y.w, N y.worth, N y.steps])) (Same.refl _) ?_ (fun v H1 s ⟨p, ev, n, hp⟩ => by cases ev; exact k p H1 s n hp)
  intro H1 e1 Q' q'
  refine ea_cons (ev_fld (ev_fld (ev_var rfl) ha) (hm.facts T)) (ea_cons (ev_fld (ev_fld (ev_var rfl) ha) (hm.so T)) (ea_cons (ev_fld (ev_var rfl) (hx.worth T)) (ea_cons (ev_fld (ev_var rfl) (hx.steps T)) ea_nil))) H1 e1 _ fun us H2 e2 eu => ?_
  cases eu
  exact ⟨by show 4 ≤ sizeLine; decide, fun p hp => q' _ _ (e2.trans fun b o z => by rw [upd_ne (ne_of_none z hp)]; exact z) ⟨p, rfl, (e1.trans e2).free hp, upd_same⟩⟩
theorem sc_Other_is_like : FnScope ["self", "other", "mine", "yours"] ["self", "other"] (defScope (inClass (top 7) 2)) := ⟨rfl, rfl, rfl, by decide +kernel, rfl, by decide +kernel, by decide +kernel⟩
theorem ok_Other_is_like (T : Txt K mg A) : FnOk P w K mg base CX0 1 A.f_Other_is_like A.d_Other_is_like ["self", "other"] (sp_Other_is_like K A) := by
  refine T.F_Other_is_like.ok sc_Other_is_like (fun vs H Q E h => sp2_len h) (fun cdv Ar outer s H vs Q E hr h => ⟨_,
      (pss_cons (ps_par (i := 2) (j := 3) (by rfl) sc_Other_is_like.nd rfl rfl (by decide) rfl rfl (pa_cons (pe_tup (pa_cons (pe_fld (pe_fld (pv 0) rfl) rfl) (pa_cons (pe_fld (pe_fld (pv 0) rfl) rfl) (pa_cons (pe_fld (pv 0) rfl) pa_nil)))) (pa_cons (pe_tup (pa_cons (pe_fld (pe_fld (pv 1) rfl) rfl) (pa_cons (pe_fld (pe_fld (pv 1) rfl) rfl) (pa_cons (pe_fld (pv 1) rfl) pa_nil)))) pa_nil)) (by rfl))
      (pss_one (ps_ret (pe_cmpR (op_eqD hr.units) (pv 2) (pv 3) (nomark _))))), ?_⟩)
  obtain ⟨_, _, rfl, x, z, y, u, rfl, rfl, hx, hz, k⟩ := h
  obtain ⟨am, ha, hm⟩ := hx.aim T
  obtain ⟨an, hn, hk⟩ := hz.aim T
  refine s_par (R := Same) (Same.refl _) (ea_consN (P := IsT [N y.a, N y.w, N y.steps]) (PA := fun vs H' => ∃ p q, vs = [.ref p, .ref q] ∧ H' p = some (.tup [N y.a, N y.w, N y.steps]) ∧ H' q = some (.tup [N u.a, N u.w, N u.steps]))
    (ev_tupC (ea_cons (ev_fld (ev_fld (ev_var rfl) ha) (hm.facts T)) (ea_cons (ev_fld (ev_fld (ev_var rfl) ha) (hm.so T)) (ea_cons (ev_fld (ev_var rfl) (hx.steps T)) ea_nil))) (by simp)) (fun v H1 s1 ⟨p, ev, hp⟩ => ?_)) (fun vs H1 s1 ⟨p, q, ev, hp, hq⟩ => ⟨.ref p, .ref q, ev, ?_⟩)
  · refine ea_consN (R := Same) (P := IsT [N u.a, N u.w, N u.steps]) ((ev_tupC (ea_cons (ev_fld (ev_fld (ev_var rfl) hn) (hk.facts T)) (ea_cons (ev_fld (ev_fld (ev_var rfl) hn) (hk.so T)) (ea_cons (ev_fld (ev_var rfl) (hz.steps T)) ea_nil))) (by simp)).mono s1) (fun v2 H2 s2 ⟨q, ev2, hq⟩ => ?_)
    intro H3 s3 Q3 q3
    exact q3 _ H3 (Same.refl _) ⟨p, q, by rw [ev, ev2], s3 _ _ (s2 _ _ hp), s3 _ _ hq⟩
  refine ⟨_, rfl, _, rfl, ?_⟩
  have dp : ∀ {r : Addr} {a b c : Nat}, H1 r = some (.tup [N a, N b, N c]) → Dp K H1 (.ref r) (.tuple [.int a, .int b, .int c]) := fun hr => .tup (SqT.of hr) (.cons (.int _) (.cons (.int _) (.cons (.int _) .nil)))
  refine ⟨_, _, dp hp, dp hq, rfl, rfl, ?_⟩
  have e : PyData.eqv (.tuple [.int y.a, .int y.w, .int y.steps]) (.tuple [.int u.a, .int u.w, .int u.steps]) = (u.a == y.a && u.w == y.w && u.steps == y.steps) := by
    show ((((y.a : Nat) : Int) == ((u.a : Nat) : Int)) && ((((y.w : Nat) : Int) == ((u.w : Nat) : Int)) && ((((y.steps : Nat) : Int) == ((u.steps : Nat) : Int)) && true))) = _
    rw [Bool.eq_iff_iff]
    simp only [Bool.and_eq_true, beq_iff_eq]
    constructor
    · rintro ⟨h1, h2, h3, _⟩
      exact ⟨⟨by omega, by omega⟩, by omega⟩
    · rintro ⟨⟨h1, h2⟩, h3⟩
      exact ⟨by omega, by omega, by omega, trivial⟩
  rw [e]
  exact k H1 s1
end
end Kw
set_option maxRecDepth 100000
set_option maxHeartbeats 400000
namespace Kw
open PySem PySem.Spec PyProof.Rows L2
section
variable {K : PySem.W.Frag} {mg : Str → Option Value} {A : Ad} {H : Hp} {a wa da ea : Addr} {w : Kp371.World}
theorem WorldAt.every (T : Txt K mg A) (h : WorldAt A H wa da ea w) : FldAt K H wa "every" (N (2 ^ w.m - 1)) := h.ob.elim fun _ h => fldAt_of h T.c_World T.n_World_every lk_here
theorem WorldAt.fdeeds (T : Txt K mg A) (h : WorldAt A H wa da ea w) : FldAt K H wa "deeds" (.ref da) := h.ob.elim fun _ h => fldAt_of h T.c_World T.n_World_deeds (lk_2 (by decide +kernel))
theorem WorldAt.fevents (T : Txt K mg A) (h : WorldAt A H wa da ea w) : FldAt K H wa "events" (.ref ea) := h.ob.elim fun _ h => fldAt_of h T.c_World T.n_World_events (lk_3 (by decide +kernel) (by decide +kernel))
theorem WorldAt.fstate (T : Txt K mg A) (h : WorldAt A H wa da ea w) : FldAt K H wa "state" (N w.now) := h.ob.elim fun _ h => fldAt_of h T.c_World T.n_World_state (lk_4 (by decide +kernel) (by decide +kernel) (by decide +kernel))
theorem WorldAt.m {m : Str} (h : WorldAt A H wa da ea w) (h1 : (m == ("every" : Str)) = false := by decide +kernel) (h2 : (m == ("deeds" : Str)) = false := by decide +kernel) (h3 : (m == ("events" : Str)) = false := by decide +kernel) (h4 : (m == ("state" : Str)) = false := by decide +kernel) : InsAt H wa A.CWorld m := h.ob.elim fun _ h => insAt_of h (lk_n4 h1 h2 h3 h4)
end
/-- a list of pairs -/
def PairsAt (H : Hp) (p : Addr) (ps : List (Nat × Nat)) : Prop := ∃ vs, H p = some (.lst vs) ∧ ListAt (fun t (x : Nat × Nat) => H t = some (.tup [N x.1, N x.2])) vs ps
theorem pairs_of {s : Kp371.World} {n : Nat} {H : Hp} {ys : List V} (h : El (KpM.letBy s n) (fun i v H => ∃ t, v = .ref t ∧ H t = some (.tup [N i, N (KpM.stepTo s n i)])) (s.deeds.length + 1) ys H) : ListAt (fun t (x : Nat × Nat) => H t = some (.tup [N x.1, N x.2])) ys (KpM.foll s n) := by
  unfold KpM.foll Kp371.choices
  refine ⟨by rw [h.1, List.length_map], fun k x e => ?_⟩
  rw [List.getElem?_map] at e
  cases hk : ((List.range (s.deeds.length + 1)).filter (KpM.letBy s n))[k]? with
  | none =>
    rw [hk] at e
    cases e
  | some i =>
    rw [hk] at e
    have ex : (i, KpM.stepTo s n i) = x := Option.some.inj e
    have hl := (List.getElem?_eq_some_iff.mp hk).1
    have hy : ys[k]? = some (ys[k]'(by rw [h.1]; exact hl)) := List.getElem?_eq_getElem _
    obtain ⟨t, et, ht⟩ := h.2 k i _ hk hy
    refine ⟨t, by rw [hy, et], ?_⟩
    rw [← ex]
    exact ht
section
variable {R : Hp → Hp → Prop} [G : Good R] {K : PySem.W.Frag} {A : Ad} {H : Hp} {wa da ea : Addr} {w : Kp371.World}
def sp_World_init (K : PySem.W.Frag) (A : Ad) : Sp := Sp2 fun s m H Q E => ∃ (x dx : Addr) (n : Nat), s = .ref x ∧ m = N n ∧ n ≤ 5 ∧ H x = some (.ins A.CWorld dx []) ∧
  ∀ H' da ea, WorldAt A H' x da ea ⟨n, [], [], 0⟩ → H da = none → H ea = none → da ≠ ea → (∀ b o, H b = some o → b ≠ x → H' b = some o) → Q .non H'
def sp_World_waiting (K : PySem.W.Frag) (A : Ad) : Sp := Sp1 fun s H Q E => ∃ (wa da ea : Addr) (w : Kp371.World), s = .ref wa ∧ WorldAt A H wa da ea w ∧ ∀ H', Same H H' → Q (N w.deeds.length) H'
theorem do_World_waiting (r : R H H) (h : WorldAt A H wa da ea w) : Does R (sp_World_waiting K A) [.ref wa] H (Is (N w.deeds.length)) := fun Q E k => ⟨_, rfl, wa, da, ea, w, rfl, h, fun H' s => k _ H' (G.ext r s) rfl⟩
def sp_World_choices (K : PySem.W.Frag) (A : Ad) : Sp := Sp1 fun s H Q E => ∃ (wa da ea : Addr) (w : Kp371.World), s = .ref wa ∧ WorldAt A H wa da ea w ∧ w.deeds.length ≤ 6 ∧ ∀ p H', Same H H' → H' p = some (.lst (Ns (Kp371.choices w))) → Q (.ref p) H'
theorem do_World_choices (r : R H H) (h : WorldAt A H wa da ea w) (hn : w.deeds.length ≤ 6) : Does R (sp_World_choices K A) [.ref wa] H (IsL (Ns (Kp371.choices w))) := fun Q E k => ⟨_, rfl, wa, da, ea, w, rfl, h, hn, fun p H' s e => k _ H' (G.ext r s) ⟨p, rfl, e⟩⟩
def sp_World_is_state (K : PySem.W.Frag) (A : Ad) : Sp := Sp2 fun s m H Q E => ∃ (wa da ea : Addr) (w : Kp371.World) (n : Nat), s = .ref wa ∧ m = N n ∧ WorldAt A H wa da ea w ∧ ∀ H', Same H H' → Q (.bl (decide (n < 2 ^ w.m))) H'
theorem do_World_is_state {n : Nat} (r : R H H) (h : WorldAt A H wa da ea w) : Does R (sp_World_is_state K A) [.ref wa, N n] H (Is (.bl (decide (n < 2 ^ w.m)))) := fun Q E k => ⟨_, _, rfl, wa, da, ea, w, n, rfl, rfl, h, fun H' s => k _ H' (G.ext r s) rfl⟩
def sp_World_is_let (K : PySem.W.Frag) (A : Ad) : Sp := Sp3 fun s m c H Q E => ∃ (wa da ea : Addr) (w : Kp371.World) (n i : Nat), s = .ref wa ∧ m = N n ∧ c = N i ∧ WorldAt A H wa da ea w ∧ i ≤ w.deeds.length ∧ ∀ H', Same H H' → Q (.bl (KpM.letBy w n i)) H'
theorem do_World_is_let {n i : Nat} (r : R H H) (h : WorldAt A H wa da ea w) (hi : i ≤ w.deeds.length) : Does R (sp_World_is_let K A) [.ref wa, N n, N i] H (Is (.bl (KpM.letBy w n i))) := fun Q E k => ⟨_, _, _, rfl, wa, da, ea, w, n, i, rfl, rfl, rfl, h, hi, fun H' s => k _ H' (G.ext r s) rfl⟩
def sp_World_behind (K : PySem.W.Frag) (A : Ad) : Sp := Sp3 fun s m c H Q E => ∃ (wa da ea : Addr) (w : Kp371.World) (n i : Nat), s = .ref wa ∧ m = N n ∧ c = N i ∧ WorldAt A H wa da ea w ∧ KpM.OkW w ∧ n < 2 ^ w.m ∧ i ≤ w.deeds.length ∧ ∀ H', Same H H' → Q (N (KpM.stepTo w n i)) H'
theorem do_World_behind {n i : Nat} (r : R H H) (h : WorldAt A H wa da ea w) (ok : KpM.OkW w) (hn : n < 2 ^ w.m) (hi : i ≤ w.deeds.length) : Does R (sp_World_behind K A) [.ref wa, N n, N i] H (Is (N (KpM.stepTo w n i))) := fun Q E k => ⟨_, _, _, rfl, wa, da, ea, w, n, i, rfl, rfl, rfl, h, ok, hn, hi, fun H' s => k _ H' (G.ext r s) rfl⟩
def sp_World_followers (K : PySem.W.Frag) (A : Ad) : Sp := Sp2 fun s m H Q E => ∃ (wa da ea : Addr) (w : Kp371.World) (n : Nat), s = .ref wa ∧ m = N n ∧ WorldAt A H wa da ea w ∧ KpM.OkW w ∧ n < 2 ^ w.m ∧ ∀ p H', Same H H' → H p = none → PairsAt H' p (KpM.foll w n) → Q (.ref p) H'
theorem do_World_followers {H0 : Hp} {n : Nat} (r0 : R H0 H) (r : R H H) (h : WorldAt A H wa da ea w) (ok : KpM.OkW w) (hn : n < 2 ^ w.m) : Does R (sp_World_followers K A) [.ref wa, N n] H (fun v H' => ∃ p, v = .ref p ∧ H0 p = none ∧ PairsAt H' p (KpM.foll w n)) := fun Q E k => ⟨_, _, rfl, wa, da, ea, w, n, rfl, rfl, h, ok, hn, fun p H' s n e => k _ H' (G.ext r s) ⟨p, rfl, G.free r0 n, e⟩⟩
def sp_World_waited (K : PySem.W.Frag) (A : Ad) : Sp := Sp3 fun s m c H Q E => ∃ (wa da ea : Addr) (w : Kp371.World) (n i : Nat), s = .ref wa ∧ m = N n ∧ c = N i ∧ WorldAt A H wa da ea w ∧ KpM.OkW w ∧ n < 2 ^ w.m ∧ i ≤ 100 ∧ ∀ H', Same H H' → Q (N (Kp371.itself w n i)) H'
theorem do_World_waited {n i : Nat} (r : R H H) (h : WorldAt A H wa da ea w) (ok : KpM.OkW w) (hn : n < 2 ^ w.m) (hi : i ≤ 100) : Does R (sp_World_waited K A) [.ref wa, N n, N i] H (Is (N (Kp371.itself w n i))) := fun Q E k => ⟨_, _, _, rfl, wa, da, ea, w, n, i, rfl, rfl, rfl, h, ok, hn, hi, fun H' s => k _ H' (G.ext r s) rfl⟩
end
section
variable {P : Program} {w : World} {K : PySem.W.Frag} {mg : Str → Option Value} {base : Heap} {A : Ad}
theorem sc_World_init : FnScope ["self", "many"] ["self", "many"] (defScope (inClass (top 4) 0)) := ⟨rfl, rfl, rfl, by decide +kernel, rfl, by decide +kernel, by decide +kernel⟩
theorem ok_World_init (T : Txt K mg A) : FnOk P w K mg base CX0 1 A.f_World_init A.d_World_init ["self", "many"] (sp_World_init K A) := by
  refine T.F_World_init.ok sc_World_init (fun vs H Q E h => sp2_len h) (fun cdv Ar outer s H vs Q E hr h => ⟨_,
      (pss_cons (ps_fld (pv 0) (pe_ix ix_tup (pe_glob (v := .ref A.tEVERY) rfl T.g_EVERY rfl) (pv 1) (fun _ _ => rfl)) rfl)
      (pss_cons (ps_fld (pv 0) (pe_lst pa_nil) rfl)
      (pss_cons (ps_fld (pv 0) (pe_lst pa_nil) rfl)
      (pss_one (ps_fld (pv 0) pe_int rfl))))), ?_⟩)
  obtain ⟨_, _, rfl, x, dx, n, rfl, rfl, hn, hx, k⟩ := h
  have hi : ([V.int 0, V.int 1, V.int 3, V.int 7, V.int 15, V.int 31] : List V)[n]? = some (N (2 ^ n - 1)) := by
    match n, hn with
    | 0, _ => rfl
    | 1, _ => rfl
    | 2, _ => rfl
    | 3, _ => rfl
    | 4, _ => rfl
    | 5, _ => rfl
  refine s_fldE (R := Same) (P := Is (N (2 ^ n - 1))) (Same.refl _) (ev_ixT ev_c (ev_var rfl) (fun H1 _ => T.q_EVERY H1) hi) rfl hx T.c_World T.n_World_every (fun v H1 s1 ev => ?_)
  cases ev
  rw [put1]
  have h1 : ∀ b o, H b = some o → b ≠ x → (upd H1 x (.ins A.CWorld dx [("every", N (2 ^ n - 1))])) b = some o := fun b o q hb => by
    rw [upd_ne hb]
    exact s1 b o q
  refine s_fldE (R := Same) (fs := [("every", N (2 ^ n - 1))]) (Same.refl _) (ev_lstF ea_nil (by simp)) rfl upd_same T.c_World T.n_World_deeds (fun v H2 s2 ⟨p, ev, hp, dp⟩ => ?_)
  subst ev
  rw [put2 (by decide +kernel)]
  have px : p ≠ x := fun z => by
    rw [z, upd_same] at hp
    cases hp
  have h2 : ∀ b o, H b = some o → b ≠ x → (upd H2 x (.ins A.CWorld dx [("every", N (2 ^ n - 1)), ("deeds", .ref p)])) b = some o := fun b o q hb => by
    rw [upd_ne hb]
    exact s2 b o (h1 b o q hb)
  have np : H p = none := by
    cases e : H p with
    | none => rfl
    | some o =>
      rw [h1 p o e px] at hp
      cases hp
  refine s_fldE (R := Same) (fs := [("every", N (2 ^ n - 1)), ("deeds", .ref p)]) (Same.refl _) (ev_lstF ea_nil (by simp)) rfl upd_same T.c_World T.n_World_events (fun v H3 s3 ⟨r, ev, hr, dr⟩ => ?_)
  subst ev
  rw [put3 (by decide +kernel) (by decide +kernel)]
  have rx : r ≠ x := fun z => by
    rw [z, upd_same] at hr
    cases hr
  have rp : p ≠ r := fun z => by
    rw [← z, upd_ne px, dp] at hr
    cases hr
  have h3 : ∀ b o, H b = some o → b ≠ x → (upd H3 x (.ins A.CWorld dx [("every", N (2 ^ n - 1)), ("deeds", .ref p), ("events", .ref r)])) b = some o := fun b o q hb => by
    rw [upd_ne hb]
    exact s3 b o (h2 b o q hb)
  have nr : H r = none := by
    cases e : H r with
    | none => rfl
    | some o =>
      rw [h2 r o e rx] at hr
      cases hr
  refine s_fldE (R := Same) (fs := [("every", N (2 ^ n - 1)), ("deeds", .ref p), ("events", .ref r)]) (P := Is (N 0)) (Same.refl _) ev_c rfl upd_same T.c_World T.n_World_state (fun v H4 s4 ev => ?_)
  cases ev
  rw [put4 (by decide +kernel) (by decide +kernel) (by decide +kernel)]
  refine k _ p r ⟨⟨dx, upd_same⟩, ⟨[], ?_, ListAt.nil⟩, ⟨[], ?_, ListAt.nil⟩⟩ np nr rp fun b o q hb => ?_
  · rw [upd_ne px]
    exact s4 _ _ (by rw [upd_ne px]; exact s3 _ _ (by rw [upd_ne px]; exact dp))
  · rw [upd_ne rx]
    exact s4 _ _ (by rw [upd_ne rx]; exact dr)
  · rw [upd_ne hb]
    exact s4 b o (h3 b o q hb)
theorem sc_World_waiting : FnScope ["self"] ["self"] (defScope (inClass (top 4) 1)) := ⟨rfl, rfl, rfl, by decide +kernel, rfl, by decide +kernel, by decide +kernel⟩
theorem ok_World_waiting (T : Txt K mg A) : FnOk P w K mg base CX0 1 A.f_World_waiting A.d_World_waiting ["self"] (sp_World_waiting K A) := by
  refine T.F_World_waiting.ok sc_World_waiting (fun vs H Q E h => sp1_len h) (fun cdv Ar outer s H vs Q E hr h => ⟨_,
      (pss_one (ps_ret (pe_callB call_len_seq (by rfl) T.len PySem.boot_len (pa_cons (pe_fld (pv 0) rfl) pa_nil)))), ?_⟩)
  obtain ⟨_, rfl, wa, da, ea, w', rfl, hw, k⟩ := h
  obtain ⟨vs, hv, hl⟩ := hw.deeds
  refine s_ret (R := Same) (P := Is (N w'.deeds.length)) (Same.refl _) ?_ (fun v H1 s ev => by cases ev; exact k H1 s)
  refine (ev_len (ev_fld (ev_var rfl) (hw.fdeeds T)) hv).is ?_
  rw [hl.1]
theorem sc_World_choices : FnScope ["self"] ["self"] (defScope (inClass (top 4) 2)) := ⟨rfl, rfl, rfl, by decide +kernel, rfl, by decide +kernel, by decide +kernel⟩
theorem ok_World_choices (T : Txt K mg A) : FnOk P w K mg base CX0 1 A.f_World_choices A.d_World_choices ["self"] (sp_World_choices K A) := by
  refine T.F_World_choices.ok sc_World_choices (fun vs H Q E h => sp1_len h) (fun cdv Ar outer s H vs Q E hr h => ⟨_,
      (pss_one (ps_ret (pe_listRg rfl rfl T.list (prg_1 rfl T.range (pe_op op_add (pe_callB call_len_seq (by rfl) T.len PySem.boot_len (pa_cons (pe_fld (pv 0) rfl) pa_nil)) pe_int))))), ?_⟩)
  obtain ⟨_, rfl, wa, da, ea, w', rfl, hw, hn, k⟩ := h
  obtain ⟨vs, hv, hl⟩ := hw.deeds
  refine ((ev_I0 (R := Same) (ev_len (ev_fld (ev_var rfl) (hw.fdeeds T)) hv) ev_c) H (Same.refl _) _ fun v H1 s ev => ?_)
  cases ev
  have e : (vs.length : Int) + 1 = ((w'.deeds.length + 1 : Nat) : Int) := by
    rw [hl.1]
    omega
  refine ⟨_, rfl, ?_, fun q hq => ?_⟩
  · rw [e]
    exact RgOk.of_le (by decide) (by omega) (by decide) (by omega)
  · refine k q _ (s.trans fun b o z => by rw [upd_ne (ne_of_none z hq)]; exact z) ?_
    rw [upd_same, e]
    unfold rgV Kp371.choices
    have e2 : (((w'.deeds.length + 1 : Nat) : Int) - 0).toNat = w'.deeds.length + 1 := by omega
    rw [e2]
    congr 2
    apply List.map_congr_left
    intro i _
    rw [Int.zero_add]
theorem sc_World_is_state : FnScope ["self", "number"] ["self", "number"] (defScope (inClass (top 4) 3)) := ⟨rfl, rfl, rfl, by decide +kernel, rfl, by decide +kernel, by decide +kernel⟩
theorem ok_World_is_state (T : Txt K mg A) : FnOk P w K mg base CX0 1 A.f_World_is_state A.d_World_is_state ["self", "number"] (sp_World_is_state K A) := by
  refine T.F_World_is_state.ok sc_World_is_state (fun vs H Q E h => sp2_len h) (fun cdv Ar outer s H vs Q E hr h => ⟨_,
      (pss_one (ps_ret (pe_cmpR op_le (pv 1) (pe_fld (pv 0) rfl) (nomark _)))), ?_⟩)
  obtain ⟨_, _, rfl, wa, da, ea, w', n, rfl, rfl, hw, k⟩ := h
  refine s_ret (R := Same) (P := Is (.bl (decide (n < 2 ^ w'.m)))) (Same.refl _) ?_ (fun v H1 s ev => by cases ev; exact k H1 s)
  refine (ev_I0 (ev_var rfl) (ev_fld (ev_var rfl) (hw.every T))).is (congrArg V.bl (decide_eq_decide.mpr ?_))
  have := Nat.two_pow_pos w'.m
  omega
theorem sc_World_is_let : FnScope ["self", "state", "choice"] ["self", "state", "choice"] (defScope (inClass (top 4) 4)) := ⟨rfl, rfl, rfl, by decide +kernel, rfl, by decide +kernel, by decide +kernel⟩
theorem ok_World_is_let (T : Txt K mg A) : FnOk P w K mg base CX0 2 A.f_World_is_let A.d_World_is_let ["self", "state", "choice"] (sp_World_is_let K A) := by
  refine T.F_World_is_let.ok sc_World_is_let (fun vs H Q E h => sp3_len h) (fun cdv Ar outer s H vs Q E hr h => ⟨_,
      (pss_one (ps_ret (pe_or (pe_cmpR op_eq (pv 2) (pe_meth0 (pv 0) T.c_World T.m_World_waiting (ok_World_waiting T) (hr.mono (by decide)) T.b_World_waiting .nil pass0) (nomark _)) (pe_one (pe_meth (pe_ix ix_list (pe_fld (pv 0) rfl) (pv 2) (fun _ _ => rfl)) T.c_Change T.m_Change_is_let (ok_Change_is_let T) (hr.mono (by decide)) T.b_Change_is_let .nil pass0 (pa_cons (pv 1) pa_nil)))))), ?_⟩)
  obtain ⟨_, _, _, rfl, wa, da, ea, w', n, i, rfl, rfl, rfl, hw, hi, k⟩ := h
  obtain ⟨vs, hv, hl⟩ := hw.deeds
  refine s_ret (R := Same) (P := Is (.bl (KpM.letBy w' n i))) (Same.refl _) ?_ (fun v H1 s ev => by cases ev; exact k H1 s)
  have e : KpM.letBy w' n i = (decide (i = w'.deeds.length) || (match w'.deeds[i]? with
    | some d => Kp371.able n d
    | none => true)) := by
    unfold KpM.letBy
    cases hd : w'.deeds[i]? with
    | none =>
      have := List.getElem?_eq_none_iff.mp hd
      have : i = w'.deeds.length := by omega
      simp [this]
    | some d =>
      have := (List.getElem?_eq_some_iff.mp hd).1
      rw [decide_eq_false (by omega)]
      rfl
  rw [e]
  refine ev_or ((ev_eq (ev_var rfl) (ev_meth (ev_var rfl) hw.m ea_nil fun H1 s => do_World_waiting (Same.refl _) (hw.keep s)) rfl).is (congrArg V.bl (vint_eq _ _))) fun hne => ?_
  have hne' : ¬ i = w'.deeds.length := of_decide_eq_false hne
  have hlt : i < w'.deeds.length := by omega
  obtain ⟨a, ha, hc⟩ := hl.2 i _ (List.getElem?_eq_getElem hlt)
  rw [List.getElem?_eq_getElem hlt]
  exact ev_meth (ev_ixL (ev_fld (ev_var rfl) (hw.fdeeds T)) (ev_var rfl) hv ha) hc.m (ea_cons (ev_var rfl) ea_nil) fun H1 s => do_Change_is_let (Same.refl _) (hc.keep s)
end
end Kw
set_option maxRecDepth 100000
set_option maxHeartbeats 400000
namespace Kw
open PySem PySem.Spec PyProof.Rows L2
section
variable {P : Program} {w : World} {K : PySem.W.Frag} {mg : Str → Option Value} {base : Heap} {A : Ad}
theorem sc_World_behind : FnScope ["self", "state", "choice", "found", "event"] ["self", "state", "choice"] (defScope (inClass (top 4) 5)) := ⟨rfl, rfl, rfl, by decide +kernel, rfl, by decide +kernel, by decide +kernel⟩
theorem ok_World_behind (T : Txt K mg A) : FnOk P w K mg base CX0 2 A.f_World_behind A.d_World_behind ["self", "state", "choice"] (sp_World_behind K A) := by
  refine T.F_World_behind.ok sc_World_behind (fun vs H Q E h => sp3_len h) (fun cdv Ar outer s H vs Q E hr h => ⟨_,
      (pss_cons (ps_set (i := 3) sc_World_behind.nd rfl (Or.inl rfl) (pv 1))
      (pss_cons (ps_if (pt_cmpR op_lt (pv 2) (pe_meth0 (pv 0) T.c_World T.m_World_waiting (ok_World_waiting T) (hr.mono (by decide)) T.b_World_waiting .nil pass0) (nomark _))
        (pss_one (ps_set (i := 3) sc_World_behind.nd rfl (Or.inl rfl) (pe_meth (pe_ix ix_list (pe_fld (pv 0) rfl) (pv 2) (fun _ _ => rfl)) T.c_Change T.m_Change_done (ok_Change_done T) (hr.mono (by decide)) T.b_Change_done .nil pass0 (pa_cons (pv 1) pa_nil)))) pss_nil)
      (pss_cons (ps_for PassesOwn.never rfl (pi_list (pe_fld (pv 0) rfl)) (pg_name (i := 4) sc_World_behind.nd rfl (Or.inl rfl))
        (pss_one (ps_if (pt_val (pe_meth (pv 4) T.c_Change T.m_Change_is_let (ok_Change_is_let T) (hr.mono (by decide)) T.b_Change_is_let .nil pass0 (pa_cons (pv 3) pa_nil)))
        (pss_one (ps_set (i := 3) sc_World_behind.nd rfl (Or.inl rfl) (pe_meth (pv 4) T.c_Change T.m_Change_done (ok_Change_done T) (hr.mono (by decide)) T.b_Change_done .nil pass0 (pa_cons (pv 3) pa_nil)))) pss_nil)))
      (pss_one (ps_ret (pv 3)))))), ?_⟩)
  obtain ⟨_, _, _, rfl, wa, da, ea, w', n, i, rfl, rfl, rfl, hw, ok, hn, hi, k⟩ := h
  obtain ⟨vs, hv, hl⟩ := hw.deeds
  obtain ⟨m0, hm0⟩ : ∃ m, m = (match w'.deeds[i]? with
      | some d => Kp371.done_ n d
      | none => n) := ⟨_, rfl⟩
  have lt0 : m0 < 2 ^ w'.m := by
    rw [hm0]
    cases hd : w'.deeds[i]? with
    | none => exact hn
    | some d => exact KpM.done_lt (ok.deeds d (List.mem_of_getElem? hd)) hn
  refine s_set (R := Same) (P := Is (N n)) (Same.refl _) (ev_var rfl) (fun v H1 s1 ev => ?_)
  cases ev
  have hw1 := hw.keep s1
  refine s_ifset (R := Same) (v := N m0) (b := decide (i < w'.deeds.length)) (Same.refl _) (et_test ((ev_I0 (ev_var rfl) (ev_meth (ev_var rfl) hw1.m ea_nil fun H2 s => do_World_waiting (Same.refl _) (hw1.keep s))).is (congrArg V.bl (decide_eq_decide.mpr (by omega))))) (fun hb => ?_) (fun hb => ?_) (fun H2 s2 => ?_)
  · have hlt : i < w'.deeds.length := of_decide_eq_true hb
    obtain ⟨a, ha, hc⟩ := hl.2 i _ (List.getElem?_eq_getElem hlt)
    have okd := ok.deeds _ (List.getElem_mem hlt)
    rw [hm0, List.getElem?_eq_getElem hlt]
    exact ev_meth (ev_ixL (ev_fld (ev_var rfl) (hw1.fdeeds T)) (ev_var rfl) (s1 _ _ hv) ha) (hc.keep s1).m (ea_cons (ev_var rfl) ea_nil) fun H2 s => do_Change_done (Same.refl _) (KpM.le32 ok.hi hn) (KpM.le32 ok.hi okd.makes) ((hc.keep s1).keep s)
  · have hge : ¬ i < w'.deeds.length := of_decide_eq_false hb
    rw [hm0, List.getElem?_eq_none (by omega)]
    rfl
  · have s12 := s1.trans s2
    have hw2 := hw.keep s12
    obtain ⟨es, he, hel⟩ := hw2.events
    have upto : ∀ j, (w'.events.take j).foldl (fun (s : Nat) (e : Kp371.Deed) => if Kp371.able s e = true then Kp371.done_ s e else s) m0 < 2 ^ w'.m := fun j => by
      have ok2 : KpM.OkW { w' with events := w'.events.take j } := ⟨ok.lo, ok.hi, ok.deeds, ok.nd, fun d hd => ok.events d (List.mem_of_mem_take hd), Nat.le_trans (by simp; omega) ok.ne, ok.now⟩
      exact KpM.happen_lt ok2 lt0
    refine s_forL (R := Same) (xs := es) (Same.refl _) ((ev_fld (ev_var rfl) (hw2.fevents T)).imp fun v H3 s3 ev => ⟨ea, ev, s3 _ _ he⟩)
      (fun a j σ' H' => H' a = some (.lst es) ∧ Same H2 H' ∧ ∃ y : Option V, σ' = [some (.ref wa), some (N n), some (N i), some (N ((w'.events.take j).foldl (fun (s : Nat) (e : Kp371.Deed) => if Kp371.able s e = true then Kp371.done_ s e else s) m0)), y]) (fun a H3 s3 ha => ?_) (fun a j σ' H' p => ?_) (fun a j y σ' H' hy p => ?_) (fun a σ' H' p => ?_)
    · exact ⟨ha, s3, none, rfl⟩
    · exact p.1
    · obtain ⟨ha, s3, z, rfl⟩ := p
      obtain ⟨c, d, hd, rfl, hc⟩ := hel.get hy
      have hc3 := hc.keep s3
      have okd := ok.events d (List.mem_of_getElem? hd)
      have st : (w'.events.take (j + 1)).foldl (fun (s : Nat) (e : Kp371.Deed) => if Kp371.able s e = true then Kp371.done_ s e else s) m0 = (if Kp371.able ((w'.events.take j).foldl (fun (s : Nat) (e : Kp371.Deed) => if Kp371.able s e = true then Kp371.done_ s e else s) m0) d = true then Kp371.done_ ((w'.events.take j).foldl (fun (s : Nat) (e : Kp371.Deed) => if Kp371.able s e = true then Kp371.done_ s e else s) m0) d else ((w'.events.take j).foldl (fun (s : Nat) (e : Kp371.Deed) => if Kp371.able s e = true then Kp371.done_ s e else s) m0)) := by
        rw [List.take_add_one, hd, List.foldl_append]
        rfl
      refine s_ifset (R := Same) (v := N ((w'.events.take (j + 1)).foldl (fun (s : Nat) (e : Kp371.Deed) => if Kp371.able s e = true then Kp371.done_ s e else s) m0)) (Same.refl _) (et_B (ev_meth (ev_var rfl) hc3.m (ea_cons (ev_var rfl) ea_nil) fun H4 s => do_Change_is_let (Same.refl _) (hc3.keep s))) (fun hb => ?_) (fun hb => ?_) (fun H4 s4 => ?_)
      · rw [st, if_pos hb]
        exact ev_meth (ev_var rfl) hc3.m (ea_cons (ev_var rfl) ea_nil) fun H4 s => do_Change_done (Same.refl _) (KpM.le32 ok.hi (upto j)) (KpM.le32 ok.hi okd.makes) (hc3.keep s)
      · rw [st, if_neg (by rw [hb]; exact Bool.false_ne_true)]
        rfl
      · exact ⟨s4 _ _ ha, s3.trans s4, _, rfl⟩
    · obtain ⟨ha, s3, z, rfl⟩ := p
      rw [hel.1, List.take_length]
      refine s_ret (R := Same) (P := Is (N (KpM.stepTo w' n i))) (Same.refl _) ((ev_var rfl).is ?_) (fun v H4 s4 ev => by cases ev; exact k H4 ((s12.trans s3).trans s4))
      rw [hm0]
      rfl
theorem sc_World_followers : FnScope ["self", "state", "choice"] ["self", "state"] (defScope (inClass (top 4) 6)) := ⟨rfl, rfl, rfl, by decide +kernel, rfl, by decide +kernel, by decide +kernel⟩
theorem ok_World_followers (T : Txt K mg A) : FnOk P w K mg base CX0 3 A.f_World_followers A.d_World_followers ["self", "state"] (sp_World_followers K A) := by
  refine T.F_World_followers.ok sc_World_followers (fun vs H Q E h => sp2_len h) (fun cdv Ar outer s H vs Q E hr h => ⟨_,
      (pss_one (ps_ret (pe_lc (own := [("choice", 2)]) (g := gName 2) (tt := (tB (tMeth A.CWorld "is_let" (sp_World_is_let K A) [] E0 (tVar 0) (tCons (tVar 1) (tCons (tVar 2) tNil))))) (te := (tTup (tCons (tVar 2) (tCons (tMeth A.CWorld "behind" (sp_World_behind K A) [] E0 (tVar 0) (tCons (tVar 1) (tCons (tVar 2) tNil))) tNil)))) rfl sc_World_followers.nd (pi_list (pe_meth0 (pv 0) T.c_World T.m_World_choices (ok_World_choices T) (hr.mono (by decide)) T.b_World_choices .nil pass0)) (blkOk_by (own := [("choice", 2)]) (N := ["self", "state", "choice"]) (sc := defScope (inClass (top 4) 6)) (by decide +kernel)) (fun _ _ _ _ _ => (pg_name (i := 2) sc_World_followers.nd rfl (Or.inl rfl))) (fun _ _ _ _ _ => (pts_one (pt_val (pe_meth (pv 0) T.c_World T.m_World_is_let (ok_World_is_let T) (hr.mono (by decide)) T.b_World_is_let .nil pass0 (pa_cons (pv 1) (pa_cons (pv 2) pa_nil)))))) (fun _ _ _ _ _ => (pe_tup (pa_cons (pv 2) (pa_cons (pe_meth (pv 0) T.c_World T.m_World_behind (ok_World_behind T) (hr.mono (by decide)) T.b_World_behind .nil pass0 (pa_cons (pv 1) (pa_cons (pv 2) pa_nil))) pa_nil))))))), ?_⟩)
  obtain ⟨_, _, rfl, wa, da, ea, w', n, rfl, rfl, hw, ok, hn, k⟩ := h
  refine s_ret (R := Same) (P := NewC H (KpM.letBy w' n) (fun i v H' => ∃ t, v = .ref t ∧ H' t = some (.tup [N i, N (KpM.stepTo w' n i)])) (w'.deeds.length + 1)) (Same.refl _) ?_ (fun v H1 s ⟨D, ys, ev, hD, hd, hel⟩ => by
    subst ev
    exact k D H1 s hD ⟨ys, hd, pairs_of hel⟩)
  have len : (Ns (Kp371.choices w')).length = w'.deeds.length + 1 := by simp [Kp371.choices]
  rw [← len]
  refine ev_lcS (ev_meth (ev_var rfl) hw.m ea_nil fun H1 s => do_World_choices (Same.refl _) (hw.keep s) ok.nd) (by rw [len]; have := ok.nd; omega) (fun i x H' hx s => ?_) (fun D i v H' H2 l hi p hD hl hk => ?_)
  · have hi : i < w'.deeds.length + 1 := by
      rw [← len]
      exact (List.getElem?_eq_some_iff.mp hx).1
    have ex : x = N i := by
      rw [List.getElem?_map] at hx
      unfold Kp371.choices at hx
      rw [List.getElem?_range hi] at hx
      exact (Option.some.inj hx).symm
    subst ex
    have hw1 := hw.keep s
    refine ⟨_, fun Q q => q, rfl, et_B (ev_meth (ev_var rfl) hw1.m (ea_cons (ev_var rfl) (ea_cons (ev_var rfl) ea_nil)) fun H2 s2 => do_World_is_let (K := K) (Same.refl _) (hw1.keep s2) (by omega)), fun _ => ?_⟩
    exact (ev_tupC (ea_cons (ev_var rfl) (ea_cons (ev_meth (ev_var rfl) hw1.m (ea_cons (ev_var rfl) (ea_cons (ev_var rfl) ea_nil)) fun H2 s2 => do_World_behind (K := K) (Same.refl _) (hw1.keep s2) ok hn (by omega)) ea_nil)) (by simp)).imp fun v H2 s2 p => p
  · obtain ⟨t, ev, ht⟩ := p
    exact ⟨t, ev, hk _ _ (fun z => by rw [z, hl] at ht; cases ht) ht⟩
theorem sc_World_waited : FnScope ["self", "state", "many", "turn"] ["self", "state", "many"] (defScope (inClass (top 4) 7)) := ⟨rfl, rfl, rfl, by decide +kernel, rfl, by decide +kernel, by decide +kernel⟩
theorem ok_World_waited (T : Txt K mg A) : FnOk P w K mg base CX0 3 A.f_World_waited A.d_World_waited ["self", "state", "many"] (sp_World_waited K A) := by
  refine T.F_World_waited.ok sc_World_waited (fun vs H Q E h => sp3_len h) (fun cdv Ar outer s H vs Q E hr h => ⟨_,
      (pss_cons (ps_for PassesOwn.never rfl (pi_range1 rfl T.range (pa_cons (pv 2) pa_nil)) (pg_name (i := 3) sc_World_waited.nd rfl (Or.inl rfl))
        (pss_one (ps_set (i := 1) sc_World_waited.nd rfl (Or.inl rfl) (pe_meth (pv 0) T.c_World T.m_World_behind (ok_World_behind T) (hr.mono (by decide)) T.b_World_behind .nil pass0 (pa_cons (pv 1) (pa_cons (pe_meth0 (pv 0) T.c_World T.m_World_waiting (ok_World_waiting T) (hr.mono (by decide)) T.b_World_waiting .nil pass0) pa_nil))))))
      (pss_one (ps_ret (pv 1)))), ?_⟩)
  obtain ⟨_, _, _, rfl, wa, da, ea, w', n, i, rfl, rfl, rfl, hw, ok, hn, hi, k⟩ := h
  refine s_forR (R := Same) (n := i) (Same.refl _) (ea_cons (ev_var rfl) ea_nil) (by omega) (fun j σ' H' => Same H H' ∧ ∃ y : Option V, σ' = [some (.ref wa), some (N (Kp371.itself w' n j)), some (N i), y]) (fun H1 s => ⟨s, _, rfl⟩) (fun j σ' H' hj p => ?_) (fun σ' H' p => ?_)
  · obtain ⟨s, y, rfl⟩ := p
    have hw1 := hw.keep s
    have hlt := KpM.itself_lt ok j n hn
    refine s_set (R := Same) (P := Is (N (Kp371.itself w' n (j + 1)))) (Same.refl _) ((ev_meth (ev_var rfl) hw1.m (ea_cons (ev_var rfl) (ea_cons (ev_meth (ev_var rfl) hw1.m ea_nil fun H2 s2 => do_World_waiting (Same.refl _) (hw1.keep s2)) ea_nil)) fun H2 s2 => do_World_behind (Same.refl _) (hw1.keep s2) ok hlt (Nat.le_refl _)).is ?_) (fun v H2 s2 ev => ?_)
    · rw [KpM.stepTo_wait, KpM.itself_succ]
    · cases ev
      exact ⟨s.trans s2, _, rfl⟩
  · obtain ⟨s, y, rfl⟩ := p
    exact s_ret (R := Same) (P := Is (N (Kp371.itself w' n i))) (Same.refl _) (ev_var rfl) (fun v H1 s1 ev => by cases ev; exact k H1 (s.trans s1))
end
end Kw
set_option maxRecDepth 100000
set_option maxHeartbeats 400000
namespace Kw
open PySem PySem.Spec PyProof.Rows L2
theorem ns_snoc (l : List Nat) (x : Nat) : Ns (l ++ [x]) = Ns l ++ [N x] := List.map_append
/-- a table whose keys are these, each with True -/
abbrev setK (l : List Nat) : List (Key × V) := l.map fun x : Nat => (Sum.inl (x : Int), V.bl true)
theorem key_dec (a b : Nat) : decide ((Sum.inl (a : Int) : Key) = Sum.inl (b : Int)) = decide (a = b) := by
  by_cases c : a = b
  · rw [decide_eq_true c, c]
    simp
  · rw [decide_eq_false c]
    exact decide_eq_false fun z => c (by have := Sum.inl.inj z; omega)
theorem valV_setK (x : Nat) : ∀ l : List Nat, (valV (setK l) (Sum.inl (x : Int))).isSome = l.contains x
  | [] => rfl
  | a :: l => by
    have ih := valV_setK x l
    by_cases c : a = x
    · rw [show setK (a :: l) = (Sum.inl (a : Int), V.bl true) :: setK l from rfl, valV_pos (by show Sum.inl (a : Int) = Sum.inl (x : Int); rw [c])]
      rw [c]
      simp
    · rw [show setK (a :: l) = (Sum.inl (a : Int), V.bl true) :: setK l from rfl, valV_neg (by show ¬ Sum.inl (a : Int) = Sum.inl (x : Int); intro z; have := Sum.inl.inj z; omega), ih]
      rw [List.contains_cons]
      have : (x == a) = false := by simpa using fun z => c (Eq.symm z)
      rw [this, Bool.false_or]
theorem any_setK (x : Nat) (l : List Nat) : ((setK l).any fun kv => decide (kv.1 = (Sum.inl (x : Int) : Key))) = l.contains x := by
  rw [valV_any, valV_setK]
theorem putK_setK (x : Nat) (l : List Nat) : putK (setK l) (Sum.inl (x : Int)) (V.bl true) = setK (KpM.addTo l x) := by
  unfold putK KpM.addTo
  by_cases c : l.contains x = true
  · rw [if_pos (by rw [any_setK]; exact c), if_pos c]
    have : ∀ kv ∈ setK l, (if kv.1 = (Sum.inl (x : Int) : Key) then (kv.1, V.bl true) else kv) = kv := fun kv hkv => by
      obtain ⟨a, _, e⟩ := List.mem_map.mp hkv
      rw [← e]
      split <;> rfl
    exact (List.map_congr_left this).trans (List.map_id _)
  · rw [if_neg (by rw [any_setK]; exact c), if_neg c]
    show _ = List.map _ (l ++ [x])
    rw [List.map_append]
    rfl
theorem seeOne_add {acc : List Nat × List Nat} {t : Nat} : (KpM.seeOne acc t).1 = KpM.addTo acc.1 t := by
  unfold KpM.seeOne KpM.addTo
  split <;> rfl
section
variable {R : Hp → Hp → Prop} [G : Good R] {K : PySem.W.Frag} {σ : L2.St} {H : Hp} {ta tb te tl : TE}
/-- the two rows of numbers are equal -/
theorem dp_nats {H : Hp} {p : Addr} {ns : List Nat} (h : H p = some (.lst (Ns ns))) : Dp K H (.ref p) (.list (ns.map fun n : Nat => PyData.int (n : Int))) := by
  refine .lst (SqL.of h) ?_
  clear h
  induction ns with
  | nil => exact .nil
  | cons n ns ih => exact .cons (.int _) ih
theorem ev_eqL {ns ms : List Nat} (ha : Ev R ta σ H (IsL (Ns ns))) (hb : ∀ H1, R H H1 → Ev R tb σ H1 (IsL (Ns ms))) : Ev R (tOp (rEqD K) ta tb) σ H (Is (.bl (decide (ns = ms)))) :=
  ev_opN1 ha (fun _ H1 e _ => hb H1 e) fun x y H1 H2 e ⟨p, ex, hp⟩ e2 ⟨q, ey, hq⟩ Q k => by
    subst ex ey
    refine ⟨_, _, dp_nats (G.keep e2 hp lst_nd), dp_nats hq, shaped_nats ns, shaped_nats ms, ?_⟩
    have z : PyData.eqv (.list (ns.map fun n : Nat => PyData.int (n : Int))) (.list (ms.map fun n : Nat => PyData.int (n : Int))) = decide (ns = ms) := eqv_nats ns ms
    rw [z]
    exact k _ H2 (G.here e2) rfl
theorem ev_neL {ns ms : List Nat} (ha : Ev R ta σ H (IsL (Ns ns))) (hb : ∀ H1, R H H1 → Ev R tb σ H1 (IsL (Ns ms))) : Ev R (tOp (rNeD K) ta tb) σ H (Is (.bl (!decide (ns = ms)))) :=
  ev_opN1 ha (fun _ H1 e _ => hb H1 e) fun x y H1 H2 e ⟨p, ex, hp⟩ e2 ⟨q, ey, hq⟩ Q k => by
    subst ex ey
    refine ⟨_, _, dp_nats (G.keep e2 hp lst_nd), dp_nats hq, shaped_nats ns, shaped_nats ms, ?_⟩
    have z : PyData.eqv (.list (ns.map fun n : Nat => PyData.int (n : Int))) (.list (ms.map fun n : Nat => PyData.int (n : Int))) = decide (ns = ms) := eqv_nats ns ms
    rw [z]
    exact k _ H2 (G.here e2) rfl
theorem filt_all (n : Nat) : (List.range n).filter (fun _ => true) = List.range n := List.filter_eq_self.mpr fun _ _ => rfl
theorem range_map {α β : Type} (f : α → β) (d : α) (l : List α) : (List.range l.length).map (fun i => f (l.getD i d)) = l.map f := by
  apply List.ext_getElem?
  intro i
  rw [List.getElem?_map, List.getElem?_map]
  by_cases hi : i < l.length
  · rw [List.getElem?_range hi, List.getElem?_eq_getElem hi]
    show some (f (l.getD i d)) = some (f l[i])
    rw [List.getD_eq_getElem?_getD, List.getElem?_eq_getElem hi]
    rfl
  · rw [List.getElem?_eq_none (by simpa using hi), List.getElem?_eq_none (by omega)]
    rfl
/-- any([f(x) for x in a row of numbers]) -/
theorem ev_anyC {j : Nat} {vs : List Nat} {l : List Nat} {f : Nat → Bool} (hl : Ev Same tl σ H (IsL (Ns l))) (hn : l.length ≤ 100000) (hw : ∀ x, wipe ((wipe σ vs).set j (some x)) vs = wipe σ vs)
    (he : ∀ x H', x ∈ l → Same H H' → Ev Same te ((wipe σ vs).set j (some (N x))) H' (Is (.bl (f x)))) : Ev Same (tCB (rAny K) (tCons (tLc (iList K tl) (gName j) tYes te vs) tNil)) σ H (Is (.bl (l.any f))) := by
  have c := ev_lcS (K := K) (g := gName j) (tt := tYes) (te := te) (vs := vs) (xs := Ns l) (f := fun _ => true) (Pe := fun i => Is (.bl (f (l.getD i 0)))) hl (by rw [List.length_map]; exact hn) (fun i x H' hx s => by
    rw [List.getElem?_map] at hx
    cases hy : l[i]? with
    | none =>
      rw [hy] at hx
      cases hx
    | some y =>
      rw [hy] at hx
      have ex : N y = x := Option.some.inj hx
      refine ⟨_, fun Q q => q, hw x, fun H1 e Q q => q H1 (Same.refl _), fun _ => ?_⟩
      rw [← ex, List.getD_eq_getElem?_getD, hy]
      exact he y H' (List.mem_of_getElem? hy) s) (fun D i v H' H2 l _ p _ _ _ => p)
  refine ev_cbN (ea_one c) fun us H1 e ⟨x, eus, D, ys, ex, hD, hd, hel⟩ Q q => ?_
  subst eus ex
  have ey := hel.map
  rw [filt_all, List.length_map] at ey
  have e2 : ys = (l.map f).map V.bl := by
    rw [ey, ← range_map f 0 l, List.map_map]
    rfl
  refine ⟨D, l.map f, rfl, SqL.of (by rw [← e2]; exact hd), q _ H1 (Same.refl _) ?_⟩
  rw [List.any_map]
  rfl
end
def sp_can_be_come_to (K : PySem.W.Frag) (A : Ad) : Sp := Sp4 fun a b c d H Q E => ∃ (wa da ea aa : Addr) (w : Kp371.World) (s f v k : Nat), a = .ref wa ∧ b = N s ∧ c = .ref aa ∧ d = N k ∧ WorldAt A H wa da ea w ∧ KpM.OkW w ∧ s < 2 ^ w.m ∧ AimAt A H aa f v ∧ k ≤ 100 ∧
  ∀ H', Same H H' → Q (.bl (KpM.comeTo w s (Kp371.isAim f v) k)) H'
theorem do_can_be_come_to {R : Hp → Hp → Prop} [G : Good R] {K : PySem.W.Frag} {A : Ad} {H : Hp} {wa da ea aa : Addr} {w : Kp371.World} {s f v k : Nat} (r : R H H) (h : WorldAt A H wa da ea w) (ok : KpM.OkW w) (hs : s < 2 ^ w.m) (ha : AimAt A H aa f v) (hk : k ≤ 100) :
    Does R (sp_can_be_come_to K A) [.ref wa, N s, .ref aa, N k] H (Is (.bl (KpM.comeTo w s (Kp371.isAim f v) k))) := fun Q E q => ⟨_, _, _, _, rfl, wa, da, ea, aa, w, s, f, v, k, rfl, rfl, rfl, rfl, h, ok, hs, ha, hk, fun H' s' => q _ H' (G.ext r s') rfl⟩
section
variable {P : Program} {w : World} {K : PySem.W.Frag} {mg : Str → Option Value} {base : Heap} {A : Ad}
theorem sc_can_be_come_to : FnScope ["world", "state", "aim", "many", "met", "layer", "turn", "one", "behind", "choice", "other"] ["world", "state", "aim", "many"] (defScope (top 8)) := ⟨rfl, rfl, rfl, by decide +kernel, rfl, by decide +kernel, by decide +kernel⟩
theorem ok_can_be_come_to (T : Txt K mg A) : FnOk P w K mg base CX0 4 A.f_can_be_come_to A.d_can_be_come_to ["world", "state", "aim", "many"] (sp_can_be_come_to K A) := by
  refine T.F_can_be_come_to.ok sc_can_be_come_to (fun vs H Q E h => sp4_len h) (fun cdv Ar outer s H vs Q E hr h => ⟨_,
      (pss_cons (ps_set (i := 4) sc_can_be_come_to.nd rfl (Or.inl rfl) (pe_disp (pps_cons (pv 1) pe_bl pps_nil) (by rfl) (by rfl) (fun z => by cases z) (by decide)))
      (pss_cons (ps_set (i := 5) sc_can_be_come_to.nd rfl (Or.inl rfl) (pe_lst (pa_cons (pv 1) pa_nil)))
      (pss_cons (ps_for PassesOwn.never rfl (pi_range1 rfl T.range (pa_cons (pv 3) pa_nil)) (pg_name (i := 6) sc_can_be_come_to.nd rfl (Or.inl rfl))
        (pss_cons (ps_if (PW.pt (pw_or (pt_cmpR (op_eqD hr.units) (pv 5) (pe_lst pa_nil) (nomark _)) (pw_or1 (pt_val (pe_callB (cr_any rfl) (by rfl) T.any (by decide +kernel) (pa_cons (pe_lc (own := [("one", 7)]) (g := gName 7) (tt := tYes) (te := (tMeth A.CAim "is_so" (sp_Aim_is_so K A) [] E0 (tVar 2) (tCons (tVar 7) tNil))) rfl sc_can_be_come_to.nd (pi_list (pv 5)) (blkOk_by (own := [("one", 7)]) (N := ["world", "state", "aim", "many", "met", "layer", "turn", "one", "behind", "choice", "other"]) (sc := defScope (top 8)) (by decide +kernel)) (fun _ _ _ _ _ => (pg_name (i := 7) sc_can_be_come_to.nd rfl (Or.inl rfl))) (fun _ _ _ _ _ => pts_nil) (fun _ _ _ _ _ => (pe_meth (pv 2) T.c_Aim T.m_Aim_is_so (ok_Aim_is_so T) (hr.mono (by decide)) T.b_Aim_is_so .nil pass0 (pa_cons (pv 7) pa_nil)))) pa_nil))))))
        (pss_one ps_break) pss_nil)
      (pss_cons (ps_set (i := 8) sc_can_be_come_to.nd rfl (Or.inl rfl) (pe_lst pa_nil))
      (pss_cons (ps_for PassesOwn.never rfl (pi_list (pv 5)) (pg_name (i := 7) sc_can_be_come_to.nd rfl (Or.inl rfl))
        (pss_one (ps_for PassesOwn.never rfl (pi_list (pe_meth (pv 0) T.c_World T.m_World_followers (ok_World_followers T) (hr.mono (by decide)) T.b_World_followers .nil pass0 (pa_cons (pv 7) pa_nil))) (pg_tup (n := 2) rfl (pgs_cons (pg_name (i := 9) sc_can_be_come_to.nd rfl (Or.inl rfl)) (pgs_cons (pg_name (i := 10) sc_can_be_come_to.nd rfl (Or.inl rfl)) pgs_nil)))
        (pss_one (ps_if (pt_cmp (pc_dnotin (hu_of hr) (pv 10) (pv 4)))
        (pss_cons (ps_dput (hu_of hr) (pv 4) (pv 10) pe_bl rfl)
      (pss_one (ps_expr (pe_bm PySem.F.plainAttrs_list PySem.F.slot_list_append PySem.F.type_list_append mt_append (pv 8) (pa_cons (pv 10) pa_nil))))) pss_nil)))))
      (pss_one (ps_set (i := 5) sc_can_be_come_to.nd rfl (Or.inl rfl) (pv 8)))))))
      (pss_one (ps_ret (pe_callB (cr_any rfl) (by rfl) T.any (by decide +kernel) (pa_cons (pe_lc (own := [("one", 7)]) (g := gName 7) (tt := tYes) (te := (tMeth A.CAim "is_so" (sp_Aim_is_so K A) [] E0 (tVar 2) (tCons (tVar 7) tNil))) rfl sc_can_be_come_to.nd (pi_list (pv 5)) (blkOk_by (own := [("one", 7)]) (N := ["world", "state", "aim", "many", "met", "layer", "turn", "one", "behind", "choice", "other"]) (sc := defScope (top 8)) (by decide +kernel)) (fun _ _ _ _ _ => (pg_name (i := 7) sc_can_be_come_to.nd rfl (Or.inl rfl))) (fun _ _ _ _ _ => pts_nil) (fun _ _ _ _ _ => (pe_meth (pv 2) T.c_Aim T.m_Aim_is_so (ok_Aim_is_so T) (hr.mono (by decide)) T.b_Aim_is_so .nil pass0 (pa_cons (pv 7) pa_nil)))) pa_nil))))))), ?_⟩)
  obtain ⟨_, _, _, _, rfl, wa, da, ea, aa, w', s0, f, v, k, rfl, rfl, rfl, rfl, hw, ok, hs, ha, hk, kk⟩ := h
  -- met = {state: True}
  intro m hm
  refine ⟨_, rfl, upd_same, [(Sum.inl (s0 : Int), V.bl true)], rfl, by simp, ?_⟩
  have e0 : upd (upd H m (.dK [])) m (.dK (mergeK [] [(Sum.inl (s0 : Int), V.bl true)])) = upd H m (.dK (setK [s0])) := by
    rw [upd_upd]
    rfl
  rw [e0]
  have x1 : Same H (upd H m (.dK (setK [s0]))) := fun b o z => by
    rw [upd_ne (ne_of_none z hm)]
    exact z
  -- layer = [state]
  refine s_set (R := Same) (P := NewL _ [N s0]) (Same.refl _) (ev_lstF (ea_cons (ev_var rfl) ea_nil) (by simp)) (fun u H1 s1 ⟨l0, eu, nl0, hl0⟩ => ?_)
  subst eu
  have any_ : ∀ {σ : L2.St} {H' : Hp} {l : Addr} {layer : List Nat}, σ[2]? = some (some (.ref aa)) → σ[5]? = some (some (.ref l)) → 7 < σ.length → Same H H' → H' l = some (.lst (Ns layer)) → layer.length ≤ 100000 → σ.length = 11 →
      Ev Same (tCB (rAny K) (tCons (tLc (iList K (tVar 5)) (gName 7) tYes (tMeth A.CAim "is_so" (sp_Aim_is_so K A) [] E0 (tVar 2) (tCons (tVar 7) tNil)) [7]) tNil)) σ H' (Is (.bl (layer.any (Kp371.isAim f v)))) := fun {σ H' l layer} h2 h5 h7 sH hl hn hlen => by
    refine ev_anyC ((ev_var h5).imp fun u H2 s2 eu => ⟨l, eu, s2 _ _ hl⟩) hn (fun x => ?_) (fun x H2 hx s2 => ?_)
    · show (((σ.set 7 none).set 7 (some x)).set 7 none) = σ.set 7 none
      rw [List.set_set, List.set_set]
    · refine ev_meth (ev_var ?_) (ha.keep (sH.trans s2)).m (ea_cons (ev_var ?_) ea_nil) fun H3 s3 => do_Aim_is_so (Same.refl _) (ha.keep ((sH.trans s2).trans s3))
      · show ((σ.set 7 none).set 7 (some (N x)))[2]? = _
        rw [List.getElem?_set_ne (by decide), List.getElem?_set_ne (by decide)]
        exact h2
      · show ((σ.set 7 none).set 7 (some (N x)))[7]? = _
        rw [List.getElem?_set_self (by simpa using h7)]
  -- the turns
  refine s_forRB (R := Same) (n := k) (Same.refl _) (ea_cons (ev_var rfl) ea_nil) (by omega)
    (fun j σ' H' => ∃ (l : Addr) (met layer : List Nat) (y6 y7 y8 y9 y10 : Option V), σ' = [some (.ref wa), some (N s0), some (.ref aa), some (N k), some (.ref m), some (.ref l), y6, y7, y8, y9, y10] ∧ Same H H' ∧ H' m = some (.dK (setK met)) ∧ H' l = some (.lst (Ns layer)) ∧
      KpM.FineS w' (met, layer) ∧ KpM.come w' (Kp371.isAim f v) (k - j) met layer = KpM.come w' (Kp371.isAim f v) k [s0] [s0])
    (fun σ' H' => ∃ (l : Addr) (layer : List Nat) (y6 y7 y8 y9 y10 : Option V), σ' = [some (.ref wa), some (N s0), some (.ref aa), some (N k), some (.ref m), some (.ref l), y6, y7, y8, y9, y10] ∧ Same H H' ∧ H' l = some (.lst (Ns layer)) ∧ layer.length ≤ 100000 ∧
      layer = KpM.come w' (Kp371.isAim f v) k [s0] [s0])
    (fun H2 s2 => ?_) (fun bk hbk j σ' H' hj p => ?_) (fun σ' H' p => ?_) (fun σ' H' p => ?_)
  · refine ⟨l0, [s0], [s0], none, none, none, none, none, rfl, (x1.trans s1).trans s2, s2 _ _ (s1 _ _ upd_same), s2 _ _ hl0, ⟨by simp, fun x hx => ?_, fun x hx => ?_, by simp⟩, by rw [Nat.sub_zero]⟩
    · have : x = s0 := by simpa using hx
      rw [this]
      exact hs
    · have : x = s0 := by simpa using hx
      rw [this]
      exact hs
  · obtain ⟨l, met, layer, y6, y7, y8, y9, y10, rfl, sH, hmet, hlay, fine, hcome⟩ := p
    have hsz := fine.size ok.hi
    have e1 : layer.isEmpty = decide (layer = []) := by cases layer <;> simp
    refine s_if (R := Same) (b := layer.isEmpty || layer.any (Kp371.isAim f v)) (Same.refl _) (et_or (et_test ((ev_eqL (ns := layer) (ms := []) ((ev_var rfl).imp fun u H2 s2 eu => ⟨l, eu, s2 _ _ hlay⟩) fun H2 _ => ev_lstC ea_nil (by simp)).is (congrArg V.bl e1.symm))) fun _ => et_B (any_ rfl rfl (by simp) sH hlay (by have := hsz.2; dsimp only at this; omega) rfl)) (fun hb H2 s2 => ?_) (fun hb H2 s2 => ?_)
    · -- break
      refine hbk _ _ ⟨l, layer, _, y7, y8, y9, y10, rfl, sH.trans s2, s2 _ _ hlay, by have := hsz.2; dsimp only at this; omega, ?_⟩
      rw [← hcome, KpM.come_stop hb]
    · have hcome2 : KpM.come w' (Kp371.isAim f v) (k - (j + 1)) (KpM.spread w' met layer).1 (KpM.spread w' met layer).2 = KpM.come w' (Kp371.isAim f v) k [s0] [s0] := by
        rw [← hcome, show k - j = (k - (j + 1)) + 1 by omega, KpM.come_go hb]
      -- behind = []
      refine s_set (R := Same) (P := NewL _ []) (Same.refl _) (ev_lstF ea_nil (by simp)) (fun u H3 s3 ⟨b, eu, nb, hb3⟩ => ?_)
      subst eu
      have sH3 := (sH.trans s2).trans s3
      have hm3 := s3 _ _ (s2 _ _ hmet)
      have hl3 := s3 _ _ (s2 _ _ hlay)
      have bl : l ≠ b := ne_of_none (s2 _ _ hlay) nb
      have bm : m ≠ b := ne_of_none (s2 _ _ hmet) nb
      have lm : l ≠ m := fun z => by rw [z, hmet] at hlay; cases hlay
      have nbH : H b = none := (sH.trans s2).free nb
      -- the layer's states
      refine s_forLr (R := Same) (a := l) (xs := Ns layer) (Same.refl _) (ev_var rfl) hl3
        (fun i σ' H' => ∃ (z7 z9 z10 : Option V), σ' = [some (.ref wa), some (N s0), some (.ref aa), some (N k), some (.ref m), some (.ref l), some (.int (j : Int)), z7, some (.ref b), z9, z10] ∧ Same H H' ∧ H' l = some (.lst (Ns layer)) ∧
          H' m = some (.dK (setK ((layer.take i).foldl (KpM.seeAll w') (met, [])).1)) ∧ H' b = some (.lst (Ns ((layer.take i).foldl (KpM.seeAll w') (met, [])).2)))
        (fun H4 s4 => ⟨_, _, _, rfl, sH3.trans s4, s4 _ _ hl3, s4 _ _ hm3, s4 _ _ hb3⟩) (fun i σ' H' p => by
          obtain ⟨_, _, _, _, _, q, _⟩ := p
          exact q) (fun i x σ' H' hx p => ?_) (fun σ' H' p => ?_)
      · obtain ⟨z7, z9, z10, rfl, s5, hl5, hm5, hb5⟩ := p
        have hx' : layer[i]? = some (layer.getD i 0) ∧ x = N (layer.getD i 0) := by
          rw [List.getElem?_map] at hx
          cases hy : layer[i]? with
          | none =>
            rw [hy] at hx
            cases hx
          | some y =>
            rw [hy] at hx
            rw [List.getD_eq_getElem?_getD, hy]
            exact ⟨rfl, (Option.some.inj hx).symm⟩
        obtain ⟨hy, rfl⟩ := hx'
        have hlt : layer.getD i 0 < 2 ^ w'.m := fine.new _ (List.mem_of_getElem? hy)
        have fin5 : KpM.FineS w' ((layer.take i).foldl (KpM.seeAll w') (met, [])) := fine.fresh.layer ok (fun x hx => fine.new x hx) i
        have st5 := KpM.fold_take (KpM.seeAll w') (met, []) hy
        generalize hacc : (layer.take i).foldl (KpM.seeAll w') (met, []) = acc at fin5 st5 hm5 hb5
        have hw5 := hw.keep s5
        refine s_forG (R := Same) (Same.refl _) (ev_meth (ev_var rfl) hw5.m (ea_cons (ev_var rfl) ea_nil) fun H6 s6 => do_World_followers s6 (Same.refl _) (hw5.keep s6) ok hlt) (fun u H6 s6 ⟨p, eu, np, vs, hp, hvs⟩ => ?_)
        have mb : m ≠ b := fun z => by rw [z, hb5] at hm5; cases hm5
        refine ⟨p, vs, eu, hp, fun i2 σ' H' => ∃ (z9 z10 : Option V), σ' = [some (.ref wa), some (N s0), some (.ref aa), some (N k), some (.ref m), some (.ref l), some (.int (j : Int)), some (N (layer.getD i 0)), some (.ref b), z9, z10] ∧ Same H H' ∧ H' l = some (.lst (Ns layer)) ∧ H' p = some (.lst vs) ∧ Kept (fun a => a = m ∨ a = b) H6 H' ∧
          H' m = some (.dK (setK (((KpM.foll w' (layer.getD i 0)).take i2).foldl (fun a p => KpM.seeOne a p.2) acc).1)) ∧ H' b = some (.lst (Ns (((KpM.foll w' (layer.getD i 0)).take i2).foldl (fun a p => KpM.seeOne a p.2) acc).2)),
          ⟨_, _, rfl, s5.trans s6, s6 _ _ hl5, hp, fun _ _ _ e => e, s6 _ _ hm5, s6 _ _ hb5⟩, fun i2 σ' H' q => ?_, fun i2 x σ' H' hx q => ?_, fun σ' H' q => ?_⟩
        · obtain ⟨_, _, _, _, _, q, _⟩ := q
          exact q
        · obtain ⟨z9, z10, rfl, s7, hl7, hp7, k7, hm7, hb7⟩ := q
          obtain ⟨t, pr, hpr, rfl, ht⟩ := hvs.get hx
          have nt : ¬ (t = m ∨ t = b) := fun z => by
            rcases z with z | z
            · rw [z, s6 _ _ hm5] at ht
              cases ht
            · rw [z, s6 _ _ hb5] at ht
              cases ht
          have st7 := KpM.fold_take (fun a (p : Nat × Nat) => KpM.seeOne a p.2) acc hpr
          have fin7 := fin5.take ok hlt i2
          have sz7 := fin7.size ok.hi
          have plt := KpM.foll_lt ok hlt (List.mem_of_getElem? hpr)
          generalize hac : ((KpM.foll w' (layer.getD i 0)).take i2).foldl (fun a p => KpM.seeOne a p.2) acc = acc2 at st7 fin7 sz7 hm7 hb7
          refine g_pair (k7 _ _ nt ht) ?_
          -- if other not in met
          refine ⟨_, rfl, _, rfl, m, _, rfl, DGet.k (k := Sum.inl (pr.2 : Int)) hm7, _, rfl, ?_⟩
          rw [valV_setK]
          have st8 : KpM.seeOne acc2 pr.2 = if acc2.1.contains pr.2 = true then acc2 else (acc2.1 ++ [pr.2], acc2.2 ++ [pr.2]) := rfl
          cases hc : acc2.1.contains pr.2 with
          | true =>
            rw [if_pos hc] at st8
            refine ⟨_, _, rfl, s7, hl7, hp7, k7, ?_, ?_⟩
            · rw [st7, st8]
              exact hm7
            · rw [st7, st8]
              exact hb7
          | false =>
            rw [if_neg (by rw [hc]; exact Bool.false_ne_true)] at st8
            -- met[other] = True; behind.append(other)
            refine ⟨_, rfl, _, rfl, m, _, rfl, DPut.k (k := Sum.inl (pr.2 : Int)) hm7 (Nat.lt_of_le_of_lt (by rw [List.length_map]; exact sz7.1) (by decide)), ?_⟩
            rw [putK_setK]
            have hb8 : upd H' m (.dK (setK (KpM.addTo acc2.1 pr.2))) b = some (.lst (Ns acc2.2)) := by
              rw [upd_ne (Ne.symm mb)]
              exact hb7
            refine ⟨_, rfl, .inl ⟨rfl, _, SqL.of hb8⟩, _, rfl, b, _, _, rfl, rfl, hb8, Nat.lt_of_le_of_lt (by rw [List.length_map]; exact sz7.2) (by decide), ?_⟩
            have keep : ∀ a o, ¬ (a = m ∨ a = b) → H' a = some o → upd (upd H' m (.dK (setK (KpM.addTo acc2.1 pr.2)))) b (.lst (Ns acc2.2 ++ [N pr.2])) a = some o := fun a o na e => by
              rw [upd_ne fun z => na (.inr z), upd_ne fun z => na (.inl z)]
              exact e
            refine ⟨_, _, rfl, fun a o e => keep a o (fun z => ?_) (s7 a o e), keep _ _ (fun z => ?_) hl7, keep _ _ (fun z => ?_) hp7, fun a o na e => keep a o na (k7 a o na e), ?_, ?_⟩
            · rcases z with z | z
              · rw [z, hm] at e
                cases e
              · rw [z, nbH] at e
                cases e
            · rcases z with z | z
              · exact lm z
              · exact bl z
            · rcases z with z | z
              · rw [z, hm7] at hp7
                cases hp7
              · rw [z, hb5] at np
                cases np
            · rw [upd_ne mb, upd_same, st7, st8]
              have : KpM.addTo acc2.1 pr.2 = acc2.1 ++ [pr.2] := by
                unfold KpM.addTo
                rw [if_neg (by rw [hc]; exact Bool.false_ne_true)]
              rw [this]
            · rw [upd_same, st7, st8]
              show some (HO.lst (Ns acc2.2 ++ [N pr.2])) = some (.lst (Ns (acc2.2 ++ [pr.2])))
              rw [ns_snoc]
        · obtain ⟨z9, z10, rfl, s7, hl7, _, _, hm7, hb7⟩ := q
          rw [hvs.1, List.take_length] at hm7 hb7
          refine ⟨_, z9, z10, rfl, s7, hl7, ?_, ?_⟩
          · rw [st5]
            exact hm7
          · rw [st5]
            exact hb7
      · obtain ⟨z7, z9, z10, rfl, s5, hl5, hm5, hb5⟩ := p
        rw [List.length_map, List.take_length] at hm5 hb5
        have fin6 := fine.fresh.layer ok (fun x hx => fine.new x hx) layer.length
        rw [List.take_length] at fin6
        refine s_set (R := Same) (P := Is (.ref b)) (Same.refl _) (ev_var rfl) (fun u H6 s6 eu => ?_)
        cases eu
        exact ⟨b, _, _, _, _, _, _, _, rfl, s5.trans s6, s6 _ _ hm5, s6 _ _ hb5, fin6, hcome2⟩
  · obtain ⟨l, met, layer, y6, y7, y8, y9, y10, rfl, sH, hmet, hlay, fine, hcome⟩ := p
    refine ⟨l, layer, y6, y7, y8, y9, y10, rfl, sH, hlay, by have := (fine.size ok.hi).2; dsimp only at this; omega, ?_⟩
    rw [← hcome, Nat.sub_self]
    rfl
  · obtain ⟨l, layer, y6, y7, y8, y9, y10, rfl, sH, hlay, hn, hcome⟩ := p
    refine s_ret (R := Same) (P := Is (.bl (KpM.comeTo w' s0 (Kp371.isAim f v) k))) (Same.refl _) ((any_ rfl rfl (by simp) sH hlay hn rfl).is ?_) (fun u H1 s1 eu => by cases eu; exact kk H1 (sH.trans s1))
    rw [hcome]
    rfl
end
end Kw
set_option maxRecDepth 100000
set_option maxHeartbeats 400000
namespace Kw
open PySem PySem.Spec PyProof.Rows L2
/-! ### tables -/
section
variable {σ : L2.St} {H : Hp} {ta tb te : TE} {d : Addr} {k : Key} {kvs : List (Key × V)} {P : Pr} {D : Ends}
theorem ev_notin (hy : Ev Same ta σ H (Is (kV k))) (hd : Ev Same tb σ H (Is (.ref d))) (h : H d = some (.dK kvs)) : Ev Same (tDNotIn ta tb) σ H (Is (.bl (!(valV kvs k).isSome))) := fun H1 e Q q =>
  hy H1 e _ fun u H2 e2 eu => by
    cases eu
    exact hd H2 (e.trans e2) _ fun u2 H3 e3 eu2 => by
      cases eu2
      exact ⟨d, _, rfl, DGet.k (e3 _ _ (e2 _ _ (e _ _ h))), q _ H3 (e2.trans e3) rfl⟩
/-- a table's value by a key that it has -/
theorem ev_dget {v : V} (hd : Ev Same ta σ H (Is (.ref d))) (hy : Ev Same tb σ H (Is (kV k))) (h : H d = some (.dK kvs)) (hv : valV kvs k = some v) : Ev Same (tDGet ta tb) σ H (Is v) := fun H1 e Q q =>
  hd H1 e _ fun u H2 e2 eu => by
    cases eu
    exact hy H2 (e.trans e2) _ fun u2 H3 e3 eu2 => by
      cases eu2
      exact ⟨d, v, rfl, by rw [← hv]; exact DGet.k (e3 _ _ (e2 _ _ (e _ _ h))), q _ H3 (e2.trans e3) rfl⟩
theorem s_dput (h : Ev Same te σ H P) (hd : ∀ H1, Same H H1 → Ev Same ta σ H1 (Is (.ref d))) (hy : ∀ H1, Same H H1 → Ev Same tb σ H1 (Is (kV k))) (hk : H d = some (.dK kvs)) (hn : kvs.length < sizeLine) (c : ∀ v H1 H2, Same H H1 → P v H1 → Same H1 H2 → D.nx σ (upd H2 d (.dK (putK kvs k v)))) : sDPut ta tb te D σ H :=
  h H (Same.refl _) _ fun v H1 e p => hd H1 e H1 (Same.refl _) _ fun u H2 e2 eu => by
    cases eu
    exact hy H2 (e.trans e2) H2 (Same.refl _) _ fun u2 H3 e3 eu2 => by
      cases eu2
      exact ⟨d, _, rfl, DPut.k (e3 _ _ (e2 _ _ (e _ _ hk))) hn, c v H1 H3 e p (e2.trans e3)⟩
end
section
variable (A : Ad)
def ChAt (H : Hp) (ch wa oa kd : Addr) : Prop := ∃ dx, H ch = some (.ins A.CChances dx [("world", .ref wa), ("others", .ref oa), ("known", .ref kd)])
/-- what a Chances has before it: its world, the other aims -/
structure ChE (H : Hp) (ch wa da ea oa kd : Addr) (D : Kp373.Desk) : Prop where
  ob : ChAt A H ch wa oa kd
  wd : WorldAt A H wa da ea D.world
  ot : OthersAt A H oa D.aims
end
/-- what it knows already; none of it is a list of X -/
def Kn (kd : Addr) (D : Kp373.Desk) (X : List Addr) (H : Hp) : Prop := ∃ (ss : List Nat) (ls : Nat → Addr), H kd = some (.dK (ss.map fun s : Nat => ((Sum.inl (s : Int) : Key), V.ref (ls s)))) ∧ ss.Nodup ∧
  (∀ s ∈ ss, s < 2 ^ D.world.m ∧ ls s ∉ X ∧ H (ls s) = some (.lst (Ns (Kp373.openAt D s)))) ∧ ∀ x ∈ X, ∃ l, H x = some (.lst l)
abbrev Zk (kd : Addr) : Addr → Prop := fun a => a = kd
instance {kd : Addr} {D : Kp373.Desk} : Mem (Zk kd) (Kn kd D) where
  dict := fun {X H a} hh z => by
    obtain ⟨ss, ls, h, _⟩ := hh
    have e : a = kd := z
    subst e
    exact ⟨_, h⟩
  same := fun {X H H'} ⟨ss, ls, h1, h2, h3, h4⟩ s => ⟨ss, ls, s _ _ h1, h2, fun x hx => ⟨(h3 x hx).1, (h3 x hx).2.1, s _ _ (h3 x hx).2.2⟩, fun x hx => (h4 x hx).elim fun l e => ⟨l, s _ _ e⟩⟩
  push := fun {X H d l} ⟨ss, ls, h1, h2, h3, h4⟩ n => ⟨ss, ls, by rw [upd_ne (ne_of_none h1 n)]; exact h1, h2, fun x hx => by
    obtain ⟨a, b, c⟩ := h3 x hx
    refine ⟨a, fun z => ?_, by rw [upd_ne (ne_of_none c n)]; exact c⟩
    rcases List.mem_cons.mp z with z | z
    · exact ne_of_none c n z
    · exact b z, fun x hx => by
    rcases List.mem_cons.mp hx with z | z
    · exact ⟨l, by rw [z]; exact upd_same⟩
    · obtain ⟨l2, e⟩ := h4 x z
      exact ⟨l2, by rw [upd_ne (ne_of_none e n)]; exact e⟩⟩
  poke := fun {X H d l l'} ⟨ss, ls, h1, h2, h3, h4⟩ e => ⟨ss, ls, by rw [upd_ne (fun z => by rw [← z, h1] at e; cases e)]; exact h1, h2, fun x hx => by
    obtain ⟨a, b, c⟩ := h3 x hx
    exact ⟨a, b, by rw [upd_ne (fun z => b (by rw [z]; exact List.mem_cons_self))]; exact c⟩, fun x hx => by
    by_cases z : x = d
    · exact ⟨l', by rw [z]; exact upd_same⟩
    · obtain ⟨l2, e2⟩ := h4 x hx
      exact ⟨l2, by rw [upd_ne z]; exact e2⟩⟩
  pop := fun {X H d} ⟨ss, ls, h1, h2, h3, h4⟩ => ⟨ss, ls, h1, h2, fun x hx => ⟨(h3 x hx).1, fun z => (h3 x hx).2.1 (List.mem_cons_of_mem _ z), (h3 x hx).2.2⟩, fun x hx => h4 x (List.mem_cons_of_mem _ hx)⟩
abbrev RK (kd : Addr) (D : Kp373.Desk) (X : List Addr) : Hp → Hp → Prop := Rl (Zk kd) (Kn kd D) X
theorem rk_refl {kd : Addr} {D : Kp373.Desk} {X : List Addr} {H : Hp} (h : Kn kd D X H) : RK kd D X H H := ⟨h, h, fun _ _ _ e => e⟩
theorem valV_ks (n : Nat) (ls : Nat → Addr) : ∀ ss : List Nat, valV (ss.map fun s : Nat => ((Sum.inl (s : Int) : Key), V.ref (ls s))) (Sum.inl (n : Int)) = if n ∈ ss then some (V.ref (ls n)) else none
  | [] => rfl
  | a :: ss => by
    have ih := valV_ks n ls ss
    by_cases c : a = n
    · rw [List.map_cons, valV_pos (by show Sum.inl (a : Int) = Sum.inl (n : Int); rw [c]), if_pos (by rw [c]; exact List.mem_cons_self), c]
    · rw [List.map_cons, valV_neg (by show ¬ Sum.inl (a : Int) = Sum.inl (n : Int); intro z; have := Sum.inl.inj z; omega), ih]
      by_cases m : n ∈ ss
      · rw [if_pos m, if_pos (List.mem_cons_of_mem _ m)]
      · rw [if_neg m, if_neg fun z => by
          rcases List.mem_cons.mp z with z | z
          · exact c z.symm
          · exact m z]
section
variable {K : PySem.W.Frag} {mg : Str → Option Value} {A : Ad} {H H' : Hp} {ch wa da ea oa kd : Addr} {D : Kp373.Desk} {R : Hp → Hp → Prop} [G : Good R]
theorem ChE.keep (h : ChE A H ch wa da ea oa kd D) (e : R H H') : ChE A H' ch wa da ea oa kd D := by
  obtain ⟨⟨dx, h1⟩, h2, h3⟩ := h
  exact ⟨⟨dx, G.keep e h1 ins_nd⟩, h2.keep e, h3.keep e⟩
theorem ChE.world (T : Txt K mg A) (h : ChE A H ch wa da ea oa kd D) : FldAt K H ch "world" (.ref wa) := h.ob.elim fun _ h => fldAt_of h T.c_Chances T.n_Chances_world lk_here
theorem ChE.others (T : Txt K mg A) (h : ChE A H ch wa da ea oa kd D) : FldAt K H ch "others" (.ref oa) := h.ob.elim fun _ h => fldAt_of h T.c_Chances T.n_Chances_others (lk_2 (by decide +kernel))
theorem ChE.known (T : Txt K mg A) (h : ChE A H ch wa da ea oa kd D) : FldAt K H ch "known" (.ref kd) := h.ob.elim fun _ h => fldAt_of h T.c_Chances T.n_Chances_known (lk_3 (by decide +kernel) (by decide +kernel))
theorem ChE.m {m : Str} (h : ChE A H ch wa da ea oa kd D) (h1 : (m == ("world" : Str)) = false := by decide +kernel) (h2 : (m == ("others" : Str)) = false := by decide +kernel) (h3 : (m == ("known" : Str)) = false := by decide +kernel) : InsAt H ch A.CChances m := h.ob.elim fun _ h => insAt_of h (lk_n3 h1 h2 h3)
end
theorem filt_range {α β : Type} (p : α → Bool) (g : α → β) (d : α) (l : List α) : ((List.range l.length).filter fun i => p (l.getD i d)).map (fun i => g (l.getD i d)) = (l.filter p).map g := by
  have e : l = (List.range l.length).map fun i => l.getD i d := by
    have := range_map (fun x : α => x) d l
    rw [List.map_id'] at this
    exact this.symm
  conv => rhs; rw [e, List.filter_map, List.map_map]
  rfl
theorem inV_ns (n : Nat) : ∀ l : List Nat, inV (N n) (Ns l) = l.contains n
  | [] => rfl
  | a :: l => by
    have ih := inV_ns n l
    have e : inV (N n) (Ns (a :: l)) = (eqV (N a) (N n) || inV (N n) (Ns l)) := by first | rfl | simp [inV]
    rw [e, ih, List.contains_cons]
    congr 1
    show ((a : Int) == (n : Int)) = (n == a)
    rw [Bool.eq_iff_iff, beq_iff_eq, beq_iff_eq]
    omega
theorem flat_ns (l : List Nat) : (Ns l).all flatV = true := by
  rw [List.all_map]
  exact List.all_eq_true.mpr fun _ _ => rfl
def sp_Chances_init (K : PySem.W.Frag) (A : Ad) : Sp := Sp3 fun s a b H Q E => ∃ (x dx wa oa : Addr), s = .ref x ∧ a = .ref wa ∧ b = .ref oa ∧ H x = some (.ins A.CChances dx []) ∧
  ∀ H' kd, ChAt A H' x wa oa kd → H' kd = some (.dK []) → H kd = none → (∀ b o, H b = some o → b ≠ x → H' b = some o) → Q .non H'
def sp_Chances_possible (K : PySem.W.Frag) (A : Ad) : Sp := Sp2 fun s m H Q E => ∃ (ch wa da ea oa kd : Addr) (D : Kp373.Desk) (n : Nat) (X : List Addr), s = .ref ch ∧ m = N n ∧ ChE A H ch wa da ea oa kd D ∧ KpM.OkK D ∧ n < 2 ^ D.world.m ∧ Kn kd D X H ∧
  ∀ p H', RK kd D X H H' → H p = none → H' p = some (.lst (Ns (Kp373.openAt D n))) → Q (.ref p) H'
def sp_Chances_worth_of (K : PySem.W.Frag) (A : Ad) : Sp := Sp2 fun s m H Q E => ∃ (ch wa da ea oa kd na : Addr) (D : Kp373.Desk) (l : List Nat), s = .ref ch ∧ m = .ref na ∧ ChE A H ch wa da ea oa kd D ∧ H na = some (.lst (Ns l)) ∧ l.length ≤ 100 ∧ (∀ i ∈ l, i < D.aims.length) ∧
  ∀ H', Same H H' → Q (N (Kp373.worthOf D l)) H'
def sp_Chances_kept (K : PySem.W.Frag) (A : Ad) : Sp := Sp2 fun s m H Q E => ∃ (ch wa da ea oa kd : Addr) (D : Kp373.Desk) (n : Nat) (X : List Addr), s = .ref ch ∧ m = N n ∧ ChE A H ch wa da ea oa kd D ∧ KpM.OkK D ∧ n < 2 ^ D.world.m ∧ Kn kd D X H ∧
  ∀ H', RK kd D X H H' → Q (N (Kp373.keeps D n)) H'
def sp_Chances_lost (K : PySem.W.Frag) (A : Ad) : Sp := Sp3 fun s m t H Q E => ∃ (ch wa da ea oa kd : Addr) (D : Kp373.Desk) (n k : Nat) (X : List Addr), s = .ref ch ∧ m = N n ∧ t = N k ∧ ChE A H ch wa da ea oa kd D ∧ KpM.OkK D ∧ n < 2 ^ D.world.m ∧ k ≤ 100 ∧ Kn kd D X H ∧
  ∀ p H', RK kd D X H H' → H p = none → H' p = some (.lst (Ns (Kp373.losesAt D n k))) → Q (.ref p) H'
def sp_Chances_loss (K : PySem.W.Frag) (A : Ad) : Sp := Sp3 fun s m t H Q E => ∃ (ch wa da ea oa kd : Addr) (D : Kp373.Desk) (n k : Nat) (X : List Addr), s = .ref ch ∧ m = N n ∧ t = N k ∧ ChE A H ch wa da ea oa kd D ∧ KpM.OkK D ∧ n < 2 ^ D.world.m ∧ k ≤ 100 ∧ Kn kd D X H ∧
  ∀ H', RK kd D X H H' → Q (N (Kp373.loss D n k)) H'
section
variable {K : PySem.W.Frag} {A : Ad} {H0 H : Hp} {ch wa da ea oa kd : Addr} {D : Kp373.Desk} {n k : Nat} {X : List Addr}
theorem do_Chances_possible (r0 : RK kd D X H0 H) (h : ChE A H ch wa da ea oa kd D) (ok : KpM.OkK D) (hn : n < 2 ^ D.world.m) : Does (RK kd D X) (sp_Chances_possible K A) [.ref ch, N n] H (NewL H0 (Ns (Kp373.openAt D n))) := fun Q E q =>
  ⟨_, _, rfl, ch, wa, da, ea, oa, kd, D, n, X, rfl, rfl, h, ok, hn, r0.2.1, fun p H' s np e => q _ H' s ⟨p, rfl, Good.free r0 np, e⟩⟩
theorem do_Chances_worth_of {R : Hp → Hp → Prop} [G : Good R] {na : Addr} {l : List Nat} (r : R H H) (h : ChE A H ch wa da ea oa kd D) (hl : H na = some (.lst (Ns l))) (hs : l.length ≤ 100) (hi : ∀ i ∈ l, i < D.aims.length) : Does R (sp_Chances_worth_of K A) [.ref ch, .ref na] H (Is (N (Kp373.worthOf D l))) := fun Q E q =>
  ⟨_, _, rfl, ch, wa, da, ea, oa, kd, na, D, l, rfl, rfl, h, hl, hs, hi, fun H' s => q _ H' (G.ext r s) rfl⟩
theorem do_Chances_kept (r0 : RK kd D X H0 H) (h : ChE A H ch wa da ea oa kd D) (ok : KpM.OkK D) (hn : n < 2 ^ D.world.m) : Does (RK kd D X) (sp_Chances_kept K A) [.ref ch, N n] H (Is (N (Kp373.keeps D n))) := fun Q E q =>
  ⟨_, _, rfl, ch, wa, da, ea, oa, kd, D, n, X, rfl, rfl, h, ok, hn, r0.2.1, fun H' s => q _ H' s rfl⟩
theorem do_Chances_lost (r0 : RK kd D X H0 H) (h : ChE A H ch wa da ea oa kd D) (ok : KpM.OkK D) (hn : n < 2 ^ D.world.m) (hk : k ≤ 100) : Does (RK kd D X) (sp_Chances_lost K A) [.ref ch, N n, N k] H (NewL H0 (Ns (Kp373.losesAt D n k))) := fun Q E q =>
  ⟨_, _, _, rfl, ch, wa, da, ea, oa, kd, D, n, k, X, rfl, rfl, rfl, h, ok, hn, hk, r0.2.1, fun p H' s np e => q _ H' s ⟨p, rfl, Good.free r0 np, e⟩⟩
theorem do_Chances_loss (r0 : RK kd D X H0 H) (h : ChE A H ch wa da ea oa kd D) (ok : KpM.OkK D) (hn : n < 2 ^ D.world.m) (hk : k ≤ 100) : Does (RK kd D X) (sp_Chances_loss K A) [.ref ch, N n, N k] H (Is (N (Kp373.loss D n k))) := fun Q E q =>
  ⟨_, _, _, rfl, ch, wa, da, ea, oa, kd, D, n, k, X, rfl, rfl, rfl, h, ok, hn, hk, r0.2.1, fun H' s => q _ H' s rfl⟩
end
theorem openAt_lt {D : Kp373.Desk} {s i : Nat} (h : i ∈ Kp373.openAt D s) : i < D.aims.length := by
  unfold Kp373.openAt at h
  exact List.mem_range.mp (List.mem_filter.mp h).1
theorem openAt_len (D : Kp373.Desk) (s : Nat) : (Kp373.openAt D s).length ≤ D.aims.length := by
  unfold Kp373.openAt
  have := List.length_filter_le (fun i => match D.aims[i]? with
    | some x => Kp373.possible D s x
    | none => false) (List.range D.aims.length)
  rw [List.length_range] at this
  exact this
theorem losesAt_lt {D : Kp373.Desk} {s t i : Nat} (h : i ∈ Kp373.losesAt D s t) : i < D.aims.length := openAt_lt (List.mem_filter.mp h).1
theorem losesAt_len (D : Kp373.Desk) (s t : Nat) : (Kp373.losesAt D s t).length ≤ D.aims.length := Nat.le_trans (List.length_filter_le _ _) (openAt_len D _)
theorem worth_sum (D : Kp373.Desk) (l : List Nat) : (l.map fun i => ((match D.aims[i]? with
    | some x => x.worth
    | none => 0 : Nat) : Int)).sum = (Kp373.worthOf D l : Int) := by
  unfold Kp373.worthOf
  have key : ∀ (l : List Nat) (a : Nat), (a : Int) + (l.map fun i => ((match D.aims[i]? with
      | some x => x.worth
      | none => 0 : Nat) : Int)).sum = ((l.foldl (fun (a i : Nat) => a + (match D.aims[i]? with
      | some x => x.worth
      | none => 0)) a : Nat) : Int) := by
    intro l
    induction l with
    | nil => intro a; simp
    | cons i l ih =>
      intro a
      rw [List.map_cons, List.sum_cons, List.foldl_cons, ← ih, Int.natCast_add]
      omega
  have h := key l 0
  rw [show ((0 : Nat) : Int) = 0 from rfl, Int.zero_add] at h
  exact h
section
variable {P : Program} {w : World} {K : PySem.W.Frag} {mg : Str → Option Value} {base : Heap} {A : Ad}
theorem sc_Chances_init : FnScope ["self", "world", "others"] ["self", "world", "others"] (defScope (inClass (top 9) 0)) := ⟨rfl, rfl, rfl, by decide +kernel, rfl, by decide +kernel, by decide +kernel⟩
theorem ok_Chances_init (T : Txt K mg A) : FnOk P w K mg base CX0 1 A.f_Chances_init A.d_Chances_init ["self", "world", "others"] (sp_Chances_init K A) := by
  refine T.F_Chances_init.ok sc_Chances_init (fun vs H Q E h => sp3_len h) (fun cdv Ar outer s H vs Q E hr h => ⟨_,
      (pss_cons (ps_fld (pv 0) (pv 1) rfl)
      (pss_cons (ps_fld (pv 0) (pv 2) rfl)
      (pss_one (ps_fld (pv 0) pe_dnewK rfl)))), ?_⟩)
  obtain ⟨_, _, _, rfl, x, dx, wa, oa, rfl, rfl, rfl, hx, k⟩ := h
  refine s_fld rfl rfl hx T.c_Chances T.n_Chances_world put1 ?_
  refine s_fld rfl rfl upd_same T.c_Chances T.n_Chances_others (put2 (by decide +kernel)) ?_
  intro kd hkd
  refine ⟨_, rfl, x, A.CChances, dx, [("world", .ref wa), ("others", .ref oa)], rfl, ?_, T.c_Chances, T.n_Chances_known, by simp, ?_⟩
  · rw [upd_ne (fun z => by rw [← z, upd_same] at hkd; cases hkd)]
    exact upd_same
  · rw [put3 (by decide +kernel) (by decide +kernel)]
    have nx : kd ≠ x := fun z => by
      rw [z, upd_same] at hkd
      cases hkd
    refine k _ kd ⟨dx, upd_same⟩ (by rw [upd_ne nx, upd_same]) (by rw [upd_ne nx, upd_ne nx] at hkd; exact hkd) fun b o q hb => ?_
    rw [upd_ne hb, upd_ne (fun z => by rw [← z, upd_ne hb, upd_ne hb, q] at hkd; cases hkd), upd_ne hb, upd_ne hb]
    exact q
theorem sc_Chances_possible : FnScope ["self", "state", "number", "other"] ["self", "state"] (defScope (inClass (top 9) 1)) := ⟨rfl, rfl, rfl, by decide +kernel, rfl, by decide +kernel, by decide +kernel⟩
theorem ok_Chances_possible (T : Txt K mg A) : FnOk P w K mg base CX0 5 A.f_Chances_possible A.d_Chances_possible ["self", "state"] (sp_Chances_possible K A) := by
  refine T.F_Chances_possible.ok sc_Chances_possible (fun vs H Q E h => sp2_len h) (fun cdv Ar outer s H vs Q E hr h => ⟨_,
      (pss_cons (ps_if (pt_cmp (pc_dnotin (hu_of hr) (pv 1) (pe_fld (pv 0) rfl)))
        (pss_one (ps_dput (hu_of hr) (pe_fld (pv 0) rfl) (pv 1) (pe_lc (own := [("number", 2), ("other", 3)]) (g := gTup K 2 (gCons (gName 2) (gCons (gName 3) gNil))) (tt := (tB (tCall (sp_can_be_come_to K A) [] E0 (tCons (tFld K (tVar 0) "world") (tCons (tVar 1) (tCons (tFld K (tVar 3) "aim") (tCons (tFld K (tVar 3) "steps") tNil))))))) (te := (tVar 2)) rfl sc_Chances_possible.nd (pi_enum (by rfl) T.enumerate (pa_cons (pe_fld (pv 0) rfl) pa_nil)) (blkOk_by (own := [("number", 2), ("other", 3)]) (N := ["self", "state", "number", "other"]) (sc := defScope (inClass (top 9) 1)) (by decide +kernel)) (fun _ _ _ _ _ => (pg_tup (n := 2) rfl (pgs_cons (pg_name (i := 2) sc_Chances_possible.nd rfl (Or.inl rfl)) (pgs_cons (pg_name (i := 3) sc_Chances_possible.nd rfl (Or.inl rfl)) pgs_nil)))) (fun _ _ _ _ _ => (pts_one (pt_val (pe_call (ok_can_be_come_to T) (hr.mono (by decide)) rfl T.g_can_be_come_to T.F_can_be_come_to.kp T.b_can_be_come_to .nil pass0 (pa_cons (pe_fld (pv 0) rfl) (pa_cons (pv 1) (pa_cons (pe_fld (pv 3) rfl) (pa_cons (pe_fld (pv 3) rfl) pa_nil)))))))) (fun _ _ _ _ _ => (pv 2))) rfl)) pss_nil)
      (pss_one (ps_ret (pe_callTy call_list_of (by rfl) T.list (by decide +kernel) (pa_cons (pe_dget (hu_of hr) (pe_fld (pv 0) rfl) (pv 1) (fun _ _ => rfl)) pa_nil))))), ?_⟩)
  obtain ⟨_, _, rfl, ch, wa, da, ea, oa, kd, D, n, X, rfl, rfl, hc, ok, hn, hk, kk⟩ := h
  have hk' := hk
  obtain ⟨ss, ls, h1, h2, h3, h4⟩ := hk'
  obtain ⟨os, ho, hol⟩ := hc.ot
  have hss : ss.length ≤ 32 := Nat.le_trans (KpM.nodup_le _ ss h2 fun x hx => (h3 x hx).1) (Nat.pow_le_pow_right (by decide) ok.w.hi)
  refine s_ifJ (R := Same) (Same.refl _) (et_B (ev_notin (k := Sum.inl (n : Int)) (ev_var rfl) (ev_fld (ev_var rfl) (hc.known T)) h1))
    (fun σ' H' => σ' = [some (.ref ch), some (N n), none, none] ∧ RK kd D X H H' ∧ ∃ l kvs, H' kd = some (.dK kvs) ∧ valV kvs (Sum.inl (n : Int)) = some (.ref l) ∧ H' l = some (.lst (Ns (Kp373.openAt D n))))
    (fun nx hnx hb H1 s1 => ?_) (fun nx hnx hb H1 s1 => ?_) (fun σ' H' p => ?_)
  · have nss : n ∉ ss := fun z => by
      rw [valV_ks, if_pos z] at hb
      cases hb
    have hc1 := hc.keep s1
    have len : os.length = D.aims.length := hol.1
    refine s_dput (k := Sum.inl (n : Int)) (kvs := ss.map fun s : Nat => ((Sum.inl (s : Int) : Key), V.ref (ls s)))
      (ev_lcE (xs := os) (f := fun i => match D.aims[i]? with
        | some x => Kp373.possible D n x
        | none => false) (Pe := fun i => Is (N i)) (ev_fld (ev_var rfl) (hc1.others T)) (s1 _ _ ho) (by rw [len]; exact Nat.le_trans ok.na (by decide)) (fun i x H2 U hx s2 hU => ?_) (fun _ i v H' H2 l _ p _ _ _ => p))
      (fun H2 s2 => ev_fld (ev_var rfl) ((hc1.keep s2).known T)) (fun H2 s2 => ev_var rfl) (s1 _ _ h1) (Nat.lt_of_le_of_lt (by rw [List.length_map]; exact hss) (by decide)) (fun v H2 H3 s2 ⟨d, ys, ev, nd, hd, hel⟩ s3 => ?_)
    · have hi : i < D.aims.length := by
        rw [← len]
        exact (List.getElem?_eq_some_iff.mp hx).1
      have hc2 := hc1.keep s2
      obtain ⟨a, ha, hoa⟩ := hol.2 i _ (List.getElem?_eq_getElem hi)
      rw [ha] at hx
      cases hx
      have hoa2 := (hoa.keep s1).keep s2
      obtain ⟨am, fam, aam⟩ := hoa2.aim T
      refine ⟨_, fun Q q => g_pair hU q, rfl, ?_, fun _ => ev_var rfl⟩
      have st := (ok.aims _ (List.getElem_mem hi)).2.2.2
      rw [List.getElem?_eq_getElem hi]
      refine et_B (Ev.is (ev_call (ea_cons (ev_fld (ev_var rfl) (hc2.world T)) (ea_cons (ev_var rfl) (ea_cons (ev_fld (ev_var rfl) fam) (ea_cons (ev_fld (ev_var rfl) (hoa2.steps T)) ea_nil)))) fun H4 e => do_can_be_come_to (Good.here e) (hc2.wd.keep e) ok.w hn (aam.keep e) (Nat.le_trans st (by decide))) ?_)
      rw [KpM.comeTo_possible ok.w hn]
    · subst ev
      have nH : H d = none := s1.free nd
      have kd0 : H3 kd = some (.dK (ss.map fun s : Nat => ((Sum.inl (s : Int) : Key), V.ref (ls s)))) := s3 _ _ (s2 _ _ (s1 _ _ h1))
      have hnew : valV (ss.map fun s : Nat => ((Sum.inl (s : Int) : Key), V.ref (ls s))) (Sum.inl (n : Int)) = none := by
        rw [valV_ks, if_neg nss]
      rw [putK_new _ hnew]
      have eys : ys = Ns (Kp373.openAt D n) := by
        rw [hel.map, len]
        rfl
      have hd3 := s3 _ _ hd
      rw [eys] at hd3
      have dk : d ≠ kd := fun z => by rw [z, h1] at nH; cases nH
      have up : ∀ a o, ¬ Zk kd a → H3 a = some o → upd H3 kd (.dK ((ss.map fun s : Nat => ((Sum.inl (s : Int) : Key), V.ref (ls s))) ++ [(Sum.inl (n : Int), V.ref d)])) a = some o := fun a o nz e => by
        rw [upd_ne nz]
        exact e
      have s13 := (s1.trans s2).trans s3
      have ekd : (ss.map fun s : Nat => ((Sum.inl (s : Int) : Key), V.ref (ls s))) ++ [(Sum.inl (n : Int), V.ref d)] = (ss ++ [n]).map fun s : Nat => ((Sum.inl (s : Int) : Key), V.ref (if s = n then d else ls s)) := by
        rw [List.map_append]
        congr 1
        · refine List.map_congr_left fun x hx => ?_
          rw [if_neg fun z => nss (by rw [← z]; exact hx)]
        · show _ = [((Sum.inl (n : Int) : Key), V.ref (if n = n then d else ls n))]
          rw [if_pos rfl]
      refine hnx _ _ ⟨rfl, ⟨hk, ⟨ss ++ [n], fun s => if s = n then d else ls s, ?_, ?_, ?_, ?_⟩, fun a o nz e => up a o nz (s13 a o e)⟩, d, _, upd_same, ?_, up _ _ dk hd3⟩
      · rw [upd_same, ekd]
      · exact List.nodup_append.mpr ⟨h2, by simp, fun a ha b hb z => by
          have : b = n := by simpa using hb
          exact nss (by rw [← this, ← z]; exact ha)⟩
      · intro s hs
        rcases List.mem_append.mp hs with hs | hs
        · have ns : s ≠ n := fun z => nss (by rw [← z]; exact hs)
          obtain ⟨a, b, c⟩ := h3 s hs
          dsimp only
          rw [if_neg ns]
          refine ⟨a, b, up _ _ (fun z => ?_) (s13 _ _ c)⟩
          have z' : ls s = kd := z
          rw [z', h1] at c
          cases c
        · have es : s = n := by simpa using hs
          subst es
          dsimp only
          rw [if_pos rfl]
          refine ⟨hn, fun z => ?_, up _ _ dk hd3⟩
          obtain ⟨l, e⟩ := h4 d z
          rw [nH] at e
          cases e
      · intro x hx
        obtain ⟨l, e⟩ := h4 x hx
        exact ⟨l, up _ _ (fun z => by
          have z' : x = kd := z
          rw [z', h1] at e
          cases e) (s13 _ _ e)⟩
      · rw [valV_snoc _ _ _ _ hnew, if_pos rfl]
  · have nss : n ∈ ss := Classical.byContradiction fun z => by
      rw [valV_ks, if_neg z] at hb
      cases hb
    refine hnx _ _ ⟨rfl, ⟨hk, Mem.same (Z := Zk kd) hk s1, fun a o _ e => s1 a o e⟩, ls n, _, s1 _ _ h1, by rw [valV_ks, if_pos nss], s1 _ _ (h3 n nss).2.2⟩
  · obtain ⟨rfl, r1, l, kvs, hkd, hv, hl⟩ := p
    have hc1 := hc.keep r1
    with_reducible show tRet _ _ _ _
    refine s_ret (R := Same) (P := NewL H' (Ns (Kp373.openAt D n))) (Same.refl _) ?_ (fun v H3 r3 p3 => ?_)
    · refine ev_cb (ea_cons (ev_dget (k := Sum.inl (n : Int)) (ev_fld (ev_var rfl) (hc1.known T)) (ev_var rfl) hkd hv) ea_nil) fun H2 s2 Q q => ⟨l, _, rfl, .inl (SqL.of (s2 _ _ hl)), fun p np => q _ _ (fun a o e => by rw [upd_ne (ne_of_none e np)]; exact e) ⟨p, rfl, s2.free np, upd_same⟩⟩
    · obtain ⟨d, ev, nd, hd⟩ := p3
      subst ev
      exact kk d H3 (Good.ext r1 r3) (Good.free r1 nd) hd
theorem sc_Chances_worth_of : FnScope ["self", "numbers", "number"] ["self", "numbers"] (defScope (inClass (top 9) 2)) := ⟨rfl, rfl, rfl, by decide +kernel, rfl, by decide +kernel, by decide +kernel⟩
theorem ok_Chances_worth_of (T : Txt K mg A) : FnOk P w K mg base CX0 1 A.f_Chances_worth_of A.d_Chances_worth_of ["self", "numbers"] (sp_Chances_worth_of K A) := by
  refine T.F_Chances_worth_of.ok sc_Chances_worth_of (fun vs H Q E h => sp2_len h) (fun cdv Ar outer s H vs Q E hr h => ⟨_,
      (pss_one (ps_ret (pe_callB (cr_sum rfl) (by rfl) T.sum (by decide +kernel) (pa_cons (pe_lc (own := [("number", 2)]) (g := gName 2) (tt := tYes) (te := (tFld K (tOp (rIxL K) (tFld K (tVar 0) "others") (tVar 2)) "worth")) rfl sc_Chances_worth_of.nd (pi_list (pv 1)) (blkOk_by (own := [("number", 2)]) (N := ["self", "numbers", "number"]) (sc := defScope (inClass (top 9) 2)) (by decide +kernel)) (fun _ _ _ _ _ => (pg_name (i := 2) sc_Chances_worth_of.nd rfl (Or.inl rfl))) (fun _ _ _ _ _ => pts_nil) (fun _ _ _ _ _ => (pe_fld (pe_ix ix_list (pe_fld (pv 0) rfl) (pv 2) (fun _ _ => rfl)) rfl))) pa_nil)))), ?_⟩)
  obtain ⟨_, _, rfl, ch, wa, da, ea, oa, kd, na, D, l, rfl, rfl, hc, hl, hs, hi, k⟩ := h
  obtain ⟨os, ho, hol⟩ := hc.ot
  refine s_ret (R := Same) (P := Is (N (Kp373.worthOf D l))) (Same.refl _) ?_ (fun v H1 s ev => by cases ev; exact k H1 s)
  refine ev_cbN (ea_one (ev_lcS (xs := Ns l) (f := fun _ => true) (Pe := fun i => Is (N (match D.aims[l.getD i 0]? with
    | some x => x.worth
    | none => 0))) ((ev_var rfl).imp fun u H1 s eu => ⟨na, eu, s _ _ hl⟩) (by rw [List.length_map]; omega) (fun i x H1 hx s => ?_) (fun D i v H' H2 l _ p _ _ _ => p))) fun us H1 e ⟨x, eus, d, ys, ex, hD, hd, hel⟩ Q' q' => ?_
  · rw [List.getElem?_map] at hx
    cases hy : l[i]? with
    | none =>
      rw [hy] at hx
      cases hx
    | some y =>
      rw [hy] at hx
      have ex : N y = x := Option.some.inj hx
      subst ex
      have hlt := hi y (List.mem_of_getElem? hy)
      obtain ⟨a, ha, hoa⟩ := hol.2 y _ (List.getElem?_eq_getElem hlt)
      refine ⟨_, fun Q q => q, rfl, fun H2 e Q q => q H2 (Same.refl _), fun _ => ?_⟩
      rw [List.getD_eq_getElem?_getD, hy]
      show Ev Same _ _ _ (Is (N (match D.aims[y]? with
        | some x => x.worth
        | none => 0)))
      rw [List.getElem?_eq_getElem hlt]
      exact ev_fld (ev_ixL (ev_fld (ev_var rfl) ((hc.keep s).others T)) (ev_var rfl) (s _ _ ho) ha) ((hoa.keep s).worth T)
  · subst eus ex
    have ey := hel.map
    rw [filt_all, List.length_map] at ey
    have e2 : ys = (l.map fun i => ((match D.aims[i]? with
        | some x => x.worth
        | none => 0 : Nat) : Int)).map V.int := by
      rw [ey, List.map_map]
      exact range_map (fun i => N (match D.aims[i]? with
        | some x => x.worth
        | none => 0)) 0 l
    refine ⟨d, _, rfl, SqL.of (by rw [← e2]; exact hd), ?_⟩
    rw [worth_sum]
    exact q' _ H1 (Same.refl _) rfl
theorem sc_Chances_kept : FnScope ["self", "state"] ["self", "state"] (defScope (inClass (top 9) 3)) := ⟨rfl, rfl, rfl, by decide +kernel, rfl, by decide +kernel, by decide +kernel⟩
theorem ok_Chances_kept (T : Txt K mg A) : FnOk P w K mg base CX0 6 A.f_Chances_kept A.d_Chances_kept ["self", "state"] (sp_Chances_kept K A) := by
  refine T.F_Chances_kept.ok sc_Chances_kept (fun vs H Q E h => sp2_len h) (fun cdv Ar outer s H vs Q E hr h => ⟨_,
      (pss_one (ps_ret (pe_meth (pv 0) T.c_Chances T.m_Chances_worth_of (ok_Chances_worth_of T) (hr.mono (by decide)) T.b_Chances_worth_of .nil pass0 (pa_cons (pe_meth (pv 0) T.c_Chances T.m_Chances_possible (ok_Chances_possible T) (hr.mono (by decide)) T.b_Chances_possible .nil pass0 (pa_cons (pv 1) pa_nil)) pa_nil)))), ?_⟩)
  obtain ⟨_, _, rfl, ch, wa, da, ea, oa, kd, D, n, X, rfl, rfl, hc, ok, hn, hk, kk⟩ := h
  refine s_ret (R := RK kd D X) (P := Is (N (Kp373.keeps D n))) (rk_refl hk) ?_ (fun v H1 s ev => by cases ev; exact kk H1 s)
  refine ev_methA (ev_var rfl) hc.m (ea_one (ev_meth (ev_var rfl) hc.m (ea_cons (ev_var rfl) ea_nil) fun H1 e => do_Chances_possible e (hc.keep e) ok hn)) fun us H1 e ⟨x, eus, p, ex, np, hp⟩ => ?_
  subst eus ex
  exact do_Chances_worth_of (Good.here e) (hc.keep e) hp (Nat.le_trans (openAt_len D n) (Nat.le_trans ok.na (by decide))) fun i hi => openAt_lt hi
theorem sc_Chances_lost : FnScope ["self", "state", "steps", "here", "waited", "number"] ["self", "state", "steps"] (defScope (inClass (top 9) 4)) := ⟨rfl, rfl, rfl, by decide +kernel, rfl, by decide +kernel, by decide +kernel⟩
theorem ok_Chances_lost (T : Txt K mg A) : FnOk P w K mg base CX0 6 A.f_Chances_lost A.d_Chances_lost ["self", "state", "steps"] (sp_Chances_lost K A) := by
  refine T.F_Chances_lost.ok sc_Chances_lost (fun vs H Q E h => sp3_len h) (fun cdv Ar outer s H vs Q E hr h => ⟨_,
      (pss_cons (ps_set (i := 3) sc_Chances_lost.nd rfl (Or.inr rfl) (pe_meth (pv 0) T.c_Chances T.m_Chances_possible (ok_Chances_possible T) (hr.mono (by decide)) T.b_Chances_possible .nil pass0 (pa_cons (pv 1) pa_nil)))
      (pss_cons (ps_set (i := 4) sc_Chances_lost.nd rfl (Or.inl rfl) (pe_meth (pe_fld (pv 0) rfl) T.c_World T.m_World_waited (ok_World_waited T) (hr.mono (by decide)) T.b_World_waited .nil pass0 (pa_cons (pe_fld (pe_fld (pv 0) rfl) rfl) (pa_cons (pv 2) pa_nil))))
      (pss_one (ps_ret (pe_lc (own := [("number", 5)]) (g := gName 5) (tt := (tTest (tOp (rIn K true) (tVar 5) (tVar 3)))) (te := (tVar 5)) rfl sc_Chances_lost.nd (pi_list (pe_meth (pv 0) T.c_Chances T.m_Chances_possible (ok_Chances_possible T) (hr.mono (by decide)) T.b_Chances_possible .nil pass0 (pa_cons (pv 4) pa_nil))) (blkOk_by (own := [("number", 5)]) (N := ["self", "state", "steps", "here", "waited", "number"]) (sc := defScope (inClass (top 9) 4)) (by decide +kernel)) (fun _ _ _ _ _ => (pg_name (i := 5) sc_Chances_lost.nd rfl (Or.inl rfl))) (fun _ _ _ _ _ => (pts_one (pt_cmpR op_notIn_seq (pv 5) (pv 3) rfl))) (fun _ _ _ _ _ => (pv 5))))))), ?_⟩)
  obtain ⟨_, _, _, rfl, ch, wa, da, ea, oa, kd, D, n, k, X, rfl, rfl, rfl, hc, ok, hn, hk100, hk, kk⟩ := h
  have r0 : RK kd D X H H := rk_refl hk
  refine s_set (R := RK kd D X) r0 (ev_meth (ev_var rfl) hc.m (ea_cons (ev_var rfl) ea_nil) fun H1 e => do_Chances_possible e (hc.keep e) ok hn) (fun v H1 r1 ⟨p, ev, np, hp⟩ => ?_)
  subst ev
  have hc1 := hc.keep r1
  have lt := KpM.itself_lt ok.w k D.world.now ok.w.now
  refine s_set (R := RK kd D X) (P := Is (N (Kp371.itself D.world D.world.now k))) (Good.here r1) (ev_meth (ev_fld (ev_var rfl) (hc1.world T)) hc1.wd.m (ea_cons (ev_fld (ev_fld (ev_var rfl) (hc1.world T)) (hc1.wd.fstate T)) (ea_cons (ev_var rfl) ea_nil)) fun H2 e => do_World_waited (Good.here e) (hc1.wd.keep e) ok.w ok.w.now hk100) (fun v H2 r2 ev => ?_)
  cases ev
  have r02 := Good.trans r1 r2
  have hc2 := hc.keep r02
  have hp2 : H2 p = some (.lst (Ns (Kp373.openAt D n))) := Good.keep r2 hp lst_nd
  with_reducible show tRet _ _ _ _
  refine s_ret (R := RK kd D X) (P := NewL H (Ns (Kp373.losesAt D n k))) (Good.here r02) ?_ (fun v H3 r3 p3 => ?_)
  rotate_left
  · obtain ⟨d, ev, nd, hd⟩ := p3
    subst ev
    exact kk d H3 (Good.trans r02 r3) nd hd
  refine Ev.imp (P := NewC H2 (fun i => !(Kp373.openAt D n).contains ((Kp373.openAt D (Kp371.itself D.world D.world.now k)).getD i 0)) (fun i => Is (N ((Kp373.openAt D (Kp371.itself D.world D.world.now k)).getD i 0))) (Kp373.openAt D (Kp371.itself D.world D.world.now k)).length) ?_ (fun v H3 r3 ⟨d, ys, ev, nd, hd, hel⟩ => ⟨d, ev, Good.free r02 nd, ?_⟩)
  · have len : (Ns (Kp373.openAt D (Kp371.itself D.world D.world.now k))).length = (Kp373.openAt D (Kp371.itself D.world D.world.now k)).length := List.length_map ..
    rw [← len]
    refine ev_lcL ((ev_meth (ev_var rfl) hc2.m (ea_cons (ev_var rfl) ea_nil) fun H3 e => do_Chances_possible (Good.trans (Good.here r02) e) (hc2.keep e) ok lt).imp fun v H3 r3 ⟨p, ev, _, hp⟩ => ⟨p, ev, hp⟩) (by rw [len]; exact Nat.le_trans (openAt_len D _) (Nat.le_trans ok.na (by decide))) (fun d i x H3 hx rr k3 => ?_) (fun _ i v H' H2 l _ p _ _ _ => p)
    have ex : x = N ((Kp373.openAt D (Kp371.itself D.world D.world.now k)).getD i 0) := by
      rw [List.getElem?_map] at hx
      rw [List.getD_eq_getElem?_getD]
      cases hy : (Kp373.openAt D (Kp371.itself D.world D.world.now k))[i]? with
      | none =>
        rw [hy] at hx
        cases hx
      | some y =>
        rw [hy] at hx
        exact (Option.some.inj hx).symm
    subst ex
    have pk : p ≠ kd := fun z => by
      obtain ⟨ss, ls, h, _⟩ := r2.1
      rw [← z, hp] at h
      cases h
    have hp3 : H3 p = some (.lst (Ns (Kp373.openAt D n))) := k3 _ _ pk hp2
    refine ⟨_, fun Q q => q, rfl, et_test (ev_op (ev_var rfl) (ev_var rfl) fun H4 e Q q => ⟨p, _, rfl, .inl (SqL.of (Good.keep e hp3 lst_nd)), rfl, flat_ns _, ?_⟩), fun _ => ev_var rfl⟩
    rw [inV_ns]
    exact q _ H4 (Good.here e) rfl
  · rw [hd, hel.map, filt_range (fun x => !(Kp373.openAt D n).contains x) (fun x => N x) 0]
    rfl
theorem sc_Chances_loss : FnScope ["self", "state", "steps"] ["self", "state", "steps"] (defScope (inClass (top 9) 5)) := ⟨rfl, rfl, rfl, by decide +kernel, rfl, by decide +kernel, by decide +kernel⟩
theorem ok_Chances_loss (T : Txt K mg A) : FnOk P w K mg base CX0 7 A.f_Chances_loss A.d_Chances_loss ["self", "state", "steps"] (sp_Chances_loss K A) := by
  refine T.F_Chances_loss.ok sc_Chances_loss (fun vs H Q E h => sp3_len h) (fun cdv Ar outer s H vs Q E hr h => ⟨_,
      (pss_one (ps_ret (pe_meth (pv 0) T.c_Chances T.m_Chances_worth_of (ok_Chances_worth_of T) (hr.mono (by decide)) T.b_Chances_worth_of .nil pass0 (pa_cons (pe_meth (pv 0) T.c_Chances T.m_Chances_lost (ok_Chances_lost T) (hr.mono (by decide)) T.b_Chances_lost .nil pass0 (pa_cons (pv 1) (pa_cons (pv 2) pa_nil))) pa_nil)))), ?_⟩)
  obtain ⟨_, _, _, rfl, ch, wa, da, ea, oa, kd, D, n, k, X, rfl, rfl, rfl, hc, ok, hn, hk100, hk, kk⟩ := h
  refine s_ret (R := RK kd D X) (P := Is (N (Kp373.loss D n k))) (rk_refl hk) ?_ (fun v H1 s ev => by cases ev; exact kk H1 s)
  refine ev_methA (ev_var rfl) hc.m (ea_one (ev_meth (ev_var rfl) hc.m (ea_cons (ev_var rfl) (ea_cons (ev_var rfl) ea_nil)) fun H1 e => do_Chances_lost e (hc.keep e) ok hn hk100)) fun us H1 e ⟨x, eus, p, ex, np, hp⟩ => ?_
  subst eus ex
  exact do_Chances_worth_of (Good.here e) (hc.keep e) hp (Nat.le_trans (losesAt_len D n k) (Nat.le_trans ok.na (by decide))) fun i hi => losesAt_lt hi
end
end Kw
set_option maxRecDepth 100000
set_option maxHeartbeats 400000
namespace Kw
open PySem PySem.Spec PyProof.Rows L2
/-- what a call that is refused with n leaves -/
def Rz (A : Ad) (H : Hp) (E : XK) (n : Int) : Prop := ∀ d H', Same H H' → H' d = some (.xd [("number", .int n)]) → E (.ref A.CRefused) (some d) H'
theorem Rz.mono {A : Ad} {H H' : Hp} {E : XK} {n : Int} (h : Rz A H E n) (s : Same H H') : Rz A H' E n := fun d H2 s2 e => h d H2 (s.trans s2) e
def sp_Refused_init (K : PySem.W.Frag) (A : Ad) : Sp := Sp2 fun s m H Q E => ∃ (a : Addr) (n : Int), s = .ref a ∧ m = .int n ∧ H a = some (exo a A.CRefused none) ∧
  ∀ dx, H dx = none → dx ≠ a → Q .non (upd (upd H dx (exd dx [("number", .int n)])) a (exo a A.CRefused (some dx)))
def sp_refuse_if (K : PySem.W.Frag) (A : Ad) : Sp := Sp2 fun s m H Q E => ∃ (b : Bool) (n : Int), s = .bl b ∧ m = .int n ∧ (b = true → Rz A H E n) ∧ (b = false → ∀ H', Same H H' → Q .non H')
section
variable {P : Program} {w : World} {K : PySem.W.Frag} {mg : Str → Option Value} {base : Heap} {A : Ad}
theorem sc_Refused_init : FnScope ["self", "number"] ["self", "number"] (defScope (inClass (top 11) 0)) := ⟨rfl, rfl, rfl, by decide +kernel, rfl, by decide +kernel, by decide +kernel⟩
theorem ok_Refused_init (T : Txt K mg A) : FnOk P w K mg base CX0 1 A.f_Refused_init A.d_Refused_init ["self", "number"] (sp_Refused_init K A) := by
  refine T.F_Refused_init.ok sc_Refused_init (fun vs H Q E h => sp2_len h) (fun cdv Ar outer s H vs Q E hr h => ⟨_,
      (pss_cons (ps_expr (pe_veinit rfl T.ValueError T.vV (pa_cons (pv 0) (pa_cons pe_str pa_nil))))
      (pss_one (ps_ost (pv 0) (pv 1)))), ?_⟩)
  obtain ⟨_, _, rfl, a, n, rfl, rfl, ha, k⟩ := h
  refine ⟨_, rfl, a, A.CRefused, [.str (Str.ofString "refused")], rfl, by simp, T.oex, ha, ?_⟩
  exact ⟨_, rfl, _, rfl, a, A.CRefused, rfl, T.oex, T.nR_number, .inl ⟨ha, fun dx h1 h2 => k dx h1 h2⟩⟩
theorem sc_refuse_if : FnScope ["is_so", "number"] ["is_so", "number"] (defScope (top 12)) := ⟨rfl, rfl, rfl, by decide +kernel, rfl, by decide +kernel, by decide +kernel⟩
theorem ok_refuse_if (T : Txt K mg A) : FnOk P w K mg base (L2.CX P w) 3 A.f_refuse_if A.d_refuse_if ["is_so", "number"] (sp_refuse_if K A) := by
  refine T.F_refuse_if.okX sc_refuse_if (fun vs H Q E h => sp2_len h) (fun cdv Ar outer s H vs Q E hr h => ⟨_,
      (pss_one (ps_if (pt_val (pv 0))
        (pss_one (ps_raise rfl (takes_of rfl rfl rfl rfl) (pmk_oex T.oex T.iR T.tyR (ok_Refused_init T) (hr.mono (by decide)) T.b_Refused_init .nil pass0 rfl T.gC_Refused (pa_cons (pv 1) pa_nil)))) pss_nil)), ?_⟩)
  obtain ⟨_, _, rfl, b, n, rfl, rfl, k1, k2⟩ := h
  refine ⟨_, rfl, b, rfl, ?_⟩
  cases b with
  | false => exact k2 rfl H (Same.refl _)
  | true =>
    refine ⟨_, rfl, by simp, fun a na => ⟨_, _, rfl, a, n, rfl, rfl, upd_same, fun dx h1 h2 => ⟨rfl, dx, [("number", .int n)], upd_same, by rw [upd_ne h2, upd_same], by rw [upd_ne h2] at h1; exact h1, k1 rfl dx _ (fun c o e => ?_) upd_same⟩⟩⟩
    rw [upd_ne h2] at h1
    have ca : c ≠ a := ne_of_none e na
    have cd : c ≠ dx := ne_of_none e h1
    rw [upd_ne cd, del_ne ca, upd_ne ca, upd_ne cd, upd_ne ca]
    exact e
end
end Kw
set_option maxRecDepth 100000
set_option maxHeartbeats 400000
namespace Kw
open PySem PySem.Spec PyProof.Rows L2
/-! ### tables of rows; ends -/
abbrev tabK (pf : Nat → Addr) (rows : List (Nat × List Nat)) : List (Key × V) := rows.map fun sr : Nat × List Nat => ((Sum.inl (sr.1 : Int) : Key), V.ref (pf sr.1))
/-- at d: a table, for each state a place of a row of numbers -/
def TabAt (F : Addr → Prop) (H : Hp) (d : Addr) (rows : List (Nat × List Nat)) : Prop := ∃ pf : Nat → Addr, H d = some (.dK (tabK pf rows)) ∧ ∀ sr ∈ rows, H (pf sr.1) = some (.lst (Ns sr.2)) ∧ F (pf sr.1)
theorem TabAt.keep {F : Addr → Prop} {H H' : Hp} {d : Addr} {rows : List (Nat × List Nat)} (h : TabAt F H d rows) (s : Same H H') : TabAt F H' d rows := by
  obtain ⟨pf, h1, h2⟩ := h
  exact ⟨pf, s _ _ h1, fun sr hs => ⟨s _ _ (h2 sr hs).1, (h2 sr hs).2⟩⟩
theorem TabAt.imp {F F' : Addr → Prop} {H : Hp} {d : Addr} {rows : List (Nat × List Nat)} (h : TabAt F H d rows) (k : ∀ a, F a → F' a) : TabAt F' H d rows := by
  obtain ⟨pf, h1, h2⟩ := h
  exact ⟨pf, h1, fun sr hs => ⟨(h2 sr hs).1, k _ (h2 sr hs).2⟩⟩
theorem valV_tab (pf : Nat → Addr) (o : Nat) : ∀ rows : List (Nat × List Nat), valV (tabK pf rows) (Sum.inl (o : Int)) = (KpM.getR rows o).map fun _ => V.ref (pf o)
  | [] => rfl
  | a :: rows => by
    have ih := valV_tab pf o rows
    by_cases c : a.1 = o
    · rw [show tabK pf (a :: rows) = (Sum.inl (a.1 : Int), V.ref (pf a.1)) :: tabK pf rows from rfl, valV_pos (by show Sum.inl (a.1 : Int) = Sum.inl (o : Int); rw [c]), c]
      unfold KpM.getR
      rw [List.find?_cons_of_pos (by simpa using c)]
      rfl
    · rw [show tabK pf (a :: rows) = (Sum.inl (a.1 : Int), V.ref (pf a.1)) :: tabK pf rows from rfl, valV_neg (by show ¬ Sum.inl (a.1 : Int) = Sum.inl (o : Int); intro z; have := Sum.inl.inj z; omega), ih]
      unfold KpM.getR
      rw [List.find?_cons_of_neg (by simpa using c)]
theorem putK_tab (pf : Nat → Addr) (o : Nat) (q : Addr) (l : List Nat) (rows : List (Nat × List Nat)) : putK (tabK pf rows) (Sum.inl (o : Int)) (V.ref q) = tabK (fun s => if s = o then q else pf s) (KpM.putR rows o l) := by
  have ea : ((tabK pf rows).any fun kv => decide (kv.1 = (Sum.inl (o : Int) : Key))) = rows.any fun kv => decide (kv.1 = o) := by
    rw [List.any_map]
    congr 1
    funext kv
    exact key_dec kv.1 o
  unfold putK KpM.putR
  rw [ea]
  by_cases c : (rows.any fun kv => decide (kv.1 = o)) = true
  · rw [if_pos c, if_pos c]
    show (rows.map fun sr : Nat × List Nat => ((Sum.inl (sr.1 : Int) : Key), V.ref (pf sr.1))).map _ = (rows.map _).map _
    rw [List.map_map, List.map_map]
    refine List.map_congr_left fun kv _ => ?_
    by_cases e : kv.1 = o
    · show (if (Sum.inl (kv.1 : Int) : Key) = Sum.inl (o : Int) then ((Sum.inl (kv.1 : Int) : Key), V.ref q) else (Sum.inl (kv.1 : Int), V.ref (pf kv.1))) = ((Sum.inl ((if kv.1 = o then (kv.1, l) else kv).1 : Int) : Key), V.ref (if (if kv.1 = o then (kv.1, l) else kv).1 = o then q else pf (if kv.1 = o then (kv.1, l) else kv).1))
      rw [if_pos (by rw [e]), if_pos e, if_pos (show (kv.1, l).1 = o from e)]
    · show (if (Sum.inl (kv.1 : Int) : Key) = Sum.inl (o : Int) then ((Sum.inl (kv.1 : Int) : Key), V.ref q) else (Sum.inl (kv.1 : Int), V.ref (pf kv.1))) = ((Sum.inl ((if kv.1 = o then (kv.1, l) else kv).1 : Int) : Key), V.ref (if (if kv.1 = o then (kv.1, l) else kv).1 = o then q else pf (if kv.1 = o then (kv.1, l) else kv).1))
      rw [if_neg (fun z => e (by have := Sum.inl.inj z; omega)), if_neg e, if_neg e]
  · rw [if_neg c, if_neg c]
    show _ = List.map _ (rows ++ [(o, l)])
    rw [List.map_append]
    congr 1
    · refine List.map_congr_left fun kv hkv => ?_
      have e : kv.1 ≠ o := fun z => c (List.any_eq_true.mpr ⟨kv, hkv, decide_eq_true z⟩)
      show ((Sum.inl (kv.1 : Int) : Key), V.ref (pf kv.1)) = (Sum.inl (kv.1 : Int), V.ref (if kv.1 = o then q else pf kv.1))
      rw [if_neg e]
    · show [((Sum.inl (o : Int) : Key), V.ref q)] = [(Sum.inl (o : Int), V.ref (if o = o then q else pf o))]
      rw [if_pos rfl]
theorem TabAt.put {F : Addr → Prop} {H : Hp} {d q : Addr} {rows : List (Nat × List Nat)} {o : Nat} {l : List Nat} {pf : Nat → Addr} (h1 : H d = some (.dK (tabK pf rows))) (h2 : ∀ sr ∈ rows, H (pf sr.1) = some (.lst (Ns sr.2)) ∧ F (pf sr.1)) (hq : H q = some (.lst (Ns l))) (fq : F q) : TabAt F (upd H d (.dK (putK (tabK pf rows) (Sum.inl (o : Int)) (V.ref q)))) d (KpM.putR rows o l) := by
  have nd : ∀ {x : Addr} {l : List V}, H x = some (.lst l) → x ≠ d := fun {x l} e z => by
    rw [z, h1] at e
    cases e
  refine ⟨fun s => if s = o then q else pf s, by rw [upd_same, putK_tab pf o q l], fun sr hs => ?_⟩
  rcases KpM.mem_putR.mp hs with e | ⟨hs, hk⟩
  · rw [e]
    dsimp only
    rw [if_pos rfl, upd_ne (nd hq)]
    exact ⟨hq, fq⟩
  · dsimp only
    rw [if_neg hk, upd_ne (nd (h2 sr hs).1)]
    exact h2 sr hs
/-- all but tables stays -/
def ND (H H' : Hp) : Prop := (∀ a o, H a = some o → (∀ kvs, o ≠ HO.dK kvs) → H' a = some o) ∧ ∀ a, H' a = none → H a = none
instance : Good ND := ⟨fun r q => ⟨fun a o e n => q.1 a o (r.1 a o e n) n, fun a e => r.2 a (q.2 a e)⟩, fun r s => ⟨fun a o e n => s a o (r.1 a o e n), fun a e => r.2 a (s.free e)⟩, fun _ => ⟨fun _ _ e _ => e, fun _ e => e⟩, fun r e n => r.1 _ _ e n, fun r n => r.2 _ n⟩
theorem nd_of {H H' : Hp} {d : Addr} {kvs : List (Key × V)} {o : HO} (hd : H d = some (.dK kvs)) (hf : H' d = some o) (kp : ∀ a o, a ≠ d → H a = some o → H' a = some o) : ND H H' := by
  refine ⟨fun a o e n => kp a o (fun z => ?_) e, fun a e => ?_⟩
  · rw [z, hd] at e
    exact n kvs (Option.some.inj e).symm
  · cases h : H a with
    | none => rfl
    | some u =>
      by_cases z : a = d
      · rw [z, hf] at e
        cases e
      · rw [kp a u z h] at e
        cases e
theorem same_upd {H : Hp} {p : Addr} {o : HO} (n : H p = none) : Same H (upd H p o) := fun a u e => by
  rw [upd_ne (ne_of_none e n)]
  exact e
section
variable {R : Hp → Hp → Prop} [G : Good R] {σ : L2.St} {H : Hp} {ta tb : TE} {a : Addr} {xs ys : List V}
theorem ev_catN (ha : Ev R ta σ H (Is (.ref a))) (hl : H a = some (.lst xs)) (hb : Ev R tb σ H (IsL ys)) (hn : xs.length + ys.length ≤ sizeLine) : Ev R (tOp rCat ta tb) σ H (NewL H (xs ++ ys)) :=
  ev_opN ha hb fun y H1 e ⟨q, ey, hq⟩ Q k => ⟨a, q, xs, ys, rfl, ey, G.keep e hl lst_nd, hq, hn, fun p np => k _ _ (G.ext (G.here e) (same_upd np)) ⟨p, rfl, G.free e np, upd_same⟩⟩
theorem ev_catN1 (ha : Ev R ta σ H (IsL xs)) (hb : ∀ H1, R H H1 → Ev R tb σ H1 (Is (.ref a))) (hl : H a = some (.lst ys)) (hn : xs.length + ys.length ≤ sizeLine) : Ev R (tOp rCat ta tb) σ H (NewL H (xs ++ ys)) :=
  ev_opN1 ha (fun _ H1 e _ => hb H1 e) fun x y H1 H2 e ⟨q, ex, hq⟩ e2 ey Q k => by
    cases ey
    exact ⟨q, a, xs, ys, ex, rfl, G.keep e2 hq lst_nd, G.keep (G.trans e e2) hl lst_nd, hn, fun p np => k _ _ (G.ext (G.here e2) (same_upd np)) ⟨p, rfl, G.free (G.trans e e2) np, upd_same⟩⟩
end
theorem foll_len {w : Kp371.World} (ok : KpM.OkW w) (s : Nat) : (KpM.foll w s).length ≤ 7 := by
  unfold KpM.foll Kp371.choices
  rw [List.length_map]
  have := List.length_filter_le (KpM.letBy w s) (List.range (w.deeds.length + 1))
  rw [List.length_range] at this
  have := ok.nd
  omega
theorem nextOne_eq (row : List Nat) (found : List (Nat × List Nat)) (p : Nat × Nat) : KpM.nextOne row found p = if (!(KpM.getR found p.2).isSome || (match KpM.getR found p.2 with
    | some r => KpM.lexlt (row ++ [p.1]) r
    | none => false)) = true then KpM.putR found p.2 (row ++ [p.1]) else found := by
  unfold KpM.nextOne
  cases KpM.getR found p.2 with
  | none => rfl
  | some r => rfl
theorem nextOne_len {row : List Nat} {found : List (Nat × List Nat)} {p : Nat × Nat} : (KpM.nextOne row found p).length ≤ found.length + 1 := by
  unfold KpM.nextOne
  split
  · exact KpM.len_putR
  · split
    · exact KpM.len_putR
    · omega
def EndAt (F : Addr → Prop) (H : Hp) (t : Addr) (e : Nat × Nat × List Nat) : Prop := ∃ q, H t = some (.tup [N e.1, N e.2.1, .ref q]) ∧ H q = some (.lst (Ns e.2.2)) ∧ F q
def EndsAt (F : Addr → Prop) (H : Hp) (p : Addr) (es : List (Nat × Nat × List Nat)) : Prop := ∃ vs, H p = some (.lst vs) ∧ ListAt (EndAt F H) vs es
def TripAt (H : Hp) (t : Addr) (e : Int × Nat × List Nat) : Prop := ∃ q, H t = some (.tup [.int e.1, N e.2.1, .ref q]) ∧ H q = some (.lst (Ns e.2.2))
def TripsAt (H : Hp) (p : Addr) (es : List (Int × Nat × List Nat)) : Prop := ∃ vs, H p = some (.lst vs) ∧ ListAt (TripAt H) vs es
section
variable {R : Hp → Hp → Prop} [G : Good R] {H H' : Hp}
theorem EndAt.keep {F : Addr → Prop} {t : Addr} {e : Nat × Nat × List Nat} (h : EndAt F H t e) (s : R H H') : EndAt F H' t e := by
  obtain ⟨q, h1, h2, h3⟩ := h
  exact ⟨q, G.keep s h1 tup_nd, G.keep s h2 lst_nd, h3⟩
theorem EndAt.imp {F F' : Addr → Prop} {t : Addr} {e : Nat × Nat × List Nat} (h : EndAt F H t e) (k : ∀ a, F a → F' a) : EndAt F' H t e := by
  obtain ⟨q, h1, h2, h3⟩ := h
  exact ⟨q, h1, h2, k _ h3⟩
theorem TripAt.keep {t : Addr} {e : Int × Nat × List Nat} (h : TripAt H t e) (s : R H H') : TripAt H' t e := by
  obtain ⟨q, h1, h2⟩ := h
  exact ⟨q, G.keep s h1 tup_nd, G.keep s h2 lst_nd⟩
theorem EndsAt.imp {F F' : Addr → Prop} {p : Addr} {es : List (Nat × Nat × List Nat)} (h : EndsAt F H p es) (k : ∀ a, F a → F' a) : EndsAt F' H p es := by
  obtain ⟨vs, h1, h2⟩ := h
  exact ⟨vs, h1, h2.imp fun _ _ z => z.imp k⟩
theorem EndsAt.keep {F : Addr → Prop} {p : Addr} {es : List (Nat × Nat × List Nat)} (h : EndsAt F H p es) (s : R H H') : EndsAt F H' p es := by
  obtain ⟨vs, h1, h2⟩ := h
  exact ⟨vs, G.keep s h1 lst_nd, h2.imp fun _ _ z => z.keep s⟩
theorem TripsAt.keep {p : Addr} {es : List (Int × Nat × List Nat)} (h : TripsAt H p es) (s : R H H') : TripsAt H' p es := by
  obtain ⟨vs, h1, h2⟩ := h
  exact ⟨vs, G.keep s h1 lst_nd, h2.imp fun _ _ z => z.keep s⟩
end
theorem ListAt.append {α : Type} {P : Addr → α → Prop} {vs us : List V} {xs ys : List α} (h : ListAt P vs xs) (k : ListAt P us ys) : ListAt P (vs ++ us) (xs ++ ys) := by
  refine ⟨by rw [List.length_append, List.length_append, h.1, k.1], fun i y e => ?_⟩
  rw [List.getElem?_append] at e ⊢
  rw [h.1]
  by_cases hi : i < xs.length
  · rw [if_pos hi] at e ⊢
    exact h.2 i y e
  · rw [if_neg hi] at e ⊢
    exact k.2 _ y e
theorem El.list {α : Type} {f : Nat → Bool} {P : Hp → Addr → α → Prop} {e : Nat → α} {n : Nat} {ys : List V} {H : Hp} (h : El f (fun i v H => ∃ t, v = .ref t ∧ P H t (e i)) n ys H) : ListAt (P H) ys (((List.range n).filter f).map e) := by
  refine ⟨by rw [h.1, List.length_map], fun k x ex => ?_⟩
  rw [List.getElem?_map] at ex
  cases hk : ((List.range n).filter f)[k]? with
  | none =>
    rw [hk] at ex
    cases ex
  | some i =>
    rw [hk] at ex
    have ex : e i = x := Option.some.inj ex
    have hl := (List.getElem?_eq_some_iff.mp hk).1
    have hy : ys[k]? = some (ys[k]'(by rw [h.1]; exact hl)) := List.getElem?_eq_getElem _
    obtain ⟨t, et, ht⟩ := h.2 k i _ hk hy
    exact ⟨t, by rw [hy, et], by rw [← ex]; exact ht⟩
/-- over a table's items, the table locked meanwhile -/
theorem ev_lcI {σ : L2.St} {H : Hp} {g : TG} {tt : TT} {te : TE} {vs : List Nat} {j : Nat} {d : Addr} {kvs : List (Key × V)} {f : Nat → Bool} {Pe : Nat → Pr} (hv : σ[j]? = some (some (.ref d))) (hd : H d = some (.dK kvs)) (hn : kvs.length ≤ 100000)
    (turn : ∀ (i : Nat) k x H' U, kvs[i]? = some (k, x) → (∀ a o, a ≠ d → H a = some o → H' a = some o) → ND H H' → H' U = some (.tup [kV k, x]) → ∃ σ2, (∀ Q : L2.St → Hp → Prop, Q σ2 H' → g (.ref U) (wipe σ vs) H' Q) ∧ wipe σ2 vs = wipe σ vs ∧ EvT Same tt σ2 H' (f i) ∧ (f i = true → Ev Same te σ2 H' (Pe i)))
    (hPe : ∀ D i v H' H2 l, i < kvs.length → Pe i v H' → H D = none → H' D = some (.lst l) → (∀ a o, a ≠ D → (∀ kvs, o ≠ HO.dK kvs) → (∀ od, H' d = some (.frz od (.dK kvs)) → a ≠ d) → H' a = some o → H2 a = some o) → Pe i v H2) :
    Ev Same (tLockE (tLc (iItems (tVar j)) g tt te vs)) σ H (NewC H f Pe kvs.length) := fun H0 e0 Q q => by
  have h0 : H0 d = some (.dK kvs) := e0 _ _ hd
  refine ⟨d, .dK kvs, h0, trivial, fun od => ?_⟩
  have l0 : ∀ a o, a ≠ d → H0 a = some o → (upd H0 d (.frz od (.dK kvs))) a = some o := fun a o na e => by
    rw [upd_ne na]
    exact e
  have ld : (upd H0 d (.frz od (.dK kvs))) d = some (.frz od (.dK kvs)) := upd_same
  have lr : ∀ a, a ≠ d → (upd H0 d (.frz od (.dK kvs))) a = none → H0 a = none := fun a na e => by
    rw [upd_ne na] at e
    exact e
  generalize upd H0 d (.frz od (.dK kvs)) = L0 at l0 ld lr
  have dD : ∀ D, L0 D = none → D ≠ d := fun D e z => by
    rw [z, ld] at e
    cases e
  refine ⟨_, hv, d, od, kvs, rfl, ld, ?_⟩
  refine lc_gen (Z := Z0) (J := J0) (X := []) (H := L0) (H1 := L0) (It1 := Iti d od kvs) (σ := σ) (g := g) (tt := tt) (te := te) (vs := vs) (f := f) (Pe := Pe) (Q := fun v H' => H' d = some (.frz od (.dK kvs)) ∧ Q v (upd H' d (.dK kvs))) (Y := fun i x H2 => ∃ U k v, x = .ref U ∧ kvs[i]? = some (k, v) ∧ H2 U = some (.tup [kV k, v])) ⟨trivial, trivial, fun _ _ _ e => e⟩ hn (fun i H' hi hk => ?_) (fun H' hk => ?_) (fun D i x H' hi hD rr hk hy => ?_) (fun D i v H' H2 l hi p hD hl' hk => hPe D i v H' H2 l hi p (e0.free (lr D (dD D hD) hD)) hl' fun a o na _ _ e => hk a o (fun z => z) na e) (fun D ys H' hD r hd' hel => ?_)
  · refine ⟨⟨hk _ _ (fun z => z) ld, hi⟩, fun x H2 hy => ?_⟩
    obtain ⟨U, k, v, e1, e2, nU, e3⟩ := hy
    subst e2 e3
    exact ⟨same_upd nU, U, k, v, rfl, e1, upd_same⟩
  · exact ⟨hk _ _ (fun z => z) ld, Nat.le_refl _⟩
  · obtain ⟨U, k, v, ex, e1, hU⟩ := hy
    subst ex
    rw [rl0]
    have kp : ∀ a o, a ≠ d → H a = some o → H' a = some o := fun a o na e => hk a o (fun z => z) (l0 a o na (e0 _ _ e))
    exact turn i k v H' U e1 kp (nd_of hd (hk _ _ (fun z => z) ld) kp) hU
  · have fz : H' d = some (.frz od (.dK kvs)) := r.2.2 _ _ (fun z => z) ld
    have nD := dD D hD
    refine ⟨fz, q _ _ (fun a o e => ?_) ⟨D, ys, rfl, e0.free (lr D nD hD), by rw [upd_ne nD]; exact hd', hel.imp fun i v hi p => hPe D i v H' _ ys hi p (e0.free (lr D nD hD)) hd' fun a o na nk nf e => ?_⟩⟩
    · by_cases z : a = d
      · rw [z, upd_same, ← h0, ← z]
        exact e
      · rw [upd_ne z]
        exact r.2.2 _ _ (fun z => z) (l0 _ _ z e)
    · rw [upd_ne (nf od fz)]
      exact e
theorem s_extend {R : Hp → Hp → Prop} [G : Good R] {K : PySem.W.Frag} {σ : L2.St} {H : Hp} {te : TE} {P : Pr} {Dn : Ends} {i : Nat} {f0 : Addr} {xs : List V} (r0 : R H H) (hv : σ[i]? = some (some (.ref f0))) (hf : H f0 = some (.lst xs)) (h : Ev R te σ H P)
    (k : ∀ v H1, R H H1 → P v H1 → ∃ D zs, v = .ref D ∧ H1 D = some (.lst zs) ∧ xs.length + zs.length ≤ sizeLine ∧ Dn.nx σ (upd H1 f0 (.lst (xs ++ zs)))) : tDrop (tBM K "list" rExtend (tVar i) (tCons te tNil)) Dn σ H :=
  ⟨_, hv, .inl ⟨rfl, _, SqL.of hf⟩, h H r0 _ fun v H1 e p => by
    obtain ⟨D, zs, ev, hd, hz, q⟩ := k v H1 e p
    exact ⟨f0, D, xs, zs, rfl, by rw [ev], G.keep e hf lst_nd, hd, hz, q⟩⟩
theorem rows_fine {w : Kp371.World} (ok : KpM.OkW w) (t : Nat) : ∀ sr ∈ KpM.rowsAt w w.now t, sr.1 < 2 ^ w.m ∧ sr.2.length = t := fun sr hs => by
  have B := (KpM.rowsAt_ok w w.now t).is sr hs
  exact ⟨KpM.R_lt ok ok.now (KpM.R_run.mpr ⟨sr.2, B.1, B.2.1⟩), B.1⟩
/-- all ends of fewer than j steps -/
abbrev endsTo (w : Kp371.World) (f : Nat → Bool) (j : Nat) : List (Nat × Nat × List Nat) := (List.range j).flatMap fun t => ((KpM.rowsAt w w.now t).filter fun sr => f sr.1).map fun sr => (t, sr.1, sr.2)
theorem endsTo_succ (w : Kp371.World) (f : Nat → Bool) (j : Nat) : endsTo w f (j + 1) = endsTo w f j ++ ((KpM.rowsAt w w.now j).filter fun sr => f sr.1).map fun sr => (j, sr.1, sr.2) := by
  unfold endsTo
  rw [List.range_succ, List.flatMap_append, List.flatMap_cons, List.flatMap_nil, List.append_nil]
theorem endsTo_len {w : Kp371.World} (ok : KpM.OkW w) (f : Nat → Bool) : ∀ j, (endsTo w f j).length ≤ 32 * j
  | 0 => Nat.le_refl _
  | j + 1 => by
    have ih := endsTo_len ok f j
    rw [endsTo_succ, List.length_append, List.length_map]
    have h1 := List.length_filter_le (fun sr : Nat × List Nat => f sr.1) (KpM.rowsAt w w.now j)
    have h2 := KpM.rowsAt_len ok j
    omega
def sp_next_rows (K : PySem.W.Frag) (A : Ad) : Sp := Sp2 fun a b H Q E => ∃ (wa da ea d : Addr) (w : Kp371.World) (rows : List (Nat × List Nat)), a = .ref wa ∧ b = .ref d ∧ WorldAt A H wa da ea w ∧ KpM.OkW w ∧ TabAt (fun _ => True) H d rows ∧ rows.length ≤ 100 ∧ (∀ sr ∈ rows, sr.1 < 2 ^ w.m ∧ sr.2.length ≤ 100) ∧
  ∀ p H', Same H H' → H p = none → TabAt (fun a => H a = none) H' p (KpM.nextRows w rows) → Q (.ref p) H'
def sp_all_ends (K : PySem.W.Frag) (A : Ad) : Sp := Sp3 fun a b c H Q E => ∃ (wa da ea aa : Addr) (w : Kp371.World) (f v k : Nat), a = .ref wa ∧ b = .ref aa ∧ c = N k ∧ WorldAt A H wa da ea w ∧ KpM.OkW w ∧ AimAt A H aa f v ∧ k ≤ 90 ∧
  ∀ p H', Same H H' → H p = none → EndsAt (fun _ => True) H' p (KpM.ends w (Kp371.isAim f v) k) → Q (.ref p) H'
def sp_first_of (K : PySem.W.Frag) (A : Ad) : Sp := Sp1 fun a H Q E => ∃ (p : Addr) (es : List (Int × Nat × List Nat)), a = .ref p ∧ TripsAt H p es ∧ (es = [] → ∀ H', Same H H' → Q .non H') ∧ (∀ m t H', KpM.IsMin KpM.lt3 es m → Same H H' → TripAt H' t m → Q (.ref t) H')
section
variable {R : Hp → Hp → Prop} [G : Good R] {K : PySem.W.Frag} {A : Ad} {H0 H : Hp} {wa da ea aa d : Addr} {w : Kp371.World} {rows : List (Nat × List Nat)} {f v k : Nat}
theorem do_next_rows (r0 : R H0 H) (r : R H H) (h : WorldAt A H wa da ea w) (ok : KpM.OkW w) (ht : TabAt (fun _ => True) H d rows) (hn : rows.length ≤ 100) (hr : ∀ sr ∈ rows, sr.1 < 2 ^ w.m ∧ sr.2.length ≤ 100) : Does R (sp_next_rows K A) [.ref wa, .ref d] H (fun u H' => ∃ p, u = .ref p ∧ TabAt (fun a => H0 a = none) H' p (KpM.nextRows w rows)) := fun Q E q =>
  ⟨_, _, rfl, wa, da, ea, d, w, rows, rfl, rfl, h, ok, ht, hn, hr, fun p H' s _ e => q _ H' (G.ext r s) ⟨p, rfl, e.imp fun a n => G.free r0 n⟩⟩
theorem do_all_ends (r0 : R H0 H) (r : R H H) (h : WorldAt A H wa da ea w) (ok : KpM.OkW w) (ha : AimAt A H aa f v) (hk : k ≤ 90) : Does R (sp_all_ends K A) [.ref wa, .ref aa, N k] H (fun u H' => ∃ p, u = .ref p ∧ H0 p = none ∧ EndsAt (fun _ => True) H' p (KpM.ends w (Kp371.isAim f v) k)) := fun Q E q =>
  ⟨_, _, _, rfl, wa, da, ea, aa, w, f, v, k, rfl, rfl, rfl, h, ok, ha, hk, fun p H' s n e => q _ H' (G.ext r s) ⟨p, rfl, G.free r0 n, e⟩⟩
end
abbrev tripD (e : Int × Nat × List Nat) : PyData := .tuple [.int e.1, .int (e.2.1 : Int), .list (e.2.2.map fun n : Nat => PyData.int (n : Int))]
theorem lay_trips : ∀ es : List (Int × Nat × List Nat), PyData.canLayAll0 (es.map tripD) = true ∧ PyData.depthAll (es.map tripD) ≤ 2
  | [] => ⟨rfl, Nat.zero_le _⟩
  | e :: es => by
    obtain ⟨h1, h2⟩ := lay_trips es
    obtain ⟨n1, n2⟩ := lay_nats e.2.2
    refine ⟨?_, ?_⟩
    · show ((true && (true && (PyData.canLayAll0 (e.2.2.map fun n : Nat => PyData.int (n : Int)) && true))) && PyData.canLayAll0 (es.map tripD)) = true
      rw [h1, n1]
      rfl
    · show max (max 0 (max 0 (max (PyData.depthAll (e.2.2.map fun n : Nat => PyData.int (n : Int)) + 1) 0)) + 1) (PyData.depthAll (es.map tripD)) ≤ 2
      rw [n2]
      omega
theorem shaped_trips (es : List (Int × Nat × List Nat)) : SeqAt.shaped (.list (es.map tripD)) = true := by
  obtain ⟨h1, h2⟩ := lay_trips es
  show (PyData.canLayAll0 (es.map tripD) && decide (PyData.depthAll (es.map tripD) + 1 ≤ 64)) = true
  rw [h1, Bool.true_and]
  exact decide_eq_true (by omega)
theorem dp_trips {K : PySem.W.Frag} {H : Hp} : ∀ {vs : List V} {es : List (Int × Nat × List Nat)}, ListAt (TripAt H) vs es → DpAll K H vs (es.map tripD)
  | [], [], _ => .nil
  | [], e :: es, h => by cases h.1
  | v :: vs, [], h => by cases h.1
  | v :: vs, e :: es, h => by
    obtain ⟨a, ha, q, h1, h2⟩ := h.2 0 e rfl
    cases ha
    exact .cons (.tup (SqT.of h1) (.cons (.int _) (.cons (.int _) (.cons (dp_nats h2) .nil)))) (dp_trips ⟨Nat.succ.inj h.1, fun i x hx => h.2 (i + 1) x hx⟩)
theorem lt3_iff {a b : Int × Nat × List Nat} : KpM.lt3 a b = true ↔ a.1 < b.1 ∨ (a.1 = b.1 ∧ (a.2.1 < b.2.1 ∨ (a.2.1 = b.2.1 ∧ KpM.lexlt a.2.2 b.2.2 = true))) := by
  unfold KpM.lt3
  by_cases h1 : a.1 = b.1
  · rw [if_pos h1]
    by_cases h2 : a.2.1 = b.2.1
    · rw [if_pos h2]
      constructor
      · intro h
        exact .inr ⟨h1, .inr ⟨h2, h⟩⟩
      · rintro (h | ⟨_, h | ⟨_, h⟩⟩)
        · omega
        · omega
        · exact h
    · rw [if_neg h2, decide_eq_true_eq]
      constructor
      · intro h
        exact .inr ⟨h1, .inl h⟩
      · rintro (h | ⟨_, h | ⟨h, _⟩⟩)
        · omega
        · exact h
        · exact absurd h h2
  · rw [if_neg h1, decide_eq_true_eq]
    constructor
    · intro h
      exact .inl h
    · rintro (h | ⟨h, _⟩)
      · exact h
      · exact absurd h h1
theorem lt3_irrefl (a : Int × Nat × List Nat) : KpM.lt3 a a = false := by
  unfold KpM.lt3
  rw [if_pos rfl, if_pos rfl, KpM.lexlt_irrefl]
theorem lt3_trans {a b c : Int × Nat × List Nat} (h : KpM.lt3 a b = true) (k : KpM.lt3 b c = true) : KpM.lt3 a c = true := by
  rw [lt3_iff] at h k ⊢
  rcases h with h | ⟨h1, h | ⟨h2, h3⟩⟩ <;> rcases k with k | ⟨k1, k | ⟨k2, k3⟩⟩
  · exact .inl (by omega)
  · exact .inl (by omega)
  · exact .inl (by omega)
  · exact .inl (by omega)
  · exact .inr ⟨by omega, .inl (by omega)⟩
  · exact .inr ⟨by omega, .inl (by omega)⟩
  · exact .inl (by omega)
  · exact .inr ⟨by omega, .inl (by omega)⟩
  · exact .inr ⟨by omega, .inr ⟨by omega, KpM.lexlt_trans h3 k3⟩⟩
theorem ltv_ends {P : Program} {w : World} {H : Hp} {a b : Addr} {e f : Int × Nat × List Nat} (ha : TripAt H a e) (hb : TripAt H b f) : LtV P w 4 H (.ref a) (.ref b) (KpM.lt3 e f) := by
  obtain ⟨p, h1, h2⟩ := ha
  obtain ⟨q, k1, k2⟩ := hb
  have := ltv_trip (P := P) (w := w) (n := 3) h1 k1 (eqvv_nats (by decide) h2 k2) (fun _ => ltv_nats h2 k2)
  have e1 : (if (e.1 == f.1) = true then (if (((e.2.1 : Nat) : Int) == ((f.2.1 : Nat) : Int)) = true then (if decide (e.2.2 = f.2.2) = true then false else KpM.lexlt e.2.2 f.2.2) else decide (((e.2.1 : Nat) : Int) < ((f.2.1 : Nat) : Int))) else decide (e.1 < f.1)) = KpM.lt3 e f := by
    unfold KpM.lt3
    by_cases c1 : e.1 = f.1
    · rw [if_pos (by simpa using c1), if_pos c1]
      by_cases c2 : e.2.1 = f.2.1
      · rw [if_pos (by simp only [beq_iff_eq]; omega), if_pos c2]
        by_cases c3 : e.2.2 = f.2.2
        · rw [if_pos (by simpa using c3), c3, KpM.lexlt_irrefl]
        · rw [if_neg (by simpa using c3)]
      · rw [if_neg (by simp only [beq_iff_eq]; omega), if_neg c2]
        exact decide_eq_decide.mpr (by omega)
    · rw [if_neg (by simpa using c1), if_neg c1]
  rw [e1] at this
  exact this
section
variable {P : Program} {w : World} {K : PySem.W.Frag} {mg : Str → Option Value} {base : Heap} {A : Ad}
theorem sc_next_rows : FnScope ["world", "rows", "found", "state", "row", "choice", "other", "longer"] ["world", "rows"] (defScope (top 14)) := ⟨rfl, rfl, rfl, by decide +kernel, rfl, by decide +kernel, by decide +kernel⟩
theorem ok_next_rows (T : Txt K mg A) : FnOk P w K mg base CX0 4 A.f_next_rows A.d_next_rows ["world", "rows"] (sp_next_rows K A) := by
  refine T.F_next_rows.ok sc_next_rows (fun vs H Q E h => sp2_len h) (fun cdv Ar outer s H vs Q E hr h => ⟨_,
      (pss_cons (ps_set (i := 2) sc_next_rows.nd rfl (Or.inl rfl) pe_dnewK)
      (pss_cons (ps_lock (ps_for PassesOwn.never rfl (pi_items (pv 1)) (pg_tup (n := 2) rfl (pgs_cons (pg_name (i := 3) sc_next_rows.nd rfl (Or.inl rfl)) (pgs_cons (pg_name (i := 4) sc_next_rows.nd rfl (Or.inl rfl)) pgs_nil)))
        (pss_one (ps_for PassesOwn.never rfl (pi_list (pe_meth (pv 0) T.c_World T.m_World_followers (ok_World_followers T) (hr.mono (by decide)) T.b_World_followers .nil pass0 (pa_cons (pv 3) pa_nil))) (pg_tup (n := 2) rfl (pgs_cons (pg_name (i := 5) sc_next_rows.nd rfl (Or.inl rfl)) (pgs_cons (pg_name (i := 6) sc_next_rows.nd rfl (Or.inl rfl)) pgs_nil)))
        (pss_cons (ps_set (i := 7) sc_next_rows.nd rfl (Or.inl rfl) (pe_op op_cat (pv 4) (pe_lst (pa_cons (pv 5) pa_nil))))
      (pss_one (ps_if (PW.pt (pw_or (pt_cmp (pc_dnotin (hu_of hr) (pv 6) (pv 2))) (pw_or1 (pt_cmpR (op_ltL (hu_of hr)) (pv 7) (pe_dget (hu_of hr) (pv 2) (pv 6) (fun _ _ => rfl)) (nomark _)))))
        (pss_one (ps_dput (hu_of hr) (pv 2) (pv 6) (pv 7) rfl)) pss_nil)))))))
      (pss_one (ps_ret (pv 2))))), ?_⟩)
  obtain ⟨_, _, rfl, wa, da, ea, d, w', rows, rfl, rfl, hw, ok, ⟨pf, hd, hrow⟩, hn, hrs, k⟩ := h
  intro fd nfd
  have fdd : fd ≠ d := (ne_of_none hd nfd).symm
  refine ⟨d, .dK (tabK pf rows), (by rw [upd_ne fdd.symm]; exact hd), trivial, fun od => ?_⟩
  have len : (tabK pf rows).length = rows.length := List.length_map ..
  refine ⟨_, rfl, d, od, tabK pf rows, rfl, upd_same, for_it walk_items
    (fun i σ' H' => ∃ (y3 y4 y5 y6 y7 : Option V), σ' = [some (.ref wa), some (.ref d), some (.ref fd), y3, y4, y5, y6, y7] ∧ (∀ a o, a ≠ d → H a = some o → H' a = some o) ∧ H' d = some (.frz od (.dK (tabK pf rows))) ∧
      TabAt (fun a => H a = none) H' fd ((rows.take i).foldl (KpM.nextFrom w') []) ∧ ((rows.take i).foldl (KpM.nextFrom w') []).length ≤ 7 * i) ?_ ?_ ?_ ?_⟩
  · refine ⟨none, none, none, none, none, rfl, fun a o na e => ?_, upd_same, ⟨fun _ => 0, ?_, fun sr hs => by cases hs⟩, Nat.zero_le _⟩
    · rw [upd_ne na, upd_ne (ne_of_none e nfd)]
      exact e
    · rw [upd_ne fdd, upd_same]
      rfl
  · intro i σ' H' _ p
    obtain ⟨_, _, _, _, _, _, _, q, _⟩ := p
    exact q
  · intro i x σ' H' H2 hi p y
    obtain ⟨y3, y4, y5, y6, y7, rfl, kp, hfz, htab, hlen⟩ := p
    obtain ⟨T, x1, x2, rfl, nT, rfl, e1, e2⟩ := y
    rw [len] at hi
    have hi2 := List.getElem?_eq_getElem hi
    generalize hsr : rows[i] = sr at hi2
    have hmem : sr ∈ rows := List.mem_of_getElem? hi2
    have ek : (tabK pf rows)[i]? = some (Sum.inl (sr.1 : Int), V.ref (pf sr.1)) := by
      rw [List.getElem?_map, hi2]
      rfl
    dsimp only at e1 e2
    rw [ek] at e1 e2
    cases e1
    cases e2
    obtain ⟨slt, rlen⟩ := hrs sr hmem
    refine g_pair upd_same ?_
    have st := KpM.fold_take (KpM.nextFrom w') [] hi2
    generalize hacc : (rows.take i).foldl (KpM.nextFrom w') [] = acc at htab hlen st
    have sT : Same H' (upd H' T (.tup [kV (Sum.inl (sr.1 : Int)), V.ref (pf sr.1)])) := same_upd nT
    have kp2 : ∀ a o, a ≠ d → H a = some o → (upd H' T (.tup [kV (Sum.inl (sr.1 : Int)), V.ref (pf sr.1)])) a = some o := fun a o na e => sT _ _ (kp a o na e)
    have hfz2 := sT _ _ hfz
    have htab2 := htab.keep sT
    have nd2 : ND H (upd H' T (.tup [kV (Sum.inl (sr.1 : Int)), V.ref (pf sr.1)])) := nd_of hd hfz2 kp2
    have hrow2 : (upd H' T (.tup [kV (Sum.inl (sr.1 : Int)), V.ref (pf sr.1)])) (pf sr.1) = some (.lst (Ns sr.2)) := nd2.1 _ _ (hrow sr hmem).1 lst_nd
    have hw2 := hw.keep nd2
    generalize hH2 : upd H' T (.tup [kV (Sum.inl (sr.1 : Int)), V.ref (pf sr.1)]) = H2 at kp2 hfz2 htab2 hrow2 hw2
    refine s_forG (R := Same) (Same.refl _) (ev_meth (ev_var rfl) hw2.m (ea_cons (ev_var rfl) ea_nil) fun H6 s6 => do_World_followers s6 (Same.refl _) (hw2.keep s6) ok slt) (fun u H6 s6 ⟨p, eu, np, vs, hp, hvs⟩ => ?_)
    refine ⟨p, vs, eu, hp, fun j σ' H' => ∃ (z5 z6 z7 : Option V), σ' = [some (.ref wa), some (.ref d), some (.ref fd), some (N sr.1), some (.ref (pf sr.1)), z5, z6, z7] ∧ (∀ a o, a ≠ d → H a = some o → H' a = some o) ∧ H' d = some (.frz od (.dK (tabK pf rows))) ∧ H' (pf sr.1) = some (.lst (Ns sr.2)) ∧ H' p = some (.lst vs) ∧ Kept (fun a => a = fd) H6 H' ∧
      TabAt (fun a => H a = none) H' fd (((KpM.foll w' sr.1).take j).foldl (KpM.nextOne sr.2) acc) ∧ (((KpM.foll w' sr.1).take j).foldl (KpM.nextOne sr.2) acc).length ≤ 7 * i + j, ?_, ?_, ?_, ?_⟩
    · exact ⟨_, _, _, rfl, fun a o na e => s6 _ _ (kp2 a o na e), s6 _ _ hfz2, s6 _ _ hrow2, hp, fun _ _ _ e => e, htab2.keep s6, hlen⟩
    · intro j σ' H' q
      obtain ⟨_, _, _, _, _, _, _, q, _⟩ := q
      exact q
    · intro j x σ' H' hx q
      obtain ⟨z5, z6, z7, rfl, kp7, hfz7, hrow7, hp7, k7, ⟨pg, htd, htl⟩, hlen7⟩ := q
      obtain ⟨t, pr, hpr, rfl, ht⟩ := hvs.get hx
      have nt : ¬ t = fd := fun z => by
        obtain ⟨pz, hz, _⟩ := htab2.keep s6
        rw [z, hz] at ht
        cases ht
      have st7 := KpM.fold_take (KpM.nextOne sr.2) acc hpr
      have jl : j < 7 := by
        have h1 := (List.getElem?_eq_some_iff.mp hpr).1
        have h2 := foll_len ok sr.1
        omega
      generalize hac : ((KpM.foll w' sr.1).take j).foldl (KpM.nextOne sr.2) acc = fnd at htd htl hlen7 st7
      refine g_pair (k7 _ _ nt ht) ?_
      refine s_set (R := Same) (P := NewL H' (Ns (sr.2 ++ [pr.1]))) (Same.refl _) ?_ (fun v H8 s8 pv8 => ?_)
      · have := ev_catN (R := Same) (σ := [some (.ref wa), some (.ref d), some (.ref fd), some (N sr.1), some (.ref (pf sr.1)), some (N pr.1), some (N pr.2), z7]) (ta := tVar 4) (tb := tLst (tCons (tVar 5) tNil)) (ys := [N pr.1]) (ev_var rfl) hrow7 (ev_lstC (ea_cons (ev_var rfl) ea_nil) (by simp)) (by
          rw [List.length_map]
          exact Nat.le_trans (Nat.add_le_add_right rlen _) (show 100 + 1 ≤ sizeLine by decide))
        rw [ns_snoc]
        exact this
      · obtain ⟨q, rfl, nq, hq⟩ := pv8
        have fq : q ≠ fd := fun z => by
          rw [z, htd] at nq
          cases nq
        refine s_if (R := Same) (b := !(KpM.getR fnd pr.2).isSome || (match KpM.getR fnd pr.2 with
            | some r => KpM.lexlt (sr.2 ++ [pr.1]) r
            | none => false)) (Same.refl _) (et_or (et_B ((ev_notin (k := Sum.inl (pr.2 : Int)) (ev_var rfl) (ev_var rfl) (s8 _ _ htd)).is ?_)) (fun hb => ?_)) (fun hb H9 s9 => ?_) (fun hb H9 s9 => ?_)
        · rw [valV_tab]
          cases KpM.getR fnd pr.2 <;> rfl
        · cases hg : KpM.getR fnd pr.2 with
          | none =>
            rw [hg] at hb
            cases hb
          | some r =>
            have hv : valV (tabK pg fnd) (Sum.inl (pr.2 : Int)) = some (V.ref (pg pr.2)) := by
              rw [valV_tab, hg]
              rfl
            have hr8 : H8 (pg pr.2) = some (.lst (Ns r)) := s8 _ _ (htl _ (KpM.getR_some hg)).1
            exact et_test (ev_op (ev_var rfl) (ev_dget (k := Sum.inl (pr.2 : Int)) (ev_var rfl) (ev_var rfl) (s8 _ _ htd) hv) fun H9 s9 Q q' => ⟨_, _, _, _, rfl, rfl, s9 _ _ hq, s9 _ _ hr8, q' _ H9 (Same.refl _) rfl⟩)
        · have s79 := s8.trans s9
          refine s_dput (k := Sum.inl (pr.2 : Int)) (ev_var rfl) (fun _ _ => ev_var rfl) (fun _ _ => ev_var rfl) (s79 _ _ htd) (Nat.lt_of_le_of_lt (by rw [List.length_map]; exact hlen7) (Nat.lt_of_le_of_lt (show 7 * i + j ≤ 7 * 100 + 7 by omega) (by decide))) (fun v H10 H11 s10 ev s11 => ?_)
          cases ev
          have s7b := (s79.trans s10).trans s11
          have ne : ∀ {a : Addr} {l : List V}, H' a = some (.lst l) → a ≠ fd := fun {a l} e z => by
            rw [z, htd] at e
            cases e
          have hnfd : H fd = none := nfd
          refine ⟨_, _, _, rfl, fun a o na e => ?_, ?_, ?_, ?_, fun a o na e => ?_, ?_, ?_⟩
          · rw [upd_ne (ne_of_none e hnfd)]
            exact s7b _ _ (kp7 a o na e)
          · rw [upd_ne fdd.symm]
            exact s7b _ _ hfz7
          · rw [upd_ne (ne hrow7)]
            exact s7b _ _ hrow7
          · rw [upd_ne (ne hp7)]
            exact s7b _ _ hp7
          · rw [upd_ne na]
            exact s7b _ _ (k7 a o na e)
          · rw [st7, nextOne_eq, if_pos hb]
            exact TabAt.put (s7b _ _ htd) (fun sr hs => ⟨s7b _ _ (htl sr hs).1, (htl sr hs).2⟩) (((s9.trans s10).trans s11) _ _ hq) ((nd_of hd hfz7 kp7).2 _ nq)
          · rw [st7]
            exact Nat.le_trans nextOne_len (by omega)
        · have s79 := s8.trans s9
          refine ⟨_, _, _, rfl, fun a o na e => s79 _ _ (kp7 a o na e), s79 _ _ hfz7, s79 _ _ hrow7, s79 _ _ hp7, fun a o na e => s79 _ _ (k7 a o na e), ?_, ?_⟩
          · rw [st7, nextOne_eq, if_neg (by rw [hb]; exact Bool.false_ne_true)]
            exact ⟨pg, s79 _ _ htd, fun sr hs => ⟨s79 _ _ (htl sr hs).1, (htl sr hs).2⟩⟩
          · rw [st7]
            exact Nat.le_trans nextOne_len (by omega)
    · intro σ' H' q
      obtain ⟨z5, z6, z7, rfl, kp7, hfz7, _, _, _, htab7, hlen7⟩ := q
      rw [hvs.1, List.take_length] at htab7 hlen7
      refine ⟨_, _, z5, z6, z7, rfl, kp7, hfz7, ?_, ?_⟩
      · rw [st]
        exact htab7
      · rw [st]
        have := foll_len ok sr.1
        exact Nat.le_trans hlen7 (by omega)
  · intro σ' H' p
    obtain ⟨y3, y4, y5, y6, y7, rfl, kp, hfz, ⟨pg, htd, htl⟩, _⟩ := p
    rw [len, List.take_length] at htd htl
    refine ⟨hfz, ?_⟩
    with_reducible show tRet _ _ _ _
    refine s_ret (R := Same) (P := Is (.ref fd)) (Same.refl _) (ev_var rfl) (fun v H3 s3 ev => ?_)
    cases ev
    refine k fd H3 (fun a o e => s3 _ _ ?_) nfd (TabAt.keep ⟨pg, by rw [upd_ne fdd]; exact htd, fun sr hs => ?_⟩ s3)
    · by_cases z : a = d
      · rw [z, upd_same, ← hd, ← z]
        exact e
      · rw [upd_ne z]
        exact kp a o z e
    · obtain ⟨h, h2⟩ := htl sr hs
      rw [upd_ne (fun z => by rw [z, hfz] at h; cases h)]
      exact ⟨h, h2⟩
theorem sc_all_ends : FnScope ["world", "aim", "most", "found", "rows", "steps", "state", "row"] ["world", "aim", "most"] (defScope (top 15)) := ⟨rfl, rfl, rfl, by decide +kernel, rfl, by decide +kernel, by decide +kernel⟩
theorem ok_all_ends (T : Txt K mg A) : FnOk P w K mg base CX0 5 A.f_all_ends A.d_all_ends ["world", "aim", "most"] (sp_all_ends K A) := by
  refine T.F_all_ends.ok sc_all_ends (fun vs H Q E h => sp3_len h) (fun cdv Ar outer s H vs Q E hr h => ⟨_,
      (pss_cons (ps_set (i := 3) sc_all_ends.nd rfl (Or.inl rfl) (pe_lst pa_nil))
      (pss_cons (ps_set (i := 4) sc_all_ends.nd rfl (Or.inl rfl) (pe_disp (pps_cons (pe_fld (pv 0) rfl) (pe_lst pa_nil) pps_nil) (by rfl) (by rfl) (fun z => by cases z) (by decide)))
      (pss_cons (ps_for PassesOwn.never rfl (pi_range1 rfl T.range (pa_cons (pe_op op_add (pv 2) pe_int) pa_nil)) (pg_name (i := 5) sc_all_ends.nd rfl (Or.inr rfl))
        (pss_cons (ps_expr (pe_bm PySem.F.plainAttrs_list PySem.F.slot_list_extend PySem.F.type_list_extend mt_extend (pv 3) (pa_cons (pe_lock (pe_lc (own := [("state", 6), ("row", 7)]) (g := gTup K 2 (gCons (gName 6) (gCons (gName 7) gNil))) (tt := (tB (tMeth A.CAim "is_so" (sp_Aim_is_so K A) [] E0 (tVar 1) (tCons (tVar 6) tNil)))) (te := (tTup (tCons (tVar 5) (tCons (tVar 6) (tCons (tVar 7) tNil))))) rfl sc_all_ends.nd (pi_items (pv 4)) (blkOk_by (own := [("state", 6), ("row", 7)]) (N := ["world", "aim", "most", "found", "rows", "steps", "state", "row"]) (sc := defScope (top 15)) (by decide +kernel)) (fun _ _ _ _ _ => (pg_tup (n := 2) rfl (pgs_cons (pg_name (i := 6) sc_all_ends.nd rfl (Or.inl rfl)) (pgs_cons (pg_name (i := 7) sc_all_ends.nd rfl (Or.inl rfl)) pgs_nil)))) (fun _ _ _ _ _ => (pts_one (pt_val (pe_meth (pv 1) T.c_Aim T.m_Aim_is_so (ok_Aim_is_so T) (hr.mono (by decide)) T.b_Aim_is_so .nil pass0 (pa_cons (pv 6) pa_nil))))) (fun _ _ _ _ _ => (pe_tup (pa_cons (pv 5) (pa_cons (pv 6) (pa_cons (pv 7) pa_nil))))))) pa_nil)))
      (pss_one (ps_set (i := 4) sc_all_ends.nd rfl (Or.inl rfl) (pe_call (ok_next_rows T) (hr.mono (by decide)) rfl T.g_next_rows T.F_next_rows.kp T.b_next_rows .nil pass0 (pa_cons (pv 0) (pa_cons (pv 4) pa_nil)))))))
      (pss_one (ps_ret (pv 3)))))), ?_⟩)
  obtain ⟨_, _, _, rfl, wa, da, ea, aa, w', f, v, k, rfl, rfl, rfl, hw, ok, ha, hk, kk⟩ := h
  refine s_set (R := Same) (P := NewL H []) (Same.refl _) (ev_lstF ea_nil (by simp)) (fun u H1 s1 p1 => ?_)
  obtain ⟨f0, rfl, nf0, hf0⟩ := p1
  have hw1 := hw.keep s1
  intro d nd
  have sd : Same H1 (upd H1 d (.dK [])) := same_upd nd
  have fd : f0 ≠ d := ne_of_none hf0 nd
  refine (ev_fld (R := Same) (ev_var rfl) ((hw1.keep sd).fstate T)) _ (Same.refl _) _ (fun u H2 s2 ev => ?_)
  cases ev
  refine ⟨by simp, fun p np => ?_⟩
  have hd2 : H2 d = some (.dK []) := s2 _ _ upd_same
  have pd : p ≠ d := (ne_of_none hd2 np).symm
  refine ⟨by rw [upd_ne pd.symm]; exact hd2, [(Sum.inl (w'.now : Int), .ref p)], rfl, by simp, ?_⟩
  have s3 : Same H1 (upd (upd H2 p (.lst [])) d (.dK (mergeK [] [(Sum.inl (w'.now : Int), .ref p)]))) := fun a o e => by
    rw [upd_ne (ne_of_none e nd), upd_ne (ne_of_none (s2 _ _ (sd _ _ e)) np)]
    exact s2 _ _ (sd _ _ e)
  have t3 : TabAt (fun a => a ≠ f0) (upd (upd H2 p (.lst [])) d (.dK (mergeK [] [(Sum.inl (w'.now : Int), .ref p)]))) d [(w'.now, [])] := ⟨fun _ => p, by rw [upd_same]; rfl, fun sr hs => by
    have : sr = (w'.now, []) := by simpa using hs
    rw [this, upd_ne pd, upd_same]
    exact ⟨rfl, (ne_of_none (s2 _ _ (sd _ _ hf0)) np).symm⟩⟩
  generalize upd (upd H2 p (.lst [])) d (.dK (mergeK [] [(Sum.inl (w'.now : Int), .ref p)])) = H3 at s3 t3
  have s03 := s1.trans s3
  refine s_forR (R := Same) (n := k + 1) (Same.refl _) (ea_cons ((ev_I0 (ev_var rfl) ev_c).is rfl) ea_nil) (by omega)
    (fun j σ' H' => ∃ (d : Addr) (y5 y6 y7 : Option V), σ' = [some (.ref wa), some (.ref aa), some (N k), some (.ref f0), some (.ref d), y5, y6, y7] ∧ Same H H' ∧ EndsAt (fun a => a ≠ f0) H' f0 (endsTo w' (Kp371.isAim f v) j) ∧ TabAt (fun a => a ≠ f0) H' d (KpM.rowsAt w' w'.now j))
    (fun H4 s4 => ?_) (fun j σ' H' hj q => ?_) (fun σ' H' q => ?_)
  · exact ⟨d, none, none, none, rfl, s03.trans s4, ⟨[], s4 _ _ (s3 _ _ hf0), ListAt.nil⟩, t3.keep s4⟩
  · obtain ⟨d, y5, y6, y7, rfl, sH, ⟨es, hes, hel⟩, ht⟩ := q
    have ht' := ht
    obtain ⟨pf, hd, hrow⟩ := ht'
    have hw5 := hw.keep sH
    have ha5 := ha.keep sH
    have rl := KpM.rowsAt_len ok j
    have rf := rows_fine ok j
    have len : (tabK pf (KpM.rowsAt w' w'.now j)).length = (KpM.rowsAt w' w'.now j).length := List.length_map ..
    refine s_extend (R := Same) (P := NewC H' (fun i => Kp371.isAim f v ((KpM.rowsAt w' w'.now j).getD i (0, [])).1) (fun i => IsT [N j, N ((KpM.rowsAt w' w'.now j).getD i (0, [])).1, .ref (pf ((KpM.rowsAt w' w'.now j).getD i (0, [])).1)]) (tabK pf (KpM.rowsAt w' w'.now j)).length) (Same.refl _) rfl hes ?_ (fun u H6 s6 pu => ?_)
    · refine ev_lcI rfl hd (by rw [len]; omega) (fun i kx x H6 U hx kp nd6 hU => ?_) (fun D i u H6 H7 l hi pu hD hl hk7 => ?_)
      · rw [List.getElem?_map] at hx
        cases hr : (KpM.rowsAt w' w'.now j)[i]? with
        | none =>
          rw [hr] at hx
          cases hx
        | some sr =>
          rw [hr] at hx
          cases hx
          have hmem : sr ∈ KpM.rowsAt w' w'.now j := List.mem_of_getElem? hr
          have ha6 := ha5.keep nd6
          refine ⟨_, fun Q q => g_pair hU q, rfl, ?_, fun _ => ?_⟩
          · rw [List.getD_eq_getElem?_getD, hr]
            exact et_B (ev_meth (ev_var rfl) ha6.m (ea_cons (ev_var rfl) ea_nil) fun H8 s8 => do_Aim_is_so (K := K) (Same.refl _) (ha6.keep s8))
          · rw [List.getD_eq_getElem?_getD, hr]
            exact ev_tupC (R := Same) (ea_cons (ev_var rfl) (ea_cons (ev_var rfl) (ea_cons (ev_var rfl) ea_nil))) (by simp)
      · obtain ⟨t, eu, h1⟩ := pu
        exact ⟨t, eu, hk7 _ _ (fun z => by rw [z, hl] at h1; cases h1) tup_nd (fun od hz z => by rw [z, hz] at h1; cases h1) h1⟩
    · obtain ⟨D, ys, eu, nD, hD, hel6⟩ := pu
      have hl2 : ListAt (EndAt (fun a => a ≠ f0) H6) ys (((KpM.rowsAt w' w'.now j).filter fun sr => Kp371.isAim f v sr.1).map fun sr => (j, sr.1, sr.2)) := by
        have := El.list (P := EndAt (fun a => a ≠ f0)) (e := fun i => (j, ((KpM.rowsAt w' w'.now j).getD i (0, [])).1, ((KpM.rowsAt w' w'.now j).getD i (0, [])).2)) (hel6.imp fun i u hi ⟨t, eu, ht⟩ => ⟨t, eu, _, ht, s6 _ _ (hrow _ ?_).1, (hrow _ ?_).2⟩)
        · rw [len] at this
          rw [← filt_range (fun sr : Nat × List Nat => Kp371.isAim f v sr.1) (fun sr => (j, sr.1, sr.2)) (0, []) (KpM.rowsAt w' w'.now j)]
          exact this
        all_goals
          rw [len] at hi
          rw [List.getD_eq_getElem?_getD, List.getElem?_eq_getElem hi]
          exact List.getElem_mem hi
      have nfd : D ≠ f0 := fun z => by
        rw [z, hes] at nD
        cases nD
      refine ⟨D, ys, eu, hD, ?_, ?_⟩
      · have h1 := hel.1
        have h2 := hl2.1
        have h3 := endsTo_len ok (Kp371.isAim f v) j
        have h4 := List.length_filter_le (fun sr : Nat × List Nat => Kp371.isAim f v sr.1) (KpM.rowsAt w' w'.now j)
        rw [List.length_map] at h2
        exact Nat.le_trans (show es.length + ys.length ≤ 32 * 90 + 32 by omega) (by decide)
      have sH6 := sH.trans s6
      have sH7 : Same H (upd H6 f0 (.lst (es ++ ys))) := fun a o e => by
        rw [upd_ne (ne_of_none e nf0)]
        exact sH6 _ _ e
      have ht7 : TabAt (fun _ => True) (upd H6 f0 (.lst (es ++ ys))) d (KpM.rowsAt w' w'.now j) := ⟨pf, by
        rw [upd_ne (fun z => by rw [z, hes] at hd; cases hd)]
        exact s6 _ _ hd, fun sr hs => ⟨by
        rw [upd_ne (hrow sr hs).2]
        exact s6 _ _ (hrow sr hs).1, trivial⟩⟩
      · refine s_set (R := Same) (P := fun u H' => ∃ p, u = .ref p ∧ TabAt (fun a => (upd H6 f0 (.lst (es ++ ys))) a = none) H' p (KpM.rowsAt w' w'.now (j + 1))) (Same.refl _) (ev_call (ea_cons (ev_var rfl) (ea_cons (ev_var rfl) ea_nil)) fun H8 s8 => do_next_rows (K := K) s8 (Same.refl _) ((hw.keep sH7).keep s8) ok (ht7.keep s8) (by omega) fun sr hs => ⟨(rf sr hs).1, by rw [(rf sr hs).2]; omega⟩) (fun u H8 s8 ⟨p, eu, hp⟩ => ?_)
        subst eu
        refine ⟨p, _, _, _, rfl, sH7.trans s8, ⟨es ++ ys, s8 _ _ upd_same, ?_⟩, hp.imp fun a n z => by
          rw [z, upd_same] at n
          cases n⟩
        rw [endsTo_succ]
        have mv : ∀ t e, EndAt (fun a => a ≠ f0) H6 t e → EndAt (fun a => a ≠ f0) H8 t e := fun t e ⟨q, h1, h2, h3⟩ => ⟨q, s8 _ _ (by
          rw [upd_ne (fun z => by rw [z, s6 _ _ hes] at h1; cases h1)]
          exact h1), s8 _ _ (by
          rw [upd_ne h3]
          exact h2), h3⟩
        exact ListAt.append (hel.imp fun t e z => mv t e (z.keep s6)) (hl2.imp mv)
  · obtain ⟨d, y5, y6, y7, rfl, sH, he, _⟩ := q
    refine s_ret (R := Same) (P := Is (.ref f0)) (Same.refl _) (ev_var rfl) (fun u H5 s5 ev => ?_)
    cases ev
    exact kk f0 H5 (sH.trans s5) nf0 ((he.keep s5).imp fun _ _ => trivial)
theorem sc_first_of : FnScope ["ends"] ["ends"] (defScope (top 16)) := ⟨rfl, rfl, rfl, by decide +kernel, rfl, by decide +kernel, by decide +kernel⟩
theorem ok_first_of (T : Txt K mg A) : FnOk P w K mg base CX0 1 A.f_first_of A.d_first_of ["ends"] (sp_first_of K A) := by
  refine T.F_first_of.ok sc_first_of (fun vs H Q E h => sp1_len h) (fun cdv Ar outer s H vs Q E hr h => ⟨_,
      (pss_one (ps_ret (pe_ifExp (pt_cmpR (op_neD hr.units) (pv 0) (pe_lst pa_nil) (nomark _)) (pe_callB (cr_minT rfl hr.units) (by rfl) T.min (by decide +kernel) (pa_cons (pv 0) pa_nil)) pe_non))), ?_⟩)
  obtain ⟨_, rfl, p, es, rfl, ⟨vs, hp, hl⟩, k1, k2⟩ := h
  have len := hl.1
  have en : (!PyData.eqv (.list (es.map tripD)) (.list [])) = decide (es ≠ []) := by
    cases es with
    | nil => rfl
    | cons e es => rfl
  refine s_ret (R := Same) (P := fun u H' => (es = [] ∧ u = .non) ∨ ∃ m t, KpM.IsMin KpM.lt3 es m ∧ u = .ref t ∧ TripAt H' t m) (Same.refl _) (ev_if (b := decide (es ≠ [])) (et_test (ev_opN (P1 := IsL []) (ev_var rfl) (ev_lstC ea_nil (by simp)) (fun y H1 s1 py Q' q => ?_))) (fun hb => ?_) (fun hb => ?_)) (fun u H1 s1 pu => ?_)
  · obtain ⟨a, rfl, ha⟩ := py
    refine ⟨_, _, .lst (SqL.of (s1 _ _ hp)) (dp_trips (hl.imp fun t e z => z.keep s1)), .lst (SqL.of ha) .nil, shaped_trips es, rfl, ?_⟩
    rw [en]
    exact q _ H1 (Same.refl _) rfl
  · have hne : es ≠ [] := of_decide_eq_true hb
    have pos : 0 < es.length := List.length_pos_iff.mpr hne
    refine ev_cb (ea_cons (ev_var rfl) ea_nil) (fun H1 s1 Q' q => ⟨p, vs, fun i j => KpM.lt3 (es.getD i (0, 0, [])) (es.getD j (0, 0, [])), rfl, s1 _ _ hp, by omega, fun i j x y hx hy => ?_, fun v hv => ?_⟩)
    · obtain ⟨a, e, he, rfl, ta⟩ := hl.get hx
      obtain ⟨b, f, hf, rfl, tb⟩ := hl.get hy
      dsimp only
      rw [List.getD_eq_getElem?_getD, List.getD_eq_getElem?_getD, he, hf]
      exact ltv_ends (ta.keep s1) (tb.keep s1)
    · obtain ⟨a, e, he, rfl, ta⟩ := hl.get hv
      refine q _ H1 (Same.refl _) (.inr ⟨e, a, ⟨List.mem_of_getElem? he, fun c hc => ?_⟩, rfl, ta.keep s1⟩)
      obtain ⟨i, hi, rfl⟩ := List.mem_iff_getElem.mp hc
      have := bestAt_least (fun i j => KpM.lt3 (es.getD i (0, 0, [])) (es.getD j (0, 0, []))) (fun i => lt3_irrefl _) (fun i j k h1 h2 => lt3_trans h1 h2) (vs.length - 1) i (by omega)
      rw [List.getD_eq_getElem?_getD, List.getElem?_eq_getElem hi, List.getD_eq_getElem?_getD, he] at this
      exact this
  · have hne : es = [] := Classical.byContradiction fun z => of_decide_eq_false hb z
    exact ev_c.imp fun u H1 s1 eu => .inl ⟨hne, eu⟩
  · rcases pu with ⟨e, rfl⟩ | ⟨m, t, hm, rfl, ht⟩
    · exact k1 e H1 s1
    · exact k2 m t H1 hm s1 ht
end
end Kw
set_option maxRecDepth 100000
set_option maxHeartbeats 400000
namespace Kw
open PySem PySem.Spec PyProof.Rows L2
theorem nkd {kd t : Addr} {D : Kp373.Desk} {X : List Addr} {H : Hp} (h : Kn kd D X H) (n : H t = none) : t ≠ kd := fun z => by
  obtain ⟨ss, ls, hz, _⟩ := h
  rw [z, hz] at n
  cases n
theorem kn_dict {kd d : Addr} {D : Kp373.Desk} {X : List Addr} {H : Hp} {kvs kvs' : List (Key × V)} (h : Kn kd D X H) (n : d ≠ kd) (hd : H d = some (.dK kvs)) : Kn kd D X (upd H d (.dK kvs')) := by
  obtain ⟨ss, ls, h1, h2, h3, h4⟩ := h
  have ne : ∀ {a : Addr} {l : List V}, H a = some (.lst l) → a ≠ d := fun {a l} e z => by
    rw [z, hd] at e
    cases e
  refine ⟨ss, ls, by rw [upd_ne n.symm]; exact h1, h2, fun x hx => ⟨(h3 x hx).1, (h3 x hx).2.1, ?_⟩, fun x hx => ?_⟩
  · rw [upd_ne (ne (h3 x hx).2.2)]
    exact (h3 x hx).2.2
  · obtain ⟨l, e⟩ := h4 x hx
    exact ⟨l, by rw [upd_ne (ne e)]; exact e⟩
theorem ns_get {l : List Nat} {i : Nat} {x : V} (h : (Ns l)[i]? = some x) : l[i]? = some (l.getD i 0) ∧ x = N (l.getD i 0) := by
  rw [List.getElem?_map] at h
  cases hy : l[i]? with
  | none =>
    rw [hy] at h
    cases h
  | some y =>
    rw [hy] at h
    rw [List.getD_eq_getElem?_getD, hy]
    exact ⟨rfl, (Option.some.inj h).symm⟩
abbrev TriAt (H : Hp) (t : Addr) (c : Int × Nat × Nat) : Prop := H t = some (.tup [.int c.1, N c.2.1, N c.2.2])
theorem TriAt.nd {H : Hp} {t d : Addr} {c : Int × Nat × Nat} {kvs : List (Key × V)} (h : TriAt H t c) (e : H d = some (.dK kvs)) : t ≠ d := fun z => by
  have h' : H t = some (.tup [.int c.1, N c.2.1, N c.2.2]) := h
  rw [z, e] at h'
  cases h'
theorem TriAt.nl {H : Hp} {t d : Addr} {c : Int × Nat × Nat} {l : List V} (h : TriAt H t c) (e : H d = some (.lst l)) : t ≠ d := fun z => by
  have h' : H t = some (.tup [.int c.1, N c.2.1, N c.2.2]) := h
  rw [z, e] at h'
  cases h'
theorem setK_keys (l : List Nat) : (setK l).map (fun kv => kV kv.1) = Ns l := by
  rw [List.map_map]
  rfl
abbrev tidyTo (d : Kp373.Desk) (f : Nat → Bool) (j : Nat) : List (Int × Nat × Nat) := (List.range j).flatMap fun t => (KpM.tAt d.world f d.world.now t).2.map fun s => (0 - (Kp373.keeps d s : Int), t, s)
theorem tidyTo_succ (d : Kp373.Desk) (f : Nat → Bool) (j : Nat) : tidyTo d f (j + 1) = tidyTo d f j ++ (KpM.tAt d.world f d.world.now j).2.map fun s => (0 - (Kp373.keeps d s : Int), j, s) := by
  unfold tidyTo
  rw [List.range_succ, List.flatMap_append, List.flatMap_cons, List.flatMap_nil, List.append_nil]
theorem tidyTo_len {d : Kp373.Desk} (ok : KpM.OkW d.world) {f : Nat → Bool} (hf : f d.world.now = true) : ∀ j, (tidyTo d f j).length ≤ 32 * j
  | 0 => Nat.le_refl _
  | j + 1 => by
    have ih := tidyTo_len ok hf j
    rw [tidyTo_succ, List.length_append, List.length_map]
    have h2 := KpM.tAt_len ok ok.now hf j
    omega
theorem addTo_len {l : List Nat} {t : Nat} : (KpM.addTo l t).length ≤ l.length + 1 := by
  unfold KpM.addTo
  split
  · omega
  · rw [List.length_append]
    exact Nat.le_refl _
theorem addAll_len : ∀ {layer met : List Nat}, (layer.foldl KpM.addTo met).length ≤ met.length + layer.length
  | [], met => Nat.le_refl _
  | a :: layer, met => by
    have ih := addAll_len (layer := layer) (met := KpM.addTo met a)
    have := addTo_len (l := met) (t := a)
    rw [List.foldl_cons, List.length_cons]
    omega
theorem tMet_len {w : Kp371.World} (ok : KpM.OkW w) {f : Nat → Bool} {s : Nat} (hs : s < 2 ^ w.m) (hf : f s = true) : ∀ t, (KpM.tAt w f s t).1.length ≤ 32 * t
  | 0 => Nat.le_refl _
  | t + 1 => by
    have ih := tMet_len ok hs hf t
    have h2 := KpM.tAt_len ok hs hf t
    have h3 := addAll_len (layer := (KpM.tAt w f s t).2) (met := (KpM.tAt w f s t).1)
    show ((KpM.tAt w f s t).2.foldl KpM.addTo (KpM.tAt w f s t).1).length ≤ _
    omega
theorem ltT_iff {a b : Int × Nat × Nat} : KpM.ltT a b = true ↔ a.1 < b.1 ∨ (a.1 = b.1 ∧ (a.2.1 < b.2.1 ∨ (a.2.1 = b.2.1 ∧ a.2.2 < b.2.2))) := by
  unfold KpM.ltT
  by_cases h1 : a.1 = b.1
  · rw [if_pos h1]
    by_cases h2 : a.2.1 = b.2.1
    · rw [if_pos h2, decide_eq_true_eq]
      omega
    · rw [if_neg h2, decide_eq_true_eq]
      omega
  · rw [if_neg h1, decide_eq_true_eq]
    omega
theorem ltT_irrefl (a : Int × Nat × Nat) : KpM.ltT a a = false := by
  cases h : KpM.ltT a a with
  | false => rfl
  | true =>
    rw [ltT_iff] at h
    omega
theorem ltT_trans {a b c : Int × Nat × Nat} (h : KpM.ltT a b = true) (k : KpM.ltT b c = true) : KpM.ltT a c = true := by
  rw [ltT_iff] at h k ⊢
  omega
theorem ltv_tri {P : Program} {w : World} {H : Hp} {a b : Addr} {e f : Int × Nat × Nat} (ha : TriAt H a e) (hb : TriAt H b f) : LtV P w 4 H (.ref a) (.ref b) (KpM.ltT e f) := by
  have := ltv_trip (P := P) (w := w) (n := 3) ha hb (eqv_int _ _) (fun _ => ltv_int _ _)
  have e1 : (if (e.1 == f.1) = true then (if (((e.2.1 : Nat) : Int) == ((f.2.1 : Nat) : Int)) = true then (if (((e.2.2 : Nat) : Int) == ((f.2.2 : Nat) : Int)) = true then false else decide (((e.2.2 : Nat) : Int) < ((f.2.2 : Nat) : Int))) else decide (((e.2.1 : Nat) : Int) < ((f.2.1 : Nat) : Int))) else decide (e.1 < f.1)) = KpM.ltT e f := by
    unfold KpM.ltT
    by_cases c1 : e.1 = f.1
    · rw [if_pos (by simpa using c1), if_pos c1]
      by_cases c2 : e.2.1 = f.2.1
      · rw [if_pos (by simp only [beq_iff_eq]; omega), if_pos c2]
        by_cases c3 : e.2.2 = f.2.2
        · rw [if_pos (by simp only [beq_iff_eq]; omega)]
          exact (decide_eq_false (by omega)).symm
        · rw [if_neg (by simp only [beq_iff_eq]; omega)]
          exact decide_eq_decide.mpr (by omega)
      · rw [if_neg (by simp only [beq_iff_eq]; omega), if_neg c2]
        exact decide_eq_decide.mpr (by omega)
    · rw [if_neg (by simpa using c1), if_neg c1]
  rw [e1] at this
  exact this
theorem do_first_of {R : Hp → Hp → Prop} [G : Good R] {K : PySem.W.Frag} {A : Ad} {H : Hp} {p : Addr} {es : List (Int × Nat × List Nat)} (r : R H H) (h : TripsAt H p es) : Does R (sp_first_of K A) [.ref p] H (fun u H' => (es = [] ∧ u = .non) ∨ ∃ m t, KpM.IsMin KpM.lt3 es m ∧ u = .ref t ∧ TripAt H' t m) := fun Q E q =>
  ⟨_, rfl, p, es, rfl, h, fun e H' s => q _ H' (G.ext r s) (.inl ⟨e, rfl⟩), fun m t H' hm s ht => q _ H' (G.ext r s) (.inr ⟨m, t, hm, rfl, ht⟩)⟩
def sp_least_lost (K : PySem.W.Frag) (A : Ad) : Sp := Sp4 fun a b c d H Q E => ∃ (ch wa da ea oa kd aa : Addr) (D : Kp373.Desk) (f v k : Nat) (X : List Addr), a = .ref wa ∧ b = .ref ch ∧ c = .ref aa ∧ d = N k ∧ ChE A H ch wa da ea oa kd D ∧ KpM.OkK D ∧ AimAt A H aa f v ∧ k ≤ 90 ∧ Kn kd D X H ∧
  (Kp373.least D f v k = none → ∀ H', RK kd D X H H' → Q .non H') ∧ (∀ m t H', KpM.IsMin KpM.lt3 (KpM.lossEnds D (Kp371.isAim f v) k) m → RK kd D X H H' → TripAt H' t m → Q (.ref t) H')
def sp_most_kept (K : PySem.W.Frag) (A : Ad) : Sp := Sp4 fun a b c d H Q E => ∃ (ch wa da ea oa kd aa : Addr) (D : Kp373.Desk) (f v k : Nat) (X : List Addr), a = .ref wa ∧ b = .ref ch ∧ c = .ref aa ∧ d = N k ∧ ChE A H ch wa da ea oa kd D ∧ KpM.OkK D ∧ AimAt A H aa f v ∧ k ≤ 90 ∧ Kn kd D X H ∧
  (Kp373.most D f v k = none → ∀ H', RK kd D X H H' → Q .non H') ∧ (∀ m t H', KpM.IsMin KpM.lt3 (KpM.keptEnds D (Kp371.isAim f v) k) m → RK kd D X H H' → TripAt H' t (0 - m.1, m.2.1, m.2.2) → Q (.ref t) H')
def sp_tidied (K : PySem.W.Frag) (A : Ad) : Sp := Sp4 fun a b c d H Q E => ∃ (ch wa da ea oa kd aa : Addr) (D : Kp373.Desk) (f v k : Nat) (X : List Addr), a = .ref wa ∧ b = .ref ch ∧ c = .ref aa ∧ d = N k ∧ ChE A H ch wa da ea oa kd D ∧ KpM.OkK D ∧ AimAt A H aa f v ∧ k ≤ 90 ∧ Kn kd D X H ∧ Kp371.isAim f v D.world.now = true ∧
  (∀ l j s t H', Kp373.tidy D f v k = some (l, j, s) → RK kd D X H H' → H' t = some (.tup [N l, N j, N s]) → Q (.ref t) H')
section
variable {P : Program} {w : World} {K : PySem.W.Frag} {mg : Str → Option Value} {base : Heap} {A : Ad}
theorem sc_least_lost : FnScope ["world", "chances", "aim", "most", "ends", "steps", "state", "row"] ["world", "chances", "aim", "most"] (defScope (top 17)) := ⟨rfl, rfl, rfl, by decide +kernel, rfl, by decide +kernel, by decide +kernel⟩
theorem ok_least_lost (T : Txt K mg A) : FnOk P w K mg base CX0 8 A.f_least_lost A.d_least_lost ["world", "chances", "aim", "most"] (sp_least_lost K A) := by
  refine T.F_least_lost.ok sc_least_lost (fun vs H Q E h => sp4_len h) (fun cdv Ar outer s H vs Q E hr h => ⟨_,
      (pss_cons (ps_set (i := 4) sc_least_lost.nd rfl (Or.inl rfl) (pe_call (ok_all_ends T) (hr.mono (by decide)) rfl T.g_all_ends T.F_all_ends.kp T.b_all_ends .nil pass0 (pa_cons (pv 0) (pa_cons (pv 2) (pa_cons (pv 3) pa_nil)))))
      (pss_one (ps_ret (pe_call (ok_first_of T) (hr.mono (by decide)) rfl T.g_first_of T.F_first_of.kp T.b_first_of .nil pass0 (pa_cons (pe_lc (own := [("steps", 5), ("state", 6), ("row", 7)]) (g := gTup K 3 (gCons (gName 5) (gCons (gName 6) (gCons (gName 7) gNil)))) (tt := tYes) (te := (tTup (tCons (tMeth A.CChances "loss" (sp_Chances_loss K A) [] E0 (tVar 1) (tCons (tVar 6) (tCons (tVar 5) tNil))) (tCons (tVar 5) (tCons (tVar 7) tNil))))) rfl sc_least_lost.nd (pi_list (pv 4)) (blkOk_by (own := [("steps", 5), ("state", 6), ("row", 7)]) (N := ["world", "chances", "aim", "most", "ends", "steps", "state", "row"]) (sc := defScope (top 17)) (by decide +kernel)) (fun _ _ _ _ _ => (pg_tup (n := 3) rfl (pgs_cons (pg_name (i := 5) sc_least_lost.nd rfl (Or.inl rfl)) (pgs_cons (pg_name (i := 6) sc_least_lost.nd rfl (Or.inl rfl)) (pgs_cons (pg_name (i := 7) sc_least_lost.nd rfl (Or.inl rfl)) pgs_nil))))) (fun _ _ _ _ _ => pts_nil) (fun _ _ _ _ _ => (pe_tup (pa_cons (pe_meth (pv 1) T.c_Chances T.m_Chances_loss (ok_Chances_loss T) (hr.mono (by decide)) T.b_Chances_loss .nil pass0 (pa_cons (pv 6) (pa_cons (pv 5) pa_nil))) (pa_cons (pv 5) (pa_cons (pv 7) pa_nil)))))) pa_nil))))), ?_⟩)
  obtain ⟨_, _, _, _, rfl, ch, wa, da, ea, oa, kd, aa, D, f, v, k, X, rfl, rfl, rfl, rfl, hc, ok, ha, hk, hkn, k1, k2⟩ := h
  have r0 : RK kd D X H H := rk_refl hkn
  refine s_set (R := RK kd D X) (P := fun u H' => ∃ p, u = .ref p ∧ H p = none ∧ EndsAt (fun _ => True) H' p (KpM.ends D.world (Kp371.isAim f v) k)) r0 (ev_call (ea_cons (ev_var rfl) (ea_cons (ev_var rfl) (ea_cons (ev_var rfl) ea_nil))) fun H1 e => do_all_ends e (Good.here e) (hc.wd.keep e) ok.w (ha.keep e) hk) (fun u H1 r1 p1 => ?_)
  obtain ⟨p, rfl, _, es0, hes, hel⟩ := p1
  have hc1 := hc.keep r1
  have elen := endsTo_len ok.w (Kp371.isAim f v) (k + 1)
  have emem : ∀ e ∈ KpM.ends D.world (Kp371.isAim f v) k, e.2.1 < 2 ^ D.world.m ∧ e.1 ≤ k := fun e he => by
    have h := KpM.mem_ends.mp (show (e.1, e.2.1, e.2.2) ∈ _ from he)
    exact ⟨(rows_fine ok.w _ _ h.2.1).1, h.1⟩
  have eml : KpM.lossEnds D (Kp371.isAim f v) k = (KpM.ends D.world (Kp371.isAim f v) k).map fun e => ((Kp373.loss D e.2.1 e.1 : Int), e.1, e.2.2) := rfl
  have elen2 : (KpM.ends D.world (Kp371.isAim f v) k).length ≤ 32 * (k + 1) := elen
  have none_ : KpM.lossEnds D (Kp371.isAim f v) k = [] → Kp373.least D f v k = none := KpM.lossEnds_nil ok.w
  generalize KpM.lossEnds D (Kp371.isAim f v) k = les at eml k2 none_
  generalize KpM.ends D.world (Kp371.isAim f v) k = es at hel emem eml elen2
  have len := hel.1
  with_reducible show tRet _ _ _ _
  refine s_ret (R := RK kd D X) (P := fun u H' => (les = [] ∧ u = .non) ∨ ∃ m t, KpM.IsMin KpM.lt3 les m ∧ u = .ref t ∧ TripAt H' t m) (Good.here r1) (ev_callN (ea_one (ev_lcL (xs := es0) (f := fun _ => true)
    (Pe := fun i u H' => ∃ t q, u = .ref t ∧ t ≠ kd ∧ H' t = some (.tup [.int (Kp373.loss D (es.getD i (0, 0, [])).2.1 (es.getD i (0, 0, [])).1 : Nat), N (es.getD i (0, 0, [])).1, .ref q]) ∧ H1 q = some (.lst (Ns (es.getD i (0, 0, [])).2.2)))
    ((ev_var rfl).imp fun u H2 s2 eu => ⟨p, eu, Good.keep s2 hes lst_nd⟩) (by rw [len]; omega) (fun d i x H2 hx rr k3 => ?_) (fun d i u H' H2 l hi pu hD hl hk7 => ?_))) fun us H2 e2 pu => ?_) (fun u H2 r2 pu => ?_)
  · obtain ⟨t, e, he, rfl, q, ht, hq, _⟩ := hel.get hx
    have e3 : RK kd D X H1 H2 := ⟨r1.2.1, Mem.pop (Z := Zk kd) rr.1, k3⟩
    have hc2 := hc1.keep e3
    obtain ⟨l1, l2⟩ := emem e (List.mem_of_getElem? he)
    refine ⟨_, fun Q q' => g_trip (Good.keep e3 ht tup_nd) q', rfl, fun H4 e4 Q q' => q' H4 (Good.here e4), fun _ => ?_⟩
    rw [List.getD_eq_getElem?_getD, he]
    exact (ev_tupF (R := RK kd D (d :: X)) (ea_cons (ev_meth (ev_var rfl) hc2.m (ea_cons (ev_var rfl) (ea_cons (ev_var rfl) ea_nil)) fun H8 e8 => do_Chances_loss e8 (hc2.keep e8) ok l1 (show e.1 ≤ 100 by omega)) (ea_cons (ev_var rfl) (ea_cons (ev_var rfl) ea_nil))) (by simp)).imp fun u H8 s8 ⟨t, eu, nt, hu⟩ => ⟨t, q, eu, nkd rr.1 nt, hu, hq⟩
  · obtain ⟨t, q, eu, nk, h1, h2⟩ := pu
    exact ⟨t, q, eu, nk, hk7 _ _ nk (fun z => by rw [z, hl] at h1; cases h1) h1, h2⟩
  · obtain ⟨x, rfl, d, ys, rfl, nd, hd, hel2⟩ := pu
    refine do_first_of (K := K) (Good.here e2) ⟨ys, hd, ?_⟩
    have := El.list (P := TripAt) (e := fun i => ((Kp373.loss D (es.getD i (0, 0, [])).2.1 (es.getD i (0, 0, [])).1 : Int), (es.getD i (0, 0, [])).1, (es.getD i (0, 0, [])).2.2)) (hel2.imp fun i u hi ⟨t, q, eu, _, ht, hq⟩ => ⟨t, eu, q, ht, Good.keep e2 hq lst_nd⟩)
    rw [filt_all, len, range_map (fun e : Nat × Nat × List Nat => ((Kp373.loss D e.2.1 e.1 : Int), e.1, e.2.2)) (0, 0, []) es] at this
    rw [eml]
    exact this
  · rcases pu with ⟨e, rfl⟩ | ⟨m, t, hm, rfl, ht⟩
    · exact k1 (none_ e) H2 (Good.trans r1 r2)
    · exact k2 m t H2 hm (Good.trans r1 r2) ht
theorem sc_most_kept : FnScope ["world", "chances", "aim", "most", "ends", "found", "steps", "state", "row"] ["world", "chances", "aim", "most"] (defScope (top 18)) := ⟨rfl, rfl, rfl, by decide +kernel, rfl, by decide +kernel, by decide +kernel⟩
theorem ok_most_kept (T : Txt K mg A) : FnOk P w K mg base CX0 7 A.f_most_kept A.d_most_kept ["world", "chances", "aim", "most"] (sp_most_kept K A) := by
  refine T.F_most_kept.ok sc_most_kept (fun vs H Q E h => sp4_len h) (fun cdv Ar outer s H vs Q E hr h => ⟨_,
      (pss_cons (ps_set (i := 4) sc_most_kept.nd rfl (Or.inl rfl) (pe_call (ok_all_ends T) (hr.mono (by decide)) rfl T.g_all_ends T.F_all_ends.kp T.b_all_ends .nil pass0 (pa_cons (pv 0) (pa_cons (pv 2) (pa_cons (pv 3) pa_nil)))))
      (pss_cons (ps_set (i := 5) sc_most_kept.nd rfl (Or.inl rfl) (pe_call (ok_first_of T) (hr.mono (by decide)) rfl T.g_first_of T.F_first_of.kp T.b_first_of .nil pass0 (pa_cons (pe_lc (own := [("steps", 6), ("state", 7), ("row", 8)]) (g := gTup K 3 (gCons (gName 6) (gCons (gName 7) (gCons (gName 8) gNil)))) (tt := tYes) (te := (tTup (tCons (tOp (rI0 fun i j => .int (i - j)) (tC (.int 0)) (tMeth A.CChances "kept" (sp_Chances_kept K A) [] E0 (tVar 1) (tCons (tVar 7) tNil))) (tCons (tVar 6) (tCons (tVar 8) tNil))))) rfl sc_most_kept.nd (pi_list (pv 4)) (blkOk_by (own := [("steps", 6), ("state", 7), ("row", 8)]) (N := ["world", "chances", "aim", "most", "ends", "found", "steps", "state", "row"]) (sc := defScope (top 18)) (by decide +kernel)) (fun _ _ _ _ _ => (pg_tup (n := 3) rfl (pgs_cons (pg_name (i := 6) sc_most_kept.nd rfl (Or.inl rfl)) (pgs_cons (pg_name (i := 7) sc_most_kept.nd rfl (Or.inl rfl)) (pgs_cons (pg_name (i := 8) sc_most_kept.nd rfl (Or.inl rfl)) pgs_nil))))) (fun _ _ _ _ _ => pts_nil) (fun _ _ _ _ _ => (pe_tup (pa_cons (pe_op op_sub pe_int (pe_meth (pv 1) T.c_Chances T.m_Chances_kept (ok_Chances_kept T) (hr.mono (by decide)) T.b_Chances_kept .nil pass0 (pa_cons (pv 7) pa_nil))) (pa_cons (pv 6) (pa_cons (pv 8) pa_nil)))))) pa_nil)))
      (pss_one (ps_ret (pe_ifExp (pt_cmpR op_isN (pv 5) pe_non (nomark _)) pe_non (pe_tup (pa_cons (pe_op op_sub pe_int (pe_ix ix_tup (pv 5) pe_int (fun _ _ => rfl))) (pa_cons (pe_ix ix_tup (pv 5) pe_int (fun _ _ => rfl)) (pa_cons (pe_ix ix_tup (pv 5) pe_int (fun _ _ => rfl)) pa_nil))))))))), ?_⟩)
  obtain ⟨_, _, _, _, rfl, ch, wa, da, ea, oa, kd, aa, D, f, v, k, X, rfl, rfl, rfl, rfl, hc, ok, ha, hk, hkn, k1, k2⟩ := h
  have r0 : RK kd D X H H := rk_refl hkn
  refine s_set (R := RK kd D X) (P := fun u H' => ∃ p, u = .ref p ∧ H p = none ∧ EndsAt (fun _ => True) H' p (KpM.ends D.world (Kp371.isAim f v) k)) r0 (ev_call (ea_cons (ev_var rfl) (ea_cons (ev_var rfl) (ea_cons (ev_var rfl) ea_nil))) fun H1 e => do_all_ends e (Good.here e) (hc.wd.keep e) ok.w (ha.keep e) hk) (fun u H1 r1 p1 => ?_)
  obtain ⟨p, rfl, _, es0, hes, hel⟩ := p1
  have hc1 := hc.keep r1
  have elen := endsTo_len ok.w (Kp371.isAim f v) (k + 1)
  have emem : ∀ e ∈ KpM.ends D.world (Kp371.isAim f v) k, e.2.1 < 2 ^ D.world.m ∧ e.1 ≤ k := fun e he => by
    have h := KpM.mem_ends.mp (show (e.1, e.2.1, e.2.2) ∈ _ from he)
    exact ⟨(rows_fine ok.w _ _ h.2.1).1, h.1⟩
  have eml : KpM.keptEnds D (Kp371.isAim f v) k = (KpM.ends D.world (Kp371.isAim f v) k).map fun e => ((0 - (Kp373.keeps D e.2.1 : Int)), e.1, e.2.2) := rfl
  have elen2 : (KpM.ends D.world (Kp371.isAim f v) k).length ≤ 32 * (k + 1) := elen
  have none_ : KpM.keptEnds D (Kp371.isAim f v) k = [] → Kp373.most D f v k = none := KpM.keptEnds_nil ok.w
  generalize KpM.keptEnds D (Kp371.isAim f v) k = les at eml k2 none_
  generalize KpM.ends D.world (Kp371.isAim f v) k = es at hel emem eml elen2
  have len := hel.1
  refine s_set (R := RK kd D X) (P := fun u H' => (les = [] ∧ u = .non) ∨ ∃ m t, KpM.IsMin KpM.lt3 les m ∧ u = .ref t ∧ TripAt H' t m) (Good.here r1) (ev_callN (ea_one (ev_lcL (xs := es0) (f := fun _ => true)
    (Pe := fun i u H' => ∃ t q, u = .ref t ∧ t ≠ kd ∧ H' t = some (.tup [.int (0 - (Kp373.keeps D (es.getD i (0, 0, [])).2.1 : Int)), N (es.getD i (0, 0, [])).1, .ref q]) ∧ H1 q = some (.lst (Ns (es.getD i (0, 0, [])).2.2)))
    ((ev_var rfl).imp fun u H2 s2 eu => ⟨p, eu, Good.keep s2 hes lst_nd⟩) (by rw [len]; omega) (fun d i x H2 hx rr k3 => ?_) (fun d i u H' H2 l hi pu hD hl hk7 => ?_))) fun us H2 e2 pu => ?_) (fun u H2 r2 pu => ?_)
  · obtain ⟨t, e, he, rfl, q, ht, hq, _⟩ := hel.get hx
    have e3 : RK kd D X H1 H2 := ⟨r1.2.1, Mem.pop (Z := Zk kd) rr.1, k3⟩
    have hc2 := hc1.keep e3
    obtain ⟨l1, l2⟩ := emem e (List.mem_of_getElem? he)
    refine ⟨_, fun Q q' => g_trip (Good.keep e3 ht tup_nd) q', rfl, fun H4 e4 Q q' => q' H4 (Good.here e4), fun _ => ?_⟩
    rw [List.getD_eq_getElem?_getD, he]
    exact (ev_tupF (R := RK kd D (d :: X)) (ea_cons (ev_I0 ev_c (ev_meth (ev_var rfl) hc2.m (ea_cons (ev_var rfl) ea_nil) fun H8 e8 => do_Chances_kept e8 (hc2.keep e8) ok l1)) (ea_cons (ev_var rfl) (ea_cons (ev_var rfl) ea_nil))) (by simp)).imp fun u H8 s8 ⟨t, eu, nt, hu⟩ => ⟨t, q, eu, nkd rr.1 nt, hu, hq⟩
  · obtain ⟨t, q, eu, nk, h1, h2⟩ := pu
    exact ⟨t, q, eu, nk, hk7 _ _ nk (fun z => by rw [z, hl] at h1; cases h1) h1, h2⟩
  · obtain ⟨x, rfl, d, ys, rfl, nd, hd, hel2⟩ := pu
    refine do_first_of (K := K) (Good.here e2) ⟨ys, hd, ?_⟩
    have := El.list (P := TripAt) (e := fun i => ((0 - (Kp373.keeps D (es.getD i (0, 0, [])).2.1 : Int)), (es.getD i (0, 0, [])).1, (es.getD i (0, 0, [])).2.2)) (hel2.imp fun i u hi ⟨t, q, eu, _, ht, hq⟩ => ⟨t, eu, q, ht, Good.keep e2 hq lst_nd⟩)
    rw [filt_all, len, range_map (fun e : Nat × Nat × List Nat => ((0 - (Kp373.keeps D e.2.1 : Int)), e.1, e.2.2)) (0, 0, []) es] at this
    rw [eml]
    exact this
  · with_reducible show tRet _ _ _ _
    rcases pu with ⟨e, rfl⟩ | ⟨m, t, hm, rfl, ht⟩
    · refine s_ret (R := RK kd D X) (P := Is .non) (Good.here r2) (ev_if (et_test (ev_isN (ev_var rfl))) (fun _ => ev_c) (fun hb => by cases hb)) (fun u H3 r3 eu => ?_)
      cases eu
      exact k1 (none_ e) H3 (Good.trans r1 (Good.trans r2 r3))
    · obtain ⟨q, ht, hq⟩ := ht
      refine s_ret (R := RK kd D X) (P := IsT [.int (0 - m.1), N m.2.1, .ref q]) (Good.here r2) (ev_if (et_test (ev_isN (ev_var rfl))) (fun hb => by cases hb) (fun _ => ev_tupC (ea_cons (ev_I0 ev_c (ev_ixT (i := 0) (ev_var rfl) ev_c (fun H3 e => SqT.of (Good.keep e ht tup_nd)) rfl)) (ea_cons (ev_ixT (i := 1) (ev_var rfl) ev_c (fun H3 e => SqT.of (Good.keep e ht tup_nd)) rfl) (ea_cons (ev_ixT (i := 2) (ev_var rfl) ev_c (fun H3 e => SqT.of (Good.keep e ht tup_nd)) rfl) ea_nil))) (by simp))) (fun u H3 r3 pu => ?_)
      obtain ⟨t2, eu, ht2⟩ := pu
      subst eu
      exact k2 m t2 H3 hm (Good.trans r1 (Good.trans r2 r3)) ⟨q, ht2, Good.keep r3 hq lst_nd⟩
theorem sc_tidied : FnScope ["world", "chances", "aim", "most", "found", "met", "layer", "steps", "state", "behind", "choice", "other", "kept"] ["world", "chances", "aim", "most"] (defScope (top 19)) := ⟨rfl, rfl, rfl, by decide +kernel, rfl, by decide +kernel, by decide +kernel⟩
theorem ok_tidied (T : Txt K mg A) : FnOk P w K mg base CX0 7 A.f_tidied A.d_tidied ["world", "chances", "aim", "most"] (sp_tidied K A) := by
  refine T.F_tidied.ok sc_tidied (fun vs H Q E h => sp4_len h) (fun cdv Ar outer s H vs Q E hr h => ⟨_,
      (pss_cons (ps_set (i := 4) sc_tidied.nd rfl (Or.inl rfl) (pe_lst pa_nil))
      (pss_cons (ps_set (i := 5) sc_tidied.nd rfl (Or.inl rfl) pe_dnewK)
      (pss_cons (ps_set (i := 6) sc_tidied.nd rfl (Or.inl rfl) (pe_lst (pa_cons (pe_fld (pv 0) rfl) pa_nil)))
      (pss_cons (ps_for PassesOwn.never rfl (pi_range1 rfl T.range (pa_cons (pe_op op_add (pv 3) pe_int) pa_nil)) (pg_name (i := 7) sc_tidied.nd rfl (Or.inr rfl))
        (pss_cons (ps_for PassesOwn.never rfl (pi_list (pv 6)) (pg_name (i := 8) sc_tidied.nd rfl (Or.inl rfl))
        (pss_one (ps_dput (hu_of hr) (pv 5) (pv 8) pe_bl rfl)))
      (pss_cons (ps_expr (pe_bm PySem.F.plainAttrs_list PySem.F.slot_list_extend PySem.F.type_list_extend mt_extend (pv 4) (pa_cons (pe_lc (own := [("state", 8)]) (g := gName 8) (tt := tYes) (te := (tTup (tCons (tOp (rI0 fun i j => .int (i - j)) (tC (.int 0)) (tMeth A.CChances "kept" (sp_Chances_kept K A) [] E0 (tVar 1) (tCons (tVar 8) tNil))) (tCons (tVar 7) (tCons (tVar 8) tNil))))) rfl sc_tidied.nd (pi_list (pv 6)) (blkOk_by (own := [("state", 8)]) (N := ["world", "chances", "aim", "most", "found", "met", "layer", "steps", "state", "behind", "choice", "other", "kept"]) (sc := defScope (top 19)) (by decide +kernel)) (fun _ _ _ _ _ => (pg_name (i := 8) sc_tidied.nd rfl (Or.inl rfl))) (fun _ _ _ _ _ => pts_nil) (fun _ _ _ _ _ => (pe_tup (pa_cons (pe_op op_sub pe_int (pe_meth (pv 1) T.c_Chances T.m_Chances_kept (ok_Chances_kept T) (hr.mono (by decide)) T.b_Chances_kept .nil pass0 (pa_cons (pv 8) pa_nil))) (pa_cons (pv 7) (pa_cons (pv 8) pa_nil)))))) pa_nil)))
      (pss_cons (ps_set (i := 9) sc_tidied.nd rfl (Or.inl rfl) pe_dnewK)
      (pss_cons (ps_for PassesOwn.never rfl (pi_list (pv 6)) (pg_name (i := 8) sc_tidied.nd rfl (Or.inl rfl))
        (pss_one (ps_for PassesOwn.never rfl (pi_list (pe_meth (pv 0) T.c_World T.m_World_followers (ok_World_followers T) (hr.mono (by decide)) T.b_World_followers .nil pass0 (pa_cons (pv 8) pa_nil))) (pg_tup (n := 2) rfl (pgs_cons (pg_name (i := 10) sc_tidied.nd rfl (Or.inl rfl)) (pgs_cons (pg_name (i := 11) sc_tidied.nd rfl (Or.inl rfl)) pgs_nil)))
        (pss_one (ps_if (PW.pt (pw_and (pt_val (pe_meth (pv 2) T.c_Aim T.m_Aim_is_so (ok_Aim_is_so T) (hr.mono (by decide)) T.b_Aim_is_so .nil pass0 (pa_cons (pv 11) pa_nil))) (pw_and1 (pt_cmp (pc_dnotin (hu_of hr) (pv 11) (pv 5))))))
        (pss_one (ps_dput (hu_of hr) (pv 9) (pv 11) pe_bl rfl)) pss_nil)))))
      (pss_one (ps_set (i := 6) sc_tidied.nd rfl (Or.inl rfl) (pe_callTy (call_list_dK rfl) (by rfl) T.list (by decide +kernel) (pa_cons (pv 9) pa_nil)))))))))
      (pss_cons (ps_asg (pe_callB (cr_minT rfl hr.units) (by rfl) T.min (by decide +kernel) (pa_cons (pv 4) pa_nil)) (pg_tup (n := 3) rfl (pgs_cons (pg_name (i := 12) sc_tidied.nd rfl (Or.inl rfl)) (pgs_cons (pg_name (i := 7) sc_tidied.nd rfl (Or.inr rfl)) (pgs_cons (pg_name (i := 8) sc_tidied.nd rfl (Or.inl rfl)) pgs_nil)))))
      (pss_one (ps_ret (pe_tup (pa_cons (pe_op op_sub pe_int (pv 12)) (pa_cons (pv 7) (pa_cons (pv 8) pa_nil))))))))))), ?_⟩)
  obtain ⟨_, _, _, _, rfl, ch, wa, da, ea, oa, kd, aa, D, f, v, k, X, rfl, rfl, rfl, rfl, hc, ok, ha, hk, hkn, hf, kk⟩ := h
  have wok := ok.w
  refine ⟨by simp, fun f0 nf0 => ?_⟩
  have kn1 : Kn kd D (f0 :: X) (upd H f0 (.lst [])) := Mem.push (Z := Zk kd) hkn nf0
  have kp1 : Kept (Zk kd) H (upd H f0 (.lst [])) := Kept.of_same (same_upd nf0)
  have hf1 : upd H f0 (.lst []) f0 = some (.lst []) := upd_same
  generalize upd H f0 (.lst []) = H1 at kn1 kp1 hf1
  intro m nm
  have mk : m ≠ kd := nkd kn1 nm
  have s12 : Same H1 (upd H1 m (.dK [])) := same_upd nm
  have hm2 : upd H1 m (.dK []) m = some (.dK []) := upd_same
  generalize upd H1 m (.dK []) = H2 at s12 hm2
  have kn2 : Kn kd D (f0 :: X) H2 := Mem.same (Z := Zk kd) kn1 s12
  have nmH : H m = none := by
    cases e : H m with
    | none => rfl
    | some o =>
      rw [kp1 m o mk e] at nm
      cases nm
  have kp2 : Kept (Zk kd) H H2 := kp1.trans (Kept.of_same s12)
  have rk : ∀ {H'}, Kn kd D (f0 :: X) H' → Kept (Zk kd) H H' → RK kd D X H H' := fun {H'} a b => ⟨hkn, Mem.pop (Z := Zk kd) a, b⟩
  have hc2 := hc.keep (rk kn2 kp2)
  refine s_set (R := Same) (P := NewL H2 [N D.world.now]) (Same.refl _) (ev_lstF (ea_cons (ev_fld (ev_var rfl) (hc2.wd.fstate T)) ea_nil) (by simp)) (fun u H3 s3 p3 => ?_)
  obtain ⟨l0, rfl, nl0, hl0⟩ := p3
  have l0f : l0 ≠ f0 := (ne_of_none (s12 _ _ hf1) nl0).symm
  refine s_forR (R := Same) (n := k + 1) (Same.refl _) (ea_cons ((ev_I0 (ev_var rfl) ev_c).is rfl) ea_nil) (by omega)
    (fun j σ' H' => ∃ (l : Addr) (es : List V) (y7 y8 y9 y10 y11 : Option V), σ' = [some (.ref wa), some (.ref ch), some (.ref aa), some (N k), some (.ref f0), some (.ref m), some (.ref l), y7, y8, y9, y10, y11, none] ∧ Kn kd D (f0 :: X) H' ∧ Kept (Zk kd) H H' ∧ l ≠ f0 ∧
      H' f0 = some (.lst es) ∧ ListAt (TriAt H') es (tidyTo D (Kp371.isAim f v) j) ∧ H' m = some (.dK (setK (KpM.tAt D.world (Kp371.isAim f v) D.world.now j).1)) ∧ H' l = some (.lst (Ns (KpM.tAt D.world (Kp371.isAim f v) D.world.now j).2)))
    (fun H4 s4 => ?_) (fun j σ' H' hj q => ?_) (fun σ' H' q => ?_)
  · have s34 := s3.trans s4
    exact ⟨l0, [], none, none, none, none, none, rfl, Mem.same (Z := Zk kd) kn2 s34, kp2.trans (Kept.of_same s34), l0f, s34 _ _ (s12 _ _ hf1), ListAt.nil, s34 _ _ hm2, s4 _ _ hl0⟩
  · obtain ⟨l, es, y7, y8, y9, y10, y11, rfl, kn5, kp5, lf, hf5, hes, hm5, hl5⟩ := q
    have llen := KpM.tAt_len wok wok.now hf j
    have mlen := tMet_len wok wok.now hf j
    have llt : ∀ x ∈ (KpM.tAt D.world (Kp371.isAim f v) D.world.now j).2, x < 2 ^ D.world.m := fun x hx => KpM.tAt_lt wok wok.now hf hx
    have nx1 : (KpM.tAt D.world (Kp371.isAim f v) D.world.now (j + 1)).1 = KpM.tMet (KpM.tAt D.world (Kp371.isAim f v) D.world.now j).1 (KpM.tAt D.world (Kp371.isAim f v) D.world.now j).2 := rfl
    have nx2 : (KpM.tAt D.world (Kp371.isAim f v) D.world.now (j + 1)).2 = KpM.tBehind D.world (Kp371.isAim f v) (KpM.tMet (KpM.tAt D.world (Kp371.isAim f v) D.world.now j).1 (KpM.tAt D.world (Kp371.isAim f v) D.world.now j).2) (KpM.tAt D.world (Kp371.isAim f v) D.world.now j).2 := rfl
    have nx3 := tidyTo_succ D (Kp371.isAim f v) j
    have elen := tidyTo_len wok hf j
    have bl2 : (KpM.tAt D.world (Kp371.isAim f v) D.world.now (j + 1)).2.length ≤ 32 := KpM.tAt_len wok wok.now hf (j + 1)
    generalize hx1 : (KpM.tAt D.world (Kp371.isAim f v) D.world.now (j + 1)).1 = met2 at nx1
    generalize hx2 : (KpM.tAt D.world (Kp371.isAim f v) D.world.now (j + 1)).2 = lay2 at nx2 bl2
    generalize (KpM.tAt D.world (Kp371.isAim f v) D.world.now j).1 = met at hm5 mlen nx1 nx2
    generalize (KpM.tAt D.world (Kp371.isAim f v) D.world.now j).2 = layer at hl5 llen llt nx1 nx2 nx3
    have lm : l ≠ m := fun z => by rw [z, hm5] at hl5; cases hl5
    have fm : f0 ≠ m := fun z => by rw [z, hm5] at hf5; cases hf5
    -- for state in layer: met[state] = True
    refine s_forLr (R := Same) (a := l) (xs := Ns layer) (Same.refl _) (ev_var rfl) hl5
      (fun i σ' H6 => ∃ (y8 : Option V), σ' = [some (.ref wa), some (.ref ch), some (.ref aa), some (N k), some (.ref f0), some (.ref m), some (.ref l), some (.int (j : Int)), y8, y9, y10, y11, none] ∧ Kn kd D (f0 :: X) H6 ∧ Kept (fun a => a = m) H' H6 ∧ H6 m = some (.dK (setK ((layer.take i).foldl KpM.addTo met))))
      (fun H6 s6 => ⟨_, rfl, Mem.same (Z := Zk kd) kn5 s6, Kept.of_same s6, s6 _ _ hm5⟩) (fun i σ' H6 p => by
        obtain ⟨_, _, _, q, _⟩ := p
        exact q _ _ lm hl5) (fun i x σ' H6 hx p => ?_) (fun σ' H6 p => ?_)
    · obtain ⟨y8, rfl, kn6, k6, hm6⟩ := p
      obtain ⟨hy, rfl⟩ := ns_get hx
      have il : i < layer.length := (List.getElem?_eq_some_iff.mp hy).1
      have st := KpM.fold_take KpM.addTo met hy
      have al := addAll_len (layer := layer.take i) (met := met)
      rw [List.length_take] at al
      refine s_dput (k := Sum.inl ((layer.getD i 0 : Nat) : Int)) (P := Is (.bl true)) ev_c (fun _ _ => ev_var rfl) (fun _ _ => ev_var rfl) hm6 (Nat.lt_of_le_of_lt (by rw [List.length_map]; exact al) (Nat.lt_of_le_of_lt (show _ ≤ 32 * 100 + 32 by omega) (by decide))) (fun u H7 H8 s7 eu s8 => ?_)
      cases eu
      have s78 := s7.trans s8
      rw [putK_setK]
      refine ⟨_, rfl, kn_dict (Mem.same (Z := Zk kd) kn6 s78) mk (s78 _ _ hm6), fun a o na e => ?_, ?_⟩
      · rw [upd_ne na]
        exact s78 _ _ (k6 a o na e)
      · rw [upd_same, st]
    · obtain ⟨y8, rfl, kn6, k6, hm6⟩ := p
      rw [List.length_map, List.take_length] at hm6
      have hm6 : H6 m = some (.dK (setK met2)) := by
        rw [hm6, nx1]
        rfl
      have kp6 : Kept (Zk kd) H H6 := fun a o na e => k6 a o (fun z => by rw [z, nmH] at e; cases e) (kp5 a o na e)
      have hf6 : H6 f0 = some (.lst es) := k6 _ _ fm hf5
      have hl6 : H6 l = some (.lst (Ns layer)) := k6 _ _ lm hl5
      have hes6 : ListAt (TriAt H6) es (tidyTo D (Kp371.isAim f v) j) := hes.imp fun t c e => k6 _ _ (TriAt.nd e hm5) e
      have hc6 := hc.keep (rk kn6 kp6)
      have r6 : RK kd D (f0 :: X) H6 H6 := rk_refl kn6
      -- found.extend(..)
      refine s_extend (R := RK kd D (f0 :: X)) (P := NewC H6 (fun _ => true) (fun i u H' => ∃ t, u = .ref t ∧ t ≠ kd ∧ H' t = some (.tup [.int (0 - (Kp373.keeps D (layer.getD i 0) : Int)), N j, N (layer.getD i 0)])) (Ns layer).length) r6 rfl hf6
        (ev_lcL (xs := Ns layer) (f := fun _ => true) ((ev_var rfl).imp fun u H7 s7 eu => ⟨l, eu, Good.keep s7 hl6 lst_nd⟩) (by rw [List.length_map]; omega) (fun d i x H7 hx rr k3 => ?_) (fun d i u H7 H8 l hi pu hD hl hk7 => ?_)) (fun u H7 r7 pu => ?_)
      · obtain ⟨hy, rfl⟩ := ns_get hx
        have e3 : RK kd D (f0 :: X) H6 H7 := ⟨kn6, Mem.pop (Z := Zk kd) rr.1, k3⟩
        have hc7 := hc6.keep e3
        refine ⟨_, fun Q q' => q', rfl, fun H4 e4 Q q' => q' H4 (Good.here e4), fun _ => ?_⟩
        exact (ev_tupF (R := RK kd D (d :: f0 :: X)) (ea_cons (ev_I0 ev_c (ev_meth (ev_var rfl) hc7.m (ea_cons (ev_var rfl) ea_nil) fun H8 e8 => do_Chances_kept e8 (hc7.keep e8) ok (llt _ (List.mem_of_getElem? hy)))) (ea_cons (ev_var rfl) (ea_cons (ev_var rfl) ea_nil))) (by simp)).imp fun u H8 s8 ⟨t, eu, nt, hu⟩ => ⟨t, eu, nkd rr.1 nt, hu⟩
      · obtain ⟨t, eu, nk, h1⟩ := pu
        exact ⟨t, eu, nk, hk7 _ _ nk (fun z => by rw [z, hl] at h1; cases h1) h1⟩
      · obtain ⟨d, ys, rfl, nd, hd, hel⟩ := pu
        have hlist : ListAt (TriAt H7) ys (layer.map fun s => (0 - (Kp373.keeps D s : Int), j, s)) := by
          have := El.list (P := TriAt) (e := fun i => (0 - (Kp373.keeps D (layer.getD i 0) : Int), j, layer.getD i 0)) (hel.imp fun i u hi ⟨t, eu, _, ht⟩ => ⟨t, eu, ht⟩)
          rw [filt_all, List.length_map, range_map (fun s : Nat => (0 - (Kp373.keeps D s : Int), j, s)) 0 layer] at this
          exact this
        have hf7 : H7 f0 = some (.lst es) := Good.keep r7 hf6 lst_nd
        have ylen : ys.length ≤ 32 := by
          rw [hlist.1, List.length_map]
          exact llen
        refine ⟨d, ys, rfl, hd, Nat.le_trans (show es.length + ys.length ≤ 32 * 100 + 32 by have := hes.1; omega) (by decide), ?_⟩
        have kn8 : Kn kd D (f0 :: X) (upd H7 f0 (.lst (es ++ ys))) := Mem.poke (Z := Zk kd) r7.2.1 hf7
        have kp7 : Kept (Zk kd) H H7 := kp6.trans r7.2.2
        have kp8 : Kept (Zk kd) H (upd H7 f0 (.lst (es ++ ys))) := fun a o na e => by
          rw [upd_ne (ne_of_none e nf0)]
          exact kp7 a o na e
        have hm8 : upd H7 f0 (.lst (es ++ ys)) m = some (.dK (setK met2)) := by
          rw [upd_ne fm.symm]
          exact r7.2.2 _ _ mk hm6
        have hl8 : upd H7 f0 (.lst (es ++ ys)) l = some (.lst (Ns layer)) := by
          rw [upd_ne lf]
          exact Good.keep r7 hl6 lst_nd
        have hf8 : upd H7 f0 (.lst (es ++ ys)) f0 = some (.lst (es ++ ys)) := upd_same
        have hes8 : ListAt (TriAt (upd H7 f0 (.lst (es ++ ys)))) (es ++ ys) (tidyTo D (Kp371.isAim f v) (j + 1)) := by
          rw [nx3]
          have mv : ∀ t c, TriAt H7 t c → TriAt (upd H7 f0 (.lst (es ++ ys))) t c := fun t c e => by
            show upd H7 f0 (.lst (es ++ ys)) t = _
            rw [upd_ne (TriAt.nl e hf7)]
            exact e
          exact ListAt.append (hes6.imp fun t c e => mv t c (Good.keep r7 e tup_nd)) (hlist.imp mv)
        generalize upd H7 f0 (.lst (es ++ ys)) = H8 at kn8 kp8 hm8 hl8 hf8 hes8
        intro b nb
        have s89 : Same H8 (upd H8 b (.dK [])) := same_upd nb
        have hb9 : upd H8 b (.dK []) b = some (.dK (setK [])) := upd_same
        have bk : b ≠ kd := nkd kn8 nb
        have fb : f0 ≠ b := ne_of_none hf8 nb
        have lb : l ≠ b := ne_of_none hl8 nb
        have mb : m ≠ b := ne_of_none hm8 nb
        have tb : ∀ t c, TriAt H8 t c → t ≠ b := fun t c e => ne_of_none e nb
        have nbH : H b = none := by
          cases e : H b with
          | none => rfl
          | some o =>
            rw [kp8 b o bk e] at nb
            cases nb
        generalize upd H8 b (.dK []) = H9 at s89 hb9
        have kn9 : Kn kd D (f0 :: X) H9 := Mem.same (Z := Zk kd) kn8 s89
        have kp9 : Kept (Zk kd) H H9 := kp8.trans (Kept.of_same s89)
        -- for state in layer: ..
        refine s_forLr (R := Same) (a := l) (xs := Ns layer) (Same.refl _) (ev_var rfl) (s89 _ _ hl8)
          (fun i σ' H' => ∃ (y8 y10 y11 : Option V), σ' = [some (.ref wa), some (.ref ch), some (.ref aa), some (N k), some (.ref f0), some (.ref m), some (.ref l), some (.int (j : Int)), y8, some (.ref b), y10, y11, none] ∧ Kn kd D (f0 :: X) H' ∧ Kept (fun a => a = b) H9 H' ∧ H' b = some (.dK (setK ((layer.take i).foldl (KpM.tFrom D.world (Kp371.isAim f v) met2) []))) ∧ ((layer.take i).foldl (KpM.tFrom D.world (Kp371.isAim f v) met2) []).length ≤ 7 * i)
          (fun H' s' => ⟨_, _, _, rfl, Mem.same (Z := Zk kd) kn9 s', Kept.of_same s', s' _ _ hb9, Nat.zero_le _⟩) (fun i σ' H' p => by
            obtain ⟨_, _, _, _, _, q, _⟩ := p
            exact q _ _ lb (s89 _ _ hl8)) (fun i x σ' H' hx p => ?_) (fun σ' H' p => ?_)
        · obtain ⟨z8, z10, z11, rfl, kn10, k10, hb10, len10⟩ := p
          obtain ⟨hy, rfl⟩ := ns_get hx
          have il : i < layer.length := (List.getElem?_eq_some_iff.mp hy).1
          have slt := llt _ (List.mem_of_getElem? hy)
          have st := KpM.fold_take (KpM.tFrom D.world (Kp371.isAim f v) met2) [] hy
          generalize (layer.take i).foldl (KpM.tFrom D.world (Kp371.isAim f v) met2) [] = acc at hb10 len10 st
          have kp10 : Kept (Zk kd) H H' := fun a o na e => k10 a o (fun z => by rw [z, nbH] at e; cases e) (kp9 a o na e)
          have hc10 := hc.keep (rk kn10 kp10)
          have ha10 := ha.keep (rk kn10 kp10)
          have hw10 := hc10.wd
          have hm10 : H' m = some (.dK (setK met2)) := k10 _ _ mb (s89 _ _ hm8)
          refine s_forG (R := Same) (Same.refl _) (ev_meth (ev_var rfl) hw10.m (ea_cons (ev_var rfl) ea_nil) fun H6 s6 => do_World_followers s6 (Same.refl _) (hw10.keep s6) wok slt) (fun u H11 s11 ⟨p, eu, np, vs, hp, hvs⟩ => ?_)
          have pb : p ≠ b := fun z => by rw [z, hb10] at np; cases np
          refine ⟨p, vs, eu, hp, fun i2 σ' H'' => ∃ (z10 z11 : Option V), σ' = [some (.ref wa), some (.ref ch), some (.ref aa), some (N k), some (.ref f0), some (.ref m), some (.ref l), some (.int (j : Int)), some (N (layer.getD i 0)), some (.ref b), z10, z11, none] ∧ Kn kd D (f0 :: X) H'' ∧ Kept (fun a => a = b) H11 H'' ∧
            H'' b = some (.dK (setK (((KpM.foll D.world (layer.getD i 0)).take i2).foldl (KpM.tOne (Kp371.isAim f v) met2) acc))) ∧ (((KpM.foll D.world (layer.getD i 0)).take i2).foldl (KpM.tOne (Kp371.isAim f v) met2) acc).length ≤ 7 * i + i2,
            ⟨_, _, rfl, Mem.same (Z := Zk kd) kn10 s11, fun _ _ _ e => e, s11 _ _ hb10, len10⟩, fun i2 σ' H'' q => ?_, fun i2 x σ' H'' hx q => ?_, fun σ' H'' q => ?_⟩
          · obtain ⟨_, _, _, _, q, _⟩ := q
            exact q _ _ pb hp
          · obtain ⟨z10, z11, rfl, kn12, k12, hb12, len12⟩ := q
            obtain ⟨t, pr, hpr, rfl, ht⟩ := hvs.get hx
            have nt : t ≠ b := fun z => by
              rw [z, s11 _ _ hb10] at ht
              cases ht
            have st12 := KpM.fold_take (KpM.tOne (Kp371.isAim f v) met2) acc hpr
            have i2l : i2 < 7 := by
              have h1 := (List.getElem?_eq_some_iff.mp hpr).1
              have h2 := foll_len wok (layer.getD i 0)
              omega
            generalize ((KpM.foll D.world (layer.getD i 0)).take i2).foldl (KpM.tOne (Kp371.isAim f v) met2) acc = acc2 at hb12 len12 st12
            have ha12 : AimAt A H'' aa f v := by
              obtain ⟨dx, e⟩ := ha10
              exact ⟨dx, k12 _ _ (fun z => by rw [z, hb10] at e; cases e) (s11 _ _ e)⟩
            have hm12 : H'' m = some (.dK (setK met2)) := k12 _ _ mb (s11 _ _ hm10)
            refine g_pair (k12 _ _ nt ht) ?_
            refine s_if (R := Same) (b := Kp371.isAim f v pr.2 && !met2.contains pr.2) (Same.refl _) (et_and (et_B (ev_meth (ev_var rfl) ha12.m (ea_cons (ev_var rfl) ea_nil) fun H13 s13 => do_Aim_is_so (K := K) (Same.refl _) (ha12.keep s13))) (fun _ => et_B ((ev_notin (k := Sum.inl (pr.2 : Int)) (ev_var rfl) (ev_var rfl) hm12).is (by rw [valV_setK])))) (fun hb H13 s13 => ?_) (fun hb H13 s13 => ?_)
            · have tone : KpM.tOne (Kp371.isAim f v) met2 acc2 pr = KpM.addTo acc2 pr.2 := if_pos hb
              refine s_dput (k := Sum.inl (pr.2 : Int)) (P := Is (.bl true)) ev_c (fun _ _ => ev_var rfl) (fun _ _ => ev_var rfl) (s13 _ _ hb12) (Nat.lt_of_le_of_lt (by rw [List.length_map]; exact len12) (Nat.lt_of_le_of_lt (show 7 * i + i2 ≤ 7 * 32 + 7 by omega) (by decide))) (fun u H14 H15 s14 eu s15 => ?_)
              cases eu
              have s16 := (s13.trans s14).trans s15
              rw [putK_setK]
              refine ⟨_, _, rfl, kn_dict (Mem.same (Z := Zk kd) kn12 s16) bk (s16 _ _ hb12), fun a o na e => ?_, ?_, ?_⟩
              · rw [upd_ne na]
                exact s16 _ _ (k12 a o na e)
              · rw [upd_same, st12, tone]
              · rw [st12, tone]
                exact Nat.le_trans addTo_len (by omega)
            · have tone : KpM.tOne (Kp371.isAim f v) met2 acc2 pr = acc2 := if_neg (by rw [hb]; exact Bool.false_ne_true)
              refine ⟨_, _, rfl, Mem.same (Z := Zk kd) kn12 s13, fun a o na e => s13 _ _ (k12 a o na e), ?_, ?_⟩
              · rw [st12, tone]
                exact s13 _ _ hb12
              · rw [st12, tone]
                omega
          · obtain ⟨z10, z11, rfl, kn12, k12, hb12, len12⟩ := q
            rw [hvs.1, List.take_length] at hb12 len12
            have h2 := foll_len wok (layer.getD i 0)
            refine ⟨_, z10, z11, rfl, kn12, fun a o na e => k12 _ _ na (s11 _ _ (k10 a o na e)), ?_, ?_⟩
            · rw [st]
              exact hb12
            · rw [st]
              exact Nat.le_trans len12 (by omega)
        · obtain ⟨z8, z10, z11, rfl, kn10, k10, hb10, _⟩ := p
          rw [List.length_map, List.take_length] at hb10
          have hb10 : H' b = some (.dK (setK lay2)) := by
            rw [hb10, nx2, nx1]
            rfl
          refine s_set (R := Same) (P := NewL H' (Ns lay2)) (Same.refl _) (ev_cb (ea_cons (ev_var rfl) ea_nil) fun H11 s11 Q q => ?_) (fun u H11 s11 pu => ?_)
          · exact ⟨b, _, rfl, s11 _ _ hb10, fun p np => q _ _ (same_upd np) ⟨p, rfl, s11.free np, by rw [upd_same, setK_keys]⟩⟩
          · obtain ⟨l2, rfl, nl2, hl2⟩ := pu
            have ff : H' f0 = some (.lst (es ++ ys)) := k10 _ _ fb (s89 _ _ hf8)
            refine ⟨l2, es ++ ys, _, _, _, _, _, rfl, Mem.same (Z := Zk kd) kn10 s11, fun a o na e => s11 _ _ (k10 a o (fun z => by rw [z, nbH] at e; cases e) (kp9 a o na e)), (ne_of_none ff nl2).symm, s11 _ _ ff, hes8.imp fun t c e => s11 _ _ (k10 _ _ (tb t c e) (s89 _ _ e)), ?_, ?_⟩
            · exact s11 _ _ (k10 _ _ mb (s89 _ _ hm8))
            · exact hl2
  · obtain ⟨l, es, y7, y8, y9, y10, y11, rfl, kn5, kp5, lf, hf5, hes, _, _⟩ := q
    have e0 : KpM.tidyEnds D (Kp371.isAim f v) k = tidyTo D (Kp371.isAim f v) (k + 1) := rfl
    have pos : 0 < (tidyTo D (Kp371.isAim f v) (k + 1)).length := List.length_pos_of_mem (a := (0 - (Kp373.keeps D D.world.now : Int), 0, D.world.now)) (KpM.mem_tidyEnds.mpr ⟨Nat.zero_le _, List.mem_singleton.mpr rfl, rfl⟩)
    have tis := fun m hm => KpM.tidy_is wok (a := f) (w := v) (k := k) hf (m := m) hm
    rw [e0] at tis
    generalize tidyTo D (Kp371.isAim f v) (k + 1) = cs at hes pos tis
    have len := hes.1
    refine ⟨_, rfl, f0, es, fun i j => KpM.ltT (cs.getD i (0, 0, 0)) (cs.getD j (0, 0, 0)), rfl, hf5, by omega, fun i j x y hx hy => ?_, fun v2 hv => ?_⟩
    · obtain ⟨a, e, he, rfl, ta⟩ := hes.get hx
      obtain ⟨b, f2, hf2, rfl, tb⟩ := hes.get hy
      dsimp only
      rw [List.getD_eq_getElem?_getD, List.getD_eq_getElem?_getD, he, hf2]
      exact ltv_tri ta tb
    · obtain ⟨a, e, he, rfl, ta⟩ := hes.get hv
      obtain ⟨l2, hl2, ht⟩ := tis e ⟨List.mem_of_getElem? he, fun c hc => by
        obtain ⟨i, hi, rfl⟩ := List.mem_iff_getElem.mp hc
        have := bestAt_least (fun i j => KpM.ltT (cs.getD i (0, 0, 0)) (cs.getD j (0, 0, 0))) (fun i => ltT_irrefl _) (fun i j k h1 h2 => ltT_trans h1 h2) (es.length - 1) i (by omega)
        rw [List.getD_eq_getElem?_getD, List.getElem?_eq_getElem hi, List.getD_eq_getElem?_getD, he] at this
        exact this⟩
      refine g_trip ta ?_
      with_reducible show tRet _ _ _ _
      refine s_ret (R := Same) (P := IsT [.int (0 - e.1), N e.2.1, N e.2.2]) (Same.refl _) ?_ (fun u H3 s3 pu => ?_)
      · exact ev_tupC (ea_cons (ev_I0 ev_c (ev_var rfl)) (ea_cons (ev_var rfl) (ea_cons (ev_var rfl) ea_nil))) (by simp)
      obtain ⟨t, rfl, ht3⟩ := pu
      rw [hl2] at ht3
      exact kk l2 e.2.1 e.2.2 t H3 ht (rk (Mem.same (Z := Zk kd) kn5 s3) (kp5.trans (Kept.of_same s3))) ht3
end
end Kw
set_option maxRecDepth 100000
set_option maxHeartbeats 400000
namespace Kw
open PySem PySem.Spec PyProof.Rows L2
abbrev LAt (A : Ad) (H : Hp) (la wa oa : Addr) : Prop := ∃ dx, H la = some (.ins A.CLine dx [("world", .ref wa), ("others", .ref oa)])
/-- a line: its world, the other aims; its lists apart -/
structure LineAt (A : Ad) (H : Hp) (la wa da ea oa : Addr) (D : Kp373.Desk) : Prop where
  ob : LAt A H la wa oa
  wd : WorldAt A H wa da ea D.world
  ot : OthersAt A H oa D.aims
  ok : KpM.OkK D
  de : da ≠ ea
  dO : da ≠ oa
  eO : ea ≠ oa
/-- what a call ends with: refused with a number; the line so, these numbers -/
inductive Out where
  | no (n : Int)
  | ok (D : Kp373.Desk) (l : List Int)
/-- all but these stays -/
def FpK (wa da ea oa : Addr) (H H' : Hp) : Prop := ∀ a o, a ≠ wa → a ≠ da → a ≠ ea → a ≠ oa → H a = some o → H' a = some o
def LDo (A : Ad) (H : Hp) (la wa da ea oa : Addr) (r : Out) (Q : VK) (E : XK) : Prop := match r with
  | .no n => Rz A H E n
  | .ok D l => ∀ p H', FpK wa da ea oa H H' → H p = none → LineAt A H' la wa da ea oa D → H' p = some (.lst (l.map V.int)) → Q (.ref p) H'
def outX (D : Kp373.Desk) (c : Kp373.Call) : Out := match Kp373.step (some D) c with
  | (some D', a) => if a.num < 0 then .no a.num else .ok D' (a.num :: a.nums)
  | (none, _) => .no 0
def sp_counted (K : PySem.W.Frag) (A : Ad) : Sp := Sp1 fun a H Q E => ∃ (p : Addr) (xs : List V), a = .ref p ∧ H p = some (.lst xs) ∧ xs.length ≤ 1000 ∧ ∀ q H', Same H H' → H q = none → H' q = some (.lst (.int (xs.length : Int) :: xs)) → Q (.ref q) H'
def sp_Line_init (K : PySem.W.Frag) (A : Ad) : Sp := Sp2 fun s m H Q E => ∃ (x dx : Addr) (n : Nat), s = .ref x ∧ m = N n ∧ 2 ≤ n ∧ n ≤ 5 ∧ H x = some (.ins A.CLine dx []) ∧
  ∀ H' wa da ea oa, LineAt A H' x wa da ea oa ⟨⟨n, [], [], 0⟩, []⟩ → H wa = none → H da = none → H ea = none → H oa = none → (∀ b o, H b = some o → b ≠ x → H' b = some o) → Q .non H'
def sp_Line_chances (K : PySem.W.Frag) (A : Ad) : Sp := Sp1 fun s H Q E => ∃ (la wa da ea oa : Addr) (D : Kp373.Desk), s = .ref la ∧ LineAt A H la wa da ea oa D ∧ ∀ ch kd H', Same H H' → ChE A H' ch wa da ea oa kd D → H' kd = some (.dK []) → H kd = none → Q (.ref ch) H'
def sp_Line_look_there (K : PySem.W.Frag) (A : Ad) : Sp := Sp3 fun s i r H Q E => ∃ (n : Nat) (p : Addr) (xs : List V), i = N n ∧ r = .ref p ∧ H p = some (.lst xs) ∧ (xs.length ≤ n → Rz A H E (-2)) ∧ (n < xs.length → ∀ H', Same H H' → Q .non H')
def sp_Line_look_state (K : PySem.W.Frag) (A : Ad) : Sp := Sp2 fun s i H Q E => ∃ (la wa da ea oa : Addr) (D : Kp373.Desk) (n : Nat), s = .ref la ∧ i = N n ∧ LineAt A H la wa da ea oa D ∧ (2 ^ D.world.m ≤ n → Rz A H E (-22)) ∧ (n < 2 ^ D.world.m → ∀ H', Same H H' → Q .non H')
def sp_Line_add_change (K : PySem.W.Frag) (A : Ad) : Sp := Sp4 fun s m r k H Q E => ∃ (la wa da ea oa na p : Addr) (D : Kp373.Desk) (x : Kp371.Deed) (t : Nat) (ds : List Kp371.Deed), s = .ref la ∧ m = .ref na ∧ r = .ref p ∧ k = N t ∧ LineAt A H la wa da ea oa D ∧ H na = some (.lst (Ns [x.needs, x.so, x.makes, x.thus])) ∧ ChangesAt A H p ds ∧ ds.length ≤ 10 ∧
  (Kp371.okDeed D.world x.needs x.so x.makes x.thus = false → Rz A H E (-22)) ∧ (Kp371.okDeed D.world x.needs x.so x.makes x.thus = true → ds.length = t → Rz A H E (-28)) ∧
  (Kp371.okDeed D.world x.needs x.so x.makes x.thus = true → ds.length ≠ t → ∀ q H', (∀ b o, b ≠ p → H b = some o → H' b = some o) → ChangesAt A H' p (ds ++ [x]) → H q = none → H' q = some (.lst [N ds.length]) → Q (.ref q) H')
def sp_Line_take_out (K : PySem.W.Frag) (A : Ad) : Sp := Sp3 fun s i r H Q E => ∃ (la wa da ea oa : Addr) (D : Kp373.Desk) (n : Nat) (p : Addr) (xs : List V), s = .ref la ∧ i = N n ∧ r = .ref p ∧ LineAt A H la wa da ea oa D ∧ H p = some (.lst xs) ∧ xs.length ≤ 10 ∧ (xs.length ≤ n → Rz A H E (-2)) ∧
  (n < xs.length → ∀ q H', (∀ b o, b ≠ p → H b = some o → H' b = some o) → H' p = some (.lst (xs.eraseIdx n)) → H q = none → H' q = some (.lst [N (xs.length - 1)]) → Q (.ref q) H')
/-- a call with one number -/
def PL1 (A : Ad) (c : Nat → Kp373.Call) : V → V → Hp → VK → XK → Prop := fun s i H Q E => ∃ (la wa da ea oa : Addr) (D : Kp373.Desk) (n : Nat), s = .ref la ∧ i = N n ∧ LineAt A H la wa da ea oa D ∧ LDo A H la wa da ea oa (outX D (c n)) Q E
def sp_Line_set_state (K : PySem.W.Frag) (A : Ad) : Sp := Sp2 (PL1 A .set)
def sp_Line_do_deed (K : PySem.W.Frag) (A : Ad) : Sp := Sp2 (PL1 A .do_)
def sp_Line_told_aim (K : PySem.W.Frag) (A : Ad) : Sp := Sp2 (PL1 A .aimIs)
def sp_Line_open_at (K : PySem.W.Frag) (A : Ad) : Sp := Sp2 (PL1 A .openAt)
def sp_Line_keeps (K : PySem.W.Frag) (A : Ad) : Sp := Sp2 (PL1 A .keeps)
def sp_Line_costs (K : PySem.W.Frag) (A : Ad) : Sp := Sp2 (PL1 A .costs)
def sp_Line_last_chance (K : PySem.W.Frag) (A : Ad) : Sp := Sp2 (PL1 A .lastChance)
def sp_Line_harmless (K : PySem.W.Frag) (A : Ad) : Sp := Sp1 fun s H Q E => ∃ (la wa da ea oa : Addr) (D : Kp373.Desk), s = .ref la ∧ LineAt A H la wa da ea oa D ∧ LDo A H la wa da ea oa (outX D .harmless) Q E
def sp_Line_add_aim (K : PySem.W.Frag) (A : Ad) : Sp := Sp2 fun s i H Q E => ∃ (la wa da ea oa na : Addr) (D : Kp373.Desk) (x : Kp373.Aim), s = .ref la ∧ i = .ref na ∧ LineAt A H la wa da ea oa D ∧ H na = some (.lst (Ns [x.a, x.w, x.worth, x.steps])) ∧ LDo A H la wa da ea oa (outX D (.aim x.a x.w x.worth x.steps)) Q E
def sp_Line_tidy (K : PySem.W.Frag) (A : Ad) : Sp := Sp2 fun s i H Q E => ∃ (la wa da ea oa na : Addr) (D : Kp373.Desk) (f v k : Nat), s = .ref la ∧ i = .ref na ∧ LineAt A H la wa da ea oa D ∧ H na = some (.lst (Ns [f, v, k])) ∧ LDo A H la wa da ea oa (outX D (.tidy f v k)) Q E
def sp_Line_own_aim (K : PySem.W.Frag) (A : Ad) : Sp := Sp2 fun s i H Q E => ∃ (la wa da ea oa na : Addr) (D : Kp373.Desk) (f v k : Nat), s = .ref la ∧ i = .ref na ∧ LineAt A H la wa da ea oa D ∧ H na = some (.lst (Ns [f, v, k])) ∧
  (Kp373.okAsk D f v k = false → Rz A H E (-22)) ∧ (Kp373.okAsk D f v k = true → ∀ am H', Same H H' → AimAt A H' am f v → Q (.ref am) H')
def sp_Line_least (K : PySem.W.Frag) (A : Ad) : Sp := Sp2 fun s i H Q E => ∃ (la wa da ea oa na : Addr) (D : Kp373.Desk) (f v k : Nat), s = .ref la ∧ i = .ref na ∧ LineAt A H la wa da ea oa D ∧ H na = some (.lst (Ns [f, v, k])) ∧
  (Kp373.okAsk D f v k = false → Rz A H E (-22)) ∧ (Kp373.okAsk D f v k = true → Kp373.least D f v k = none → Rz A H E (-33)) ∧ (Kp373.okAsk D f v k = true → ∀ m t H', KpM.IsMin KpM.lt3 (KpM.lossEnds D (Kp371.isAim f v) k) m → Same H H' → TripAt H' t m → Q (.ref t) H')
def sp_Line_most (K : PySem.W.Frag) (A : Ad) : Sp := Sp2 fun s i H Q E => ∃ (la wa da ea oa na : Addr) (D : Kp373.Desk) (f v k : Nat), s = .ref la ∧ i = .ref na ∧ LineAt A H la wa da ea oa D ∧ H na = some (.lst (Ns [f, v, k])) ∧
  (Kp373.okAsk D f v k = false → Rz A H E (-22)) ∧ (Kp373.okAsk D f v k = true → Kp373.most D f v k = none → Rz A H E (-33)) ∧ (Kp373.okAsk D f v k = true → ∀ m t H', KpM.IsMin KpM.lt3 (KpM.keptEnds D (Kp371.isAim f v) k) m → Same H H' → TripAt H' t (0 - m.1, m.2.1, m.2.2) → Q (.ref t) H')
/-! ### calls that may be refused -/
def DoesE (E : XK) (R : Hp → Hp → Prop) (sp : Sp) (vs : List V) (H : Hp) (P : Pr) : Prop := ∀ Q : VK, (∀ v H2, R H H2 → P v H2 → Q v H2) → sp vs H Q E
section
variable {R : Hp → Hp → Prop} [G : Good R] {K : PySem.W.Frag} {A : Ad} {E : XK} {σ : L2.St} {H H' : Hp} {ta te to te1 te2 : TE} {t : TA} {P P1 P2 : Pr} {sp : Sp} {D : Ends} {ts tw : TS}
theorem ev_methE {a C : Addr} {m : Str} {PA : List V → Hp → Prop} (ho : Ev R ta σ H (Is (.ref a))) (hi : InsAt H a C m) (ha : EvA R t σ H PA) (hs : ∀ vs H1, R H H1 → PA vs H1 → DoesE E R sp (.ref a :: vs) H1 P) : Ev R (tMeth C m sp [] E ta t) σ H P := fun H1 e Q q =>
  ho H1 e _ fun u H2 e2 eu => by
    cases eu
    obtain ⟨dx, fs, h1, h2⟩ := hi.keep (G.trans e e2)
    refine ⟨a, dx, fs, rfl, h1, h2, ha H2 (G.trans e e2) _ fun us H3 e3 pa => ?_⟩
    have := hs us H3 (G.trans (G.trans e e2) e3) pa Q fun v H4 e4 p => q v H4 (G.trans (G.trans e2 e3) e4) p
    rw [← List.append_nil us] at this
    exact this
theorem ev_callE {PA : List V → Hp → Prop} (ha : EvA R t σ H PA) (hs : ∀ vs H1, R H H1 → PA vs H1 → DoesE E R sp vs H1 P) : Ev R (tCall sp [] E t) σ H P := fun H1 e Q q =>
  ha H1 e _ fun us H2 e2 pa => by
    have := hs us H2 (G.trans e e2) pa Q fun v H3 e3 p => q v H3 (G.trans e2 e3) p
    rw [← List.append_nil us] at this
    exact this
/-- refuse_if(.., n) -/
theorem s_refuse {b : Bool} {n : Int} (h : Ev Same te σ H (Is (.bl b))) (hz : b = true → Rz A H E n) (k : b = false → ∀ H1, Same H H1 → D.nx σ H1) : tDrop (tCall (sp_refuse_if K A) [] E (tCons te (tCons (tC (.int n)) tNil))) D σ H :=
  h H (Same.refl _) _ fun u H1 s1 eu => by
    cases eu
    exact ⟨_, _, rfl, b, n, rfl, rfl, fun hb => (hz hb).mono s1, fun hb H2 s2 => k hb H2 (s1.trans s2)⟩
theorem s_fldX {a C dx : Addr} {fs : List (Str × V)} {f : Str} {v : V} (r0 : R H H) (h : Ev R te σ H (Is v)) (ho : ∀ H1, R H H1 → Ev R to σ H1 (Is (.ref a))) (hx : H a = some (.ins C dx fs)) (c : Cls K C) (n : NoAttr K C f) (k : ∀ H1, R H H1 → D.nx σ (upd H1 a (.ins C dx (putF f v fs)))) (hl : fs.length < 1000 := by simp) : sFld K to te f D σ H :=
  h H r0 _ fun u H1 s1 eu => by
    cases eu
    exact ho H1 s1 H1 (G.here s1) _ fun u2 H2 s2 eu2 => by
      cases eu2
      exact ⟨a, C, dx, fs, rfl, G.keep (G.trans s1 s2) hx ins_nd, c, n, hl, k H2 (G.trans s1 s2)⟩
end
section
variable {K : PySem.W.Frag} {mg : Str → Option Value} {A : Ad} {E : XK} {σ : L2.St} {H H' : Hp} {la wa da ea oa : Addr} {D : Kp373.Desk} {te te1 te2 : TE} {Dn : Ends} {R : Hp → Hp → Prop} [G : Good R]
theorem LineAt.keep (h : LineAt A H la wa da ea oa D) (e : R H H') : LineAt A H' la wa da ea oa D := by
  obtain ⟨⟨dx, h1⟩, h2, h3, h4, h5, h6, h7⟩ := h
  exact ⟨⟨dx, G.keep e h1 ins_nd⟩, h2.keep e, h3.keep e, h4, h5, h6, h7⟩
theorem LineAt.world (T : Txt K mg A) (h : LineAt A H la wa da ea oa D) : FldAt K H la "world" (.ref wa) := h.ob.elim fun _ h => fldAt_of h T.c_Line T.n_Line_world lk_here
theorem LineAt.others (T : Txt K mg A) (h : LineAt A H la wa da ea oa D) : FldAt K H la "others" (.ref oa) := h.ob.elim fun _ h => fldAt_of h T.c_Line T.n_Line_others (lk_2 (by decide +kernel))
theorem LineAt.m {m : Str} (h : LineAt A H la wa da ea oa D) (h1 : (m == ("world" : Str)) = false := by decide +kernel) (h2 : (m == ("others" : Str)) = false := by decide +kernel) : InsAt H la A.CLine m := h.ob.elim fun _ h => insAt_of h ((lk_past h1).trans ((lk_past h2).trans rfl))
/-- self.look_there(.., ..) -/
theorem s_lookT {n len : Nat} (h0 : σ[0]? = some (some (.ref la))) (hl : LineAt A H la wa da ea oa D) (h1 : Ev Same te1 σ H (Is (N n))) (h2 : ∀ H1, Same H H1 → Ev Same te2 σ H1 (fun v H2 => ∃ p xs, v = .ref p ∧ H2 p = some (.lst xs) ∧ xs.length = len)) (hz : len ≤ n → Rz A H E (-2)) (k : n < len → ∀ H1, Same H H1 → Dn.nx σ H1) :
    tDrop (tMeth A.CLine "look_there" (sp_Line_look_there K A) [] E (tVar 0) (tCons te1 (tCons te2 tNil))) Dn σ H := by
  refine s_drop (R := Same) (P := fun v H1 => n < len) (Same.refl _) (ev_methE (PA := fun vs H2 => ∃ p xs, vs = [N n, .ref p] ∧ H2 p = some (.lst xs) ∧ xs.length = len) (ev_var h0) hl.m ?_ ?_) (fun v H1 s1 p => k p H1 s1)
  · refine ea_consN h1 fun x H1 s1 ex => ?_
    cases ex
    exact ea_consN (h2 H1 s1) fun y H2 s2 ⟨p, xs, ey, hp, hn⟩ => by
      intro H3 s3 Q q
      exact q _ H3 (Same.refl _) ⟨p, xs, by rw [ey], s3 _ _ hp, hn⟩
  · intro vs H1 s1 ⟨p, xs, ev, hp, hn⟩ Q q
    subst ev
    exact ⟨_, _, _, rfl, n, p, xs, rfl, rfl, hp, fun hz' => (hz (by omega)).mono s1, fun hlt H2 s2 => q _ H2 s2 (by omega)⟩
theorem s_lookS {n : Nat} (h0 : σ[0]? = some (some (.ref la))) (hl : LineAt A H la wa da ea oa D) (h1 : Ev Same te1 σ H (Is (N n))) (hz : 2 ^ D.world.m ≤ n → Rz A H E (-22)) (k : n < 2 ^ D.world.m → ∀ H1, Same H H1 → Dn.nx σ H1) :
    tDrop (tMeth A.CLine "look_state" (sp_Line_look_state K A) [] E (tVar 0) (tCons te1 tNil)) Dn σ H := by
  refine s_drop (R := Same) (P := fun v H1 => n < 2 ^ D.world.m) (Same.refl _) (ev_methE (ev_var h0) hl.m (ea_cons h1 ea_nil) ?_) (fun v H1 s1 p => k p H1 s1)
  intro vs H1 s1 ev Q q
  cases ev
  exact ⟨_, _, rfl, la, wa, da, ea, oa, D, n, rfl, rfl, hl.keep s1, fun hz' => (hz hz').mono s1, fun hlt H2 s2 => q _ H2 s2 hlt⟩
theorem make_same {x dx : Addr} {o : HO} {H2 : Hp} (nx : H x = none) (nd : H dx = none) (k : ∀ b u, upd (upd H dx (.own x)) x o b = some u → b ≠ x → H2 b = some u) : Same H H2 := fun a u e => k a u (by
  rw [upd_ne (ne_of_none e nx), upd_ne (ne_of_none e nd)]
  exact e) (ne_of_none e nx)
theorem make_none {x dx a : Addr} {o : HO} (e : upd (upd H dx (.own x)) x o a = none) : H a = none := by
  by_cases h1 : a = x
  · rw [h1, upd_same] at e
    cases e
  · rw [upd_ne h1] at e
    by_cases h2 : a = dx
    · rw [h2, upd_same] at e
      cases e
    · rw [upd_ne h2] at e
      exact e
theorem mk_World {n : Nat} (h : Ev R te σ H (Is (N n))) (hn : n ≤ 5) : Ev R (tMake A.CWorld (sp_World_init K A) [] E (tCons te tNil)) σ H (fun v H' => ∃ wa da ea, v = .ref wa ∧ H wa = none ∧ H da = none ∧ H ea = none ∧ da ≠ ea ∧ WorldAt A H' wa da ea ⟨n, [], [], 0⟩) :=
  ev_make (ea_cons h ea_nil) fun vs H1 x dx e ev nx nd ne Q E q => by
    cases ev
    exact ⟨_, _, rfl, x, dx, n, rfl, rfl, hn, upd_same, fun H2 da ea hw n1 n2 de k => q H2 (make_same nx nd k) ⟨x, da, ea, rfl, G.free e nx, G.free e (make_none n1), G.free e (make_none n2), de, hw⟩⟩
theorem mk_Chances (h1 : Ev R te1 σ H (Is (.ref wa))) (h2 : Ev R te2 σ H (Is (.ref oa))) : Ev R (tMake A.CChances (sp_Chances_init K A) [] E (tCons te1 (tCons te2 tNil))) σ H (fun v H' => ∃ ch kd, v = .ref ch ∧ H kd = none ∧ ChAt A H' ch wa oa kd ∧ H' kd = some (.dK [])) :=
  ev_make (ea_cons h1 (ea_cons h2 ea_nil)) fun vs H1 x dx e ev nx nd ne Q E q => by
    cases ev
    exact ⟨_, _, _, rfl, x, dx, wa, oa, rfl, rfl, rfl, upd_same, fun H2 kd hc hk n1 k => q H2 (make_same nx nd k) ⟨x, kd, rfl, G.free e (make_none n1), hc, hk⟩⟩
theorem mk_Change {t : TA} {x : Kp371.Deed} (h : EvA R t σ H (IsA [N x.needs, N x.so, N x.makes, N x.thus])) : Ev R (tMake A.CChange (sp_Change_init K A) [] E t) σ H (fun v H' => ∃ a, v = .ref a ∧ H a = none ∧ ChangeAt A H' a x) :=
  ev_make h fun vs H1 a dx e ev nx nd ne Q E q => by
    cases ev
    exact ⟨_, _, _, _, _, rfl, a, dx, x, rfl, rfl, rfl, rfl, rfl, upd_same, fun H2 hc k => q H2 (make_same nx nd k) ⟨a, rfl, G.free e nx, hc⟩⟩
theorem mk_Aim {f v : Nat} (h1 : Ev R te1 σ H (Is (N f))) (h2 : Ev R te2 σ H (Is (N v))) : Ev R (tMake A.CAim (sp_Aim_init K A) [] E (tCons te1 (tCons te2 tNil))) σ H (fun v' H' => ∃ a, v' = .ref a ∧ H a = none ∧ AimAt A H' a f v) :=
  ev_make (ea_cons h1 (ea_cons h2 ea_nil)) fun vs H1 a dx e ev nx nd ne Q E q => by
    cases ev
    exact ⟨_, _, _, rfl, a, dx, f, v, rfl, rfl, rfl, upd_same, fun H2 hc k => q H2 (make_same nx nd k) ⟨a, rfl, G.free e nx, hc⟩⟩
theorem mk_Other {t : TA} {x : Kp373.Aim} (h : EvA R t σ H (fun vs H' => ∃ am, vs = [.ref am, N x.worth, N x.steps] ∧ AimAt A H' am x.a x.w)) : Ev R (tMake A.COther (sp_Other_init K A) [] E t) σ H (fun v H' => ∃ a, v = .ref a ∧ H a = none ∧ OtherAt A H' a x) :=
  ev_make h fun vs H1 a dx e ⟨am, ev, hm⟩ nx nd ne Q E q => by
    subst ev
    refine ⟨_, _, _, _, rfl, a, dx, am, x, rfl, rfl, rfl, rfl, upd_same, ?_, fun H2 hc k => q H2 (make_same nx nd k) ⟨a, rfl, G.free e nx, hc⟩⟩
    obtain ⟨dy, hm⟩ := hm
    exact ⟨dy, by
      rw [upd_ne (ne_of_none hm nx), upd_ne (ne_of_none hm nd)]
      exact hm⟩
end
/-! ### changes of a line -/
section
variable {A : Ad} {H H' : Hp} {la wa da ea oa : Addr} {D : Kp373.Desk}
theorem WorldAt.nc {w : Kp371.World} {a : Addr} {d : Kp371.Deed} (h : WorldAt A H wa da ea w) (k : ChangeAt A H a d) : a ≠ wa := fun z => by
  obtain ⟨dx, h1⟩ := h.ob
  obtain ⟨dy, h2⟩ := k
  rw [z, h1] at h2
  have := (HO.ins.inj (Option.some.inj h2)).2.2
  exact absurd (congrArg Prod.fst (List.cons.inj this).1) (show ¬ (Str.ofString "every" = Str.ofString "asked") by decide +kernel)
theorem WorldAt.no {w : Kp371.World} {a : Addr} {x : Kp373.Aim} (h : WorldAt A H wa da ea w) (k : OtherAt A H a x) : a ≠ wa ∧ ∃ am, AimAt A H am x.a x.w ∧ am ≠ wa := by
  obtain ⟨dx, h1⟩ := h.ob
  obtain ⟨dy, am, h2, dz, h3⟩ := k
  refine ⟨fun z => ?_, am, ⟨dz, h3⟩, fun z => ?_⟩
  · rw [z, h1] at h2
    have := (HO.ins.inj (Option.some.inj h2)).2.2
    exact absurd (congrArg Prod.fst (List.cons.inj this).1) (show ¬ (Str.ofString "every" = Str.ofString "aim") by decide +kernel)
  · rw [z, h1] at h3
    have := (HO.ins.inj (Option.some.inj h3)).2.2
    exact absurd (congrArg Prod.fst (List.cons.inj this).1) (show ¬ (Str.ofString "every" = Str.ofString "facts") by decide +kernel)
theorem LineAt.setNow (h : LineAt A H la wa da ea oa D) {s : Nat} (hs : s < 2 ^ D.world.m) {dx : Addr} (hw : H' wa = some (.ins A.CWorld dx [("every", N (2 ^ D.world.m - 1)), ("deeds", .ref da), ("events", .ref ea), ("state", N s)])) (kp : ∀ b o, b ≠ wa → H b = some o → H' b = some o) : LineAt A H' la wa da ea oa { D with world := { D.world with now := s } } := by
  obtain ⟨⟨dl, h1⟩, h2, ⟨os, h3, h4⟩, h5, h6, h7, h8⟩ := h
  obtain ⟨dw, hw0⟩ := h2.ob
  obtain ⟨ds, hd1, hd2⟩ := h2.deeds
  obtain ⟨es, he1, he2⟩ := h2.events
  refine ⟨⟨dl, kp _ _ (fun z => ?_) h1⟩, ⟨⟨dx, hw⟩, ⟨ds, kp _ _ (fun z => ?_) hd1, ?_⟩, ⟨es, kp _ _ (fun z => ?_) he1, ?_⟩⟩, ⟨os, kp _ _ (fun z => ?_) h3, ?_⟩, ⟨⟨h5.w.lo, h5.w.hi, h5.w.deeds, h5.w.nd, h5.w.events, h5.w.ne, hs⟩, h5.na, h5.aims⟩, h6, h7, h8⟩
  · rw [z, hw0] at h1
    have := (HO.ins.inj (Option.some.inj h1)).2.2
    exact absurd (congrArg Prod.fst (List.cons.inj this).1) (show ¬ (Str.ofString "every" = Str.ofString "world") by decide +kernel)
  · rw [z, hw0] at hd1
    cases hd1
  · exact hd2.imp fun a d k => by
      obtain ⟨dy, e⟩ := k
      exact ⟨dy, kp _ _ (h2.nc ⟨dy, e⟩) e⟩
  · rw [z, hw0] at he1
    cases he1
  · exact he2.imp fun a d k => by
      obtain ⟨dy, e⟩ := k
      exact ⟨dy, kp _ _ (h2.nc ⟨dy, e⟩) e⟩
  · rw [z, hw0] at h3
    cases h3
  · exact h4.imp fun a x k => by
      obtain ⟨n1, _⟩ := h2.no k
      obtain ⟨dy, am, e1, dz, e2⟩ := k
      refine ⟨dy, am, kp _ _ n1 e1, dz, kp _ _ (fun z => ?_) e2⟩
      rw [z, hw0] at e2
      have := (HO.ins.inj (Option.some.inj e2)).2.2
      exact absurd (congrArg Prod.fst (List.cons.inj this).1) (show ¬ (Str.ofString "every" = Str.ofString "facts") by decide +kernel)
theorem ChangeAt.mv {p a : Addr} {d : Kp371.Deed} {l : List V} (hp : H p = some (.lst l)) (kp : ∀ b o, b ≠ p → H b = some o → H' b = some o) (k : ChangeAt A H a d) : ChangeAt A H' a d := by
  obtain ⟨dy, e⟩ := k
  exact ⟨dy, kp _ _ (fun z => by rw [z, hp] at e; cases e) e⟩
theorem OtherAt.mv {p a : Addr} {x : Kp373.Aim} {l : List V} (hp : H p = some (.lst l)) (kp : ∀ b o, b ≠ p → H b = some o → H' b = some o) (k : OtherAt A H a x) : OtherAt A H' a x := by
  obtain ⟨dy, am, e1, dz, e2⟩ := k
  exact ⟨dy, am, kp _ _ (fun z => by rw [z, hp] at e1; cases e1) e1, dz, kp _ _ (fun z => by rw [z, hp] at e2; cases e2) e2⟩
theorem LineAt.setDeeds (h : LineAt A H la wa da ea oa D) {ds : List Kp371.Deed} (hd : ∀ d ∈ ds, KpM.OkD D.world.m d) (hn : ds.length ≤ 6) (hc : ChangesAt A H' da ds) (kp : ∀ b o, b ≠ da → H b = some o → H' b = some o) : LineAt A H' la wa da ea oa { D with world := { D.world with deeds := ds } } := by
  obtain ⟨⟨dl, h1⟩, ⟨⟨dw, hw0⟩, ⟨ds0, hd1, hd2⟩, ⟨es, he1, he2⟩⟩, ⟨os, h3, h4⟩, h5, h6, h7, h8⟩ := h
  exact ⟨⟨dl, kp _ _ (fun z => by rw [z, hd1] at h1; cases h1) h1⟩, ⟨⟨dw, kp _ _ (fun z => by rw [z, hd1] at hw0; cases hw0) hw0⟩, hc, ⟨es, kp _ _ h6.symm he1, he2.imp fun a d k => k.mv hd1 kp⟩⟩, ⟨os, kp _ _ h7.symm h3, h4.imp fun a x k => k.mv hd1 kp⟩, ⟨⟨h5.w.lo, h5.w.hi, hd, hn, h5.w.events, h5.w.ne, h5.w.now⟩, h5.na, h5.aims⟩, h6, h7, h8⟩
theorem LineAt.setEvents (h : LineAt A H la wa da ea oa D) {ds : List Kp371.Deed} (hd : ∀ d ∈ ds, KpM.OkD D.world.m d) (hn : ds.length ≤ 3) (hc : ChangesAt A H' ea ds) (kp : ∀ b o, b ≠ ea → H b = some o → H' b = some o) : LineAt A H' la wa da ea oa { D with world := { D.world with events := ds } } := by
  obtain ⟨⟨dl, h1⟩, ⟨⟨dw, hw0⟩, ⟨ds0, hd1, hd2⟩, ⟨es, he1, he2⟩⟩, ⟨os, h3, h4⟩, h5, h6, h7, h8⟩ := h
  exact ⟨⟨dl, kp _ _ (fun z => by rw [z, he1] at h1; cases h1) h1⟩, ⟨⟨dw, kp _ _ (fun z => by rw [z, he1] at hw0; cases hw0) hw0⟩, ⟨ds0, kp _ _ h6 hd1, hd2.imp fun a d k => k.mv he1 kp⟩, hc⟩, ⟨os, kp _ _ h8.symm h3, h4.imp fun a x k => k.mv he1 kp⟩, ⟨⟨h5.w.lo, h5.w.hi, h5.w.deeds, h5.w.nd, hd, hn, h5.w.now⟩, h5.na, h5.aims⟩, h6, h7, h8⟩
theorem LineAt.setAims (h : LineAt A H la wa da ea oa D) {xs : List Kp373.Aim} (hd : ∀ x ∈ xs, x.a < 2 ^ D.world.m ∧ x.w &&& x.a = x.w ∧ x.worth ≤ 100 ∧ x.steps ≤ 40) (hn : xs.length ≤ 6) (hc : OthersAt A H' oa xs) (kp : ∀ b o, b ≠ oa → H b = some o → H' b = some o) : LineAt A H' la wa da ea oa { D with aims := xs } := by
  obtain ⟨⟨dl, h1⟩, ⟨⟨dw, hw0⟩, ⟨ds0, hd1, hd2⟩, ⟨es, he1, he2⟩⟩, ⟨os, h3, h4⟩, h5, h6, h7, h8⟩ := h
  exact ⟨⟨dl, kp _ _ (fun z => by rw [z, h3] at h1; cases h1) h1⟩, ⟨⟨dw, kp _ _ (fun z => by rw [z, h3] at hw0; cases hw0) hw0⟩, ⟨ds0, kp _ _ h7 hd1, hd2.imp fun a d k => k.mv h3 kp⟩, ⟨es, kp _ _ h8 he1, he2.imp fun a d k => k.mv h3 kp⟩⟩, hc, ⟨h5.w, hn, hd⟩, h6, h7, h8⟩
end
section
variable {P : Program} {w : World} {K : PySem.W.Frag} {mg : Str → Option Value} {base : Heap} {A : Ad}
theorem sc_counted : FnScope ["row"] ["row"] (defScope (top 38)) := ⟨rfl, rfl, rfl, by decide +kernel, rfl, by decide +kernel, by decide +kernel⟩
theorem ok_counted (T : Txt K mg A) : FnOk P w K mg base CX0 1 A.f_counted A.d_counted ["row"] (sp_counted K A) := by
  refine T.F_counted.ok sc_counted (fun vs H Q E h => sp1_len h) (fun cdv Ar outer s H vs Q E hr h => ⟨_,
      (pss_one (ps_ret (pe_op op_cat (pe_lst (pa_cons (pe_callB call_len_seq (by rfl) T.len PySem.boot_len (pa_cons (pv 0) pa_nil)) pa_nil)) (pv 0)))), ?_⟩)
  obtain ⟨_, rfl, p, xs, rfl, hp, hn, k⟩ := h
  refine s_ret (R := Same) (P := NewL H ([.int (xs.length : Int)] ++ xs)) (Same.refl _) (ev_catN1 (ev_lstC (ea_cons (ev_len (ev_var rfl) hp) ea_nil) (by simp)) (fun _ _ => ev_var rfl) hp (Nat.le_trans (Nat.add_le_add_left hn 1) (by decide))) (fun u H1 s1 pu => ?_)
  obtain ⟨q, rfl, nq, hq⟩ := pu
  exact k q H1 s1 nq hq
theorem sc_Line_init : FnScope ["self", "many"] ["self", "many"] (defScope (inClass (top 39) 0)) := ⟨rfl, rfl, rfl, by decide +kernel, rfl, by decide +kernel, by decide +kernel⟩
theorem ok_Line_init (T : Txt K mg A) : FnOk P w K mg base CX0 3 A.f_Line_init A.d_Line_init ["self", "many"] (sp_Line_init K A) := by
  refine T.F_Line_init.ok sc_Line_init (fun vs H Q E h => sp2_len h) (fun cdv Ar outer s H vs Q E hr h => ⟨_,
      (pss_cons (ps_fld (pv 0) (pe_make T.mk_World (ok_World_init T) (hr.mono (by decide)) rfl T.gC_World T.b_World_init .nil pass0 (pa_cons (pv 1) pa_nil)) rfl)
      (pss_one (ps_fld (pv 0) (pe_lst pa_nil) rfl))), ?_⟩)
  obtain ⟨_, _, rfl, x, dx, n, rfl, rfl, lo, hi, hx, k⟩ := h
  refine s_fldE (R := Same) (Same.refl _) (mk_World (ev_var rfl) hi) rfl hx T.c_Line T.n_Line_world (fun v H1 s1 p1 => ?_)
  obtain ⟨wa, da, ea, rfl, nw, nd, ne, de, hw⟩ := p1
  rw [put1]
  have nx : ∀ {a : Addr}, H a = none → a ≠ x := fun n z => by
    rw [z, hx] at n
    cases n
  have k1 : ∀ b o, b ≠ x → H1 b = some o → (upd H1 x (.ins A.CLine dx [("world", .ref wa)])) b = some o := fun b o nb e => by
    rw [upd_ne nb]
    exact e
  refine s_fldE (R := Same) (fs := [("world", .ref wa)]) (Same.refl _) (ev_lstF ea_nil (by simp)) rfl upd_same T.c_Line T.n_Line_others (fun v H2 s2 p2 => ?_)
  obtain ⟨oa, rfl, no, ho⟩ := p2
  rw [put2 (by decide +kernel)]
  have xo : oa ≠ x := fun z => by
    rw [z, upd_same] at no
    cases no
  have no1 : H1 oa = none := by
    rw [upd_ne xo] at no
    exact no
  have noH : H oa = none := s1.free no1
  have k2 : ∀ b o, b ≠ x → H1 b = some o → (upd H2 x (.ins A.CLine dx [("world", .ref wa), ("others", .ref oa)])) b = some o := fun b o nb e => by
    rw [upd_ne nb]
    exact s2 _ _ (k1 b o nb e)
  obtain ⟨⟨dw, w1⟩, ⟨ds, w2, w3⟩, ⟨es, w4, w5⟩⟩ := hw
  refine k _ wa da ea oa ⟨⟨dx, upd_same⟩, ⟨⟨dw, k2 _ _ (nx nw) w1⟩, ⟨ds, k2 _ _ (nx nd) w2, ?_⟩, ⟨es, k2 _ _ (nx ne) w4, ?_⟩⟩, ⟨[], ?_, ListAt.nil⟩, ⟨⟨lo, hi, fun d hd => (by cases hd), Nat.zero_le _, fun d hd => (by cases hd), Nat.zero_le _, Nat.two_pow_pos _⟩, Nat.zero_le _, fun x hx => (by cases hx)⟩, de, ?_, ?_⟩ nw nd ne noH (fun b o e nb => k2 b o nb (s1 _ _ e))
  · exact ⟨w3.1, fun i x e => by simp at e⟩
  · exact ⟨w5.1, fun i x e => by simp at e⟩
  · rw [upd_ne xo]
    exact ho
  · intro z
    rw [← z, w2] at no1
    cases no1
  · intro z
    rw [← z, w4] at no1
    cases no1
theorem sc_Line_chances : FnScope ["self"] ["self"] (defScope (inClass (top 39) 1)) := ⟨rfl, rfl, rfl, by decide +kernel, rfl, by decide +kernel, by decide +kernel⟩
theorem ok_Line_chances (T : Txt K mg A) : FnOk P w K mg base CX0 3 A.f_Line_chances A.d_Line_chances ["self"] (sp_Line_chances K A) := by
  refine T.F_Line_chances.ok sc_Line_chances (fun vs H Q E h => sp1_len h) (fun cdv Ar outer s H vs Q E hr h => ⟨_,
      (pss_one (ps_ret (pe_make T.mk_Chances (ok_Chances_init T) (hr.mono (by decide)) rfl T.gC_Chances T.b_Chances_init .nil pass0 (pa_cons (pe_fld (pv 0) rfl) (pa_cons (pe_fld (pv 0) rfl) pa_nil))))), ?_⟩)
  obtain ⟨_, rfl, la, wa, da, ea, oa, D, rfl, hl, k⟩ := h
  refine s_ret (R := Same) (Same.refl _) (mk_Chances (ev_fld (ev_var rfl) (hl.world T)) (ev_fld (ev_var rfl) (hl.others T))) (fun u H1 s1 pu => ?_)
  obtain ⟨ch, kd, rfl, nk, hc, hk⟩ := pu
  exact k ch kd H1 s1 ⟨hc, hl.wd.keep s1, hl.ot.keep s1⟩ hk nk
theorem sc_Line_look_there : FnScope ["self", "number", "row"] ["self", "number", "row"] (defScope (inClass (top 39) 2)) := ⟨rfl, rfl, rfl, by decide +kernel, rfl, by decide +kernel, by decide +kernel⟩
theorem ok_Line_look_there (T : Txt K mg A) : FnOk P w K mg base (L2.CX P w) 4 A.f_Line_look_there A.d_Line_look_there ["self", "number", "row"] (sp_Line_look_there K A) := by
  refine T.F_Line_look_there.okX sc_Line_look_there (fun vs H Q E h => sp3_len h) (fun cdv Ar outer s H vs Q E hr h => ⟨_,
      (pss_one (ps_expr (pe_call (ok_refuse_if T) (hr.mono (by decide)) rfl T.g_refuse_if T.F_refuse_if.kp T.b_refuse_if .nil (passes_call (takes_of rfl rfl rfl rfl) (fun _ _ _ _ h => h)) (pa_cons (pe_cmpR op_ge (pv 1) (pe_callB call_len_seq (by rfl) T.len PySem.boot_len (pa_cons (pv 2) pa_nil)) (nomark _)) (pa_cons (pe_gint rfl T.g_ABSENT) pa_nil))))), ?_⟩)
  obtain ⟨_, _, _, rfl, n, p, xs, rfl, rfl, hp, k1, k2⟩ := h
  refine s_refuse (b := decide (xs.length ≤ n)) ((ev_I0 (ev_var rfl) (ev_len (ev_var rfl) hp)).is (congrArg V.bl (decide_eq_decide.mpr (by omega)))) (fun hb => k1 (of_decide_eq_true hb)) (fun hb H1 s1 => k2 (by have := of_decide_eq_false hb; omega) H1 s1)
theorem sc_Line_look_state : FnScope ["self", "state"] ["self", "state"] (defScope (inClass (top 39) 3)) := ⟨rfl, rfl, rfl, by decide +kernel, rfl, by decide +kernel, by decide +kernel⟩
theorem ok_Line_look_state (T : Txt K mg A) : FnOk P w K mg base (L2.CX P w) 4 A.f_Line_look_state A.d_Line_look_state ["self", "state"] (sp_Line_look_state K A) := by
  refine T.F_Line_look_state.okX sc_Line_look_state (fun vs H Q E h => sp2_len h) (fun cdv Ar outer s H vs Q E hr h => ⟨_,
      (pss_one (ps_expr (pe_call (ok_refuse_if T) (hr.mono (by decide)) rfl T.g_refuse_if T.F_refuse_if.kp T.b_refuse_if .nil (passes_call (takes_of rfl rfl rfl rfl) (fun _ _ _ _ h => h)) (pa_cons (pe_not (pe_meth (pe_fld (pv 0) rfl) T.c_World T.m_World_is_state (ok_World_is_state T) (hr.mono (by decide)) T.b_World_is_state .nil pass0 (pa_cons (pv 1) pa_nil))) (pa_cons (pe_gint rfl T.g_OUT_OF_RANGE) pa_nil))))), ?_⟩)
  obtain ⟨_, _, rfl, la, wa, da, ea, oa, D, n, rfl, rfl, hl, k1, k2⟩ := h
  refine s_refuse (b := !decide (n < 2 ^ D.world.m)) (ev_not (ev_meth (ev_fld (ev_var rfl) (hl.world T)) hl.wd.m (ea_cons (ev_var rfl) ea_nil) fun H1 s1 => do_World_is_state (K := K) (Same.refl _) (hl.wd.keep s1))) (fun hb => k1 (by simpa using hb)) (fun hb H1 s1 => k2 (by simpa using hb) H1 s1)
end
end Kw
set_option maxRecDepth 100000
set_option maxHeartbeats 400000
namespace Kw
open PySem PySem.Spec PyProof.Rows L2
theorem notT {b : Bool} (h : (!b) = true) : b = false := by
  cases b
  · rfl
  · cases h
theorem notF {b : Bool} (h : (!b) = false) : b = true := by
  cases b
  · cases h
  · rfl
theorem free_kp {H H' : Hp} {a q : Addr} {x : HO} (kp : ∀ b o, b ≠ a → H b = some o → H' b = some o) (ha : H' a = some x) (n : H' q = none) : H q = none := by
  cases e : H q with
  | none => rfl
  | some o =>
    rw [kp q o (fun z => by rw [z, ha] at n; cases n) e] at n
    cases n
theorem putW {a b c d v : V} : putF "state" v [(("every" : Str), a), (("deeds" : Str), b), (("events" : Str), c), (("state" : Str), d)] = [(("every" : Str), a), (("deeds" : Str), b), (("events" : Str), c), (("state" : Str), v)] :=
  (put_past (show ¬ (("every" : Str) = "state") by decide +kernel)).trans (congrArg _ ((put_past (show ¬ (("deeds" : Str) = "state") by decide +kernel)).trans (congrArg _ ((put_past (show ¬ (("events" : Str) = "state") by decide +kernel)).trans (congrArg _ put_here)))))
theorem s_retN {te : TE} {Dn : Ends} {σ : L2.St} {H : Hp} {l : List V} (h : Ev Same te σ H (NewL H l)) (k : ∀ q H1, Same H H1 → H q = none → H1 q = some (.lst l) → Dn.rt (.ref q) H1) : tRet te Dn σ H := s_ret (R := Same) (Same.refl _) h fun v H1 s ⟨q, e, n, hq⟩ => by
  subst e
  exact k q H1 s n hq
section
variable {D : Kp373.Desk}
theorem outX_set_no {s : Nat} (h : 2 ^ D.world.m ≤ s) : outX D (.set s) = .no (-22) := by
  simp [outX, Kp373.step, Kp373.under, Kp371.step, Kp371.say, h]
theorem outX_set_ok {s : Nat} (h : s < 2 ^ D.world.m) : outX D (.set s) = .ok { D with world := { D.world with now := s } } [(D.world.now : Int)] := by
  have h' : ¬ 2 ^ D.world.m ≤ s := by omega
  have h2 : ¬ ((D.world.now : Int) < 0) := by omega
  simp [outX, Kp373.step, Kp373.under, Kp371.step, Kp371.say, h', h2]
theorem outX_do_no {i : Nat} (h : D.world.deeds.length ≤ i) : outX D (.do_ i) = .no (-2) := by
  simp [outX, Kp373.step, Kp373.under, Kp371.step, Kp371.say, h]
theorem outX_do_un {i : Nat} (h : i < D.world.deeds.length) (hb : KpM.letBy D.world D.world.now i = false) : outX D (.do_ i) = .no (-6) := by
  have h' : ¬ D.world.deeds.length ≤ i := by omega
  simp [outX, Kp373.step, Kp373.under, Kp371.step, Kp371.say, h', KpM.stepBy_eq, hb]
theorem outX_do_ok {i : Nat} (h : i < D.world.deeds.length) (hb : KpM.letBy D.world D.world.now i = true) : outX D (.do_ i) = .ok { D with world := { D.world with now := KpM.stepTo D.world D.world.now i } } [(KpM.stepTo D.world D.world.now i : Int)] := by
  have h' : ¬ D.world.deeds.length ≤ i := by omega
  have h2 : ¬ ((KpM.stepTo D.world D.world.now i : Int) < 0) := by omega
  simp [outX, Kp373.step, Kp373.under, Kp371.step, Kp371.say, h', KpM.stepBy_eq, hb, h2]
theorem outX_aim_bad {x : Kp373.Aim} (h : (Kp371.okAim D.world x.a x.w && (decide (x.worth ≤ 100) && decide (x.steps ≤ 40))) = false) : outX D (.aim x.a x.w x.worth x.steps) = .no (-22) := by
  have h' : Kp371.okAim D.world x.a x.w = false ∨ 100 < x.worth ∨ 40 < x.steps := by
    cases e : Kp371.okAim D.world x.a x.w with
    | false => exact .inl rfl
    | true =>
      rw [e] at h
      simp only [Bool.true_and, Bool.and_eq_false_iff, decide_eq_false_iff_not] at h
      omega
  simp only [outX, Kp373.step, if_pos h']
  rfl
theorem okAim_of {x : Kp373.Aim} (h : (Kp371.okAim D.world x.a x.w && (decide (x.worth ≤ 100) && decide (x.steps ≤ 40))) = true) : Kp371.okAim D.world x.a x.w = true ∧ x.worth ≤ 100 ∧ x.steps ≤ 40 := by
  simpa only [Bool.and_eq_true, decide_eq_true_eq] using h
theorem outX_aim_like {x : Kp373.Aim} (h : (Kp371.okAim D.world x.a x.w && (decide (x.worth ≤ 100) && decide (x.steps ≤ 40))) = true) (hl : D.aims.any (fun y => y.a == x.a && y.w == x.w && y.steps == x.steps) = true) : outX D (.aim x.a x.w x.worth x.steps) = .no (-17) := by
  obtain ⟨h1, h2, h3⟩ := okAim_of h
  have h' : ¬ (Kp371.okAim D.world x.a x.w = false ∨ 100 < x.worth ∨ 40 < x.steps) := by
    rw [h1]
    simp
    omega
  simp only [outX, Kp373.step, if_neg h', if_pos hl]
  rfl
theorem outX_aim_many {x : Kp373.Aim} (h : (Kp371.okAim D.world x.a x.w && (decide (x.worth ≤ 100) && decide (x.steps ≤ 40))) = true) (hl : D.aims.any (fun y => y.a == x.a && y.w == x.w && y.steps == x.steps) = false) (hn : 6 ≤ D.aims.length) : outX D (.aim x.a x.w x.worth x.steps) = .no (-28) := by
  obtain ⟨h1, h2, h3⟩ := okAim_of h
  have h' : ¬ (Kp371.okAim D.world x.a x.w = false ∨ 100 < x.worth ∨ 40 < x.steps) := by
    rw [h1]
    simp
    omega
  simp only [outX, Kp373.step, if_neg h', hl, if_neg Bool.false_ne_true, if_pos (show Kp373.AIMS ≤ D.aims.length from hn)]
  rfl
theorem outX_aim_ok {x : Kp373.Aim} (h : (Kp371.okAim D.world x.a x.w && (decide (x.worth ≤ 100) && decide (x.steps ≤ 40))) = true) (hl : D.aims.any (fun y => y.a == x.a && y.w == x.w && y.steps == x.steps) = false) (hn : D.aims.length < 6) : outX D (.aim x.a x.w x.worth x.steps) = .ok { D with aims := D.aims ++ [x] } [(D.aims.length : Int)] := by
  obtain ⟨h1, h2, h3⟩ := okAim_of h
  have h' : ¬ (Kp371.okAim D.world x.a x.w = false ∨ 100 < x.worth ∨ 40 < x.steps) := by
    rw [h1]
    simp
    omega
  have hn' : ¬ Kp373.AIMS ≤ D.aims.length := fun z => by
    have : (6 : Nat) ≤ D.aims.length := z
    omega
  simp only [outX, Kp373.step, if_neg h', hl, if_neg Bool.false_ne_true, if_neg hn']
  have h2 : ¬ ((Kp373.say (D.aims.length : Nat)).num < 0) := by
    show ¬ ((D.aims.length : Int) < 0)
    omega
  rw [if_neg h2]
  rfl
theorem outX_aimIs_no {i : Nat} (h : D.aims.length ≤ i) : outX D (.aimIs i) = .no (-2) := by
  simp only [outX, Kp373.step, List.getElem?_eq_none h]
  rfl
theorem outX_aimIs_ok {i : Nat} {x : Kp373.Aim} (h : D.aims[i]? = some x) : outX D (.aimIs i) = .ok D [(x.a : Int), (x.w : Int), (x.worth : Int), (x.steps : Int)] := by
  simp only [outX, Kp373.step, h]
  rw [if_neg (by omega)]
theorem okD_of {w : Kp371.World} {x : Kp371.Deed} (h : Kp371.okDeed w x.needs x.so x.makes x.thus = true) : KpM.OkD w.m x := by
  simp only [Kp371.okDeed, Bool.and_eq_true, decide_eq_true_eq, beq_iff_eq] at h
  exact ⟨h.1.1.1.1, h.1.1.2, h.1.1.1.2, h.1.2⟩
theorem okA_of {w : Kp371.World} {a b : Nat} (h : Kp371.okAim w a b = true) : a < 2 ^ w.m ∧ b &&& a = b := by
  simpa only [Kp371.okAim, Bool.and_eq_true, decide_eq_true_eq, beq_iff_eq] using h
end
theorem range_any {α : Type} (p : α → Bool) (d : α) (l : List α) : ((List.range l.length).any fun i => p (l.getD i d)) = l.any p := by
  have e : ((List.range l.length).map fun i => p (l.getD i d)).any id = (l.map p).any id := by rw [range_map]
  rw [List.any_map, List.any_map] at e
  exact e
theorem ev_anyX {K : PySem.W.Frag} {σ : L2.St} {H : Hp} {g : TG} {te tl : TE} {vs : List Nat} {xs : List V} {f : Nat → Bool} (hl : Ev Same tl σ H (IsL xs)) (hn : xs.length ≤ 100000)
    (turn : ∀ i x H', xs[i]? = some x → Same H H' → ∃ σ2, (∀ Q : L2.St → Hp → Prop, Q σ2 H' → g x (wipe σ vs) H' Q) ∧ wipe σ2 vs = wipe σ vs ∧ Ev Same te σ2 H' (Is (.bl (f i)))) : Ev Same (tCB (rAny K) (tCons (tLc (iList K tl) g tYes te vs) tNil)) σ H (Is (.bl ((List.range xs.length).any f))) := by
  have c := ev_lcS (K := K) (g := g) (tt := tYes) (te := te) (vs := vs) (xs := xs) (f := fun _ => true) (Pe := fun i => Is (.bl (f i))) hl hn (fun i x H' hx s => by
    obtain ⟨σ2, h1, h2, h3⟩ := turn i x H' hx s
    exact ⟨σ2, h1, h2, fun H1 e Q q => q H1 (Same.refl _), fun _ => h3⟩) (fun D i v H' H2 l _ p _ _ _ => p)
  refine ev_cbN (ea_one c) fun us H1 e ⟨x, eus, D, ys, ex, hD, hd, hel⟩ Q q => ?_
  subst eus ex
  have ey := hel.map
  rw [filt_all] at ey
  have e2 : ys = ((List.range xs.length).map f).map V.bl := by
    rw [ey, List.map_map]
    rfl
  refine ⟨D, (List.range xs.length).map f, rfl, SqL.of (by rw [← e2]; exact hd), q _ H1 (Same.refl _) ?_⟩
  rw [List.any_map]
  rfl
theorem s_append {K : PySem.W.Frag} {σ : L2.St} {H : Hp} {to te : TE} {Dn : Ends} {p : Addr} {xs : List V} {y : V} (hto : Ev Same to σ H (Is (.ref p))) (hp : H p = some (.lst xs)) (hte : ∀ H1, Same H H1 → Ev Same te σ H1 (Is y)) (hn : xs.length ≤ 1000) (k : ∀ H1, Same H H1 → Dn.nx σ (upd H1 p (.lst (xs ++ [y])))) : tDrop (tBM K "list" rAppend to (tCons te tNil)) Dn σ H :=
  hto H (Same.refl _) _ fun u H1 s1 eu => by
    cases eu
    exact ⟨.inl ⟨rfl, _, SqL.of (s1 _ _ hp)⟩, hte H1 s1 H1 (Same.refl _) _ fun u2 H2 s2 eu2 => by
      cases eu2
      exact ⟨p, xs, y, rfl, rfl, (s1.trans s2) _ _ hp, Nat.lt_of_le_of_lt hn (by decide), k H2 (s1.trans s2)⟩⟩
theorem seqIx {n len : Nat} (h : n < len) : seqIndex? (n : Int) len = some n := by
  unfold seqIndex?
  have h1 : ¬ ((n : Int) < 0) := by omega
  simp only [if_neg h1]
  rw [if_pos (by
    rw [Bool.and_eq_true]
    exact ⟨decide_eq_true (by omega), decide_eq_true (by omega)⟩)]
  rfl
theorem do_Other_told {R : Hp → Hp → Prop} [G : Good R] {K : PySem.W.Frag} {A : Ad} {H0 H : Hp} {a : Addr} {y : Kp373.Aim} (r0 : R H0 H) (h : OtherAt A H a y) : Does R (sp_Other_told K A) [.ref a] H (NewL H0 [N y.a, N y.w, N y.worth, N y.steps]) := fun Q E q => ⟨_, rfl, a, y, rfl, h, fun p H' s n e => q _ H' (G.ext (G.here r0) s) ⟨p, rfl, G.free r0 n, e⟩⟩
section
variable {P : Program} {w : World} {K : PySem.W.Frag} {mg : Str → Option Value} {base : Heap} {A : Ad}
theorem sc_Line_add_change : FnScope ["self", "numbers", "row", "most", "change"] ["self", "numbers", "row", "most"] (defScope (inClass (top 39) 4)) := ⟨rfl, rfl, rfl, by decide +kernel, rfl, by decide +kernel, by decide +kernel⟩
theorem ok_Line_add_change (T : Txt K mg A) : FnOk P w K mg base (L2.CX P w) 4 A.f_Line_add_change A.d_Line_add_change ["self", "numbers", "row", "most"] (sp_Line_add_change K A) := by
  refine T.F_Line_add_change.okX sc_Line_add_change (fun vs H Q E h => sp4_len h) (fun cdv Ar outer s H vs Q E hr h => ⟨_,
      (pss_cons (ps_set (i := 4) sc_Line_add_change.nd rfl (Or.inl rfl) (pe_make T.mk_Change (ok_Change_init T) (hr.mono (by decide)) rfl T.gC_Change T.b_Change_init .nil pass0 (pa_cons (pe_ix ix_list (pv 1) pe_int (fun _ _ => rfl)) (pa_cons (pe_ix ix_list (pv 1) pe_int (fun _ _ => rfl)) (pa_cons (pe_ix ix_list (pv 1) pe_int (fun _ _ => rfl)) (pa_cons (pe_ix ix_list (pv 1) pe_int (fun _ _ => rfl)) pa_nil))))))
      (pss_cons (ps_expr (pe_call (ok_refuse_if T) (hr.mono (by decide)) rfl T.g_refuse_if T.F_refuse_if.kp T.b_refuse_if .nil (passes_call (takes_of rfl rfl rfl rfl) (fun _ _ _ _ h => h)) (pa_cons (pe_not (pe_meth (pv 4) T.c_Change T.m_Change_is_one (ok_Change_is_one T) (hr.mono (by decide)) T.b_Change_is_one .nil pass0 (pa_cons (pe_fld (pe_fld (pv 0) rfl) rfl) pa_nil))) (pa_cons (pe_gint rfl T.g_OUT_OF_RANGE) pa_nil))))
      (pss_cons (ps_expr (pe_call (ok_refuse_if T) (hr.mono (by decide)) rfl T.g_refuse_if T.F_refuse_if.kp T.b_refuse_if .nil (passes_call (takes_of rfl rfl rfl rfl) (fun _ _ _ _ h => h)) (pa_cons (pe_cmpR op_eq (pe_callB call_len_seq (by rfl) T.len PySem.boot_len (pa_cons (pv 2) pa_nil)) (pv 3) (nomark _)) (pa_cons (pe_gint rfl T.g_TOO_MANY) pa_nil))))
      (pss_cons (ps_expr (pe_bm PySem.F.plainAttrs_list PySem.F.slot_list_append PySem.F.type_list_append mt_append (pv 2) (pa_cons (pv 4) pa_nil)))
      (pss_one (ps_ret (pe_lst (pa_cons (pe_op op_sub (pe_callB call_len_seq (by rfl) T.len PySem.boot_len (pa_cons (pv 2) pa_nil)) pe_int) pa_nil)))))))), ?_⟩)
  obtain ⟨_, _, _, _, rfl, la, wa, da, ea, oa, na, p, D, x, t, ds, rfl, rfl, rfl, rfl, hl, hna, ⟨vs, hp, hvl⟩, hn, k1, k2, k3⟩ := h
  have ix : ∀ (i : Nat) (v : V), (Ns [x.needs, x.so, x.makes, x.thus])[i]? = some v → Ev Same (tOp (rIxL K) (tVar 1) (tC (.int (i : Int)))) (L2.start ["self", "numbers", "row", "most", "change"] [.ref la, .ref na, .ref p, N t]) H (Is v) := fun i v hi => ev_ixL (ev_var rfl) ev_c hna hi
  refine s_set (R := Same) (Same.refl _) (mk_Change (x := x) (ea_cons (ix 0 _ rfl) (ea_cons (ix 1 _ rfl) (ea_cons (ix 2 _ rfl) (ea_cons (ix 3 _ rfl) ea_nil))))) (fun u H1 s1 pu => ?_)
  obtain ⟨c, rfl, nc, hc⟩ := pu
  have hl1 := hl.keep s1
  refine s_refuse (b := !Kp371.okDeed D.world x.needs x.so x.makes x.thus) (ev_not (ev_meth (ev_var rfl) hc.m (ea_cons (ev_fld (ev_fld (ev_var rfl) (hl1.world T)) (hl1.wd.every T)) ea_nil) fun H2 s2 => do_Change_is_one (K := K) (Same.refl _) hl.ok.w.hi (hc.keep s2))) (fun hb => Rz.mono (k1 (notT hb)) s1) (fun hb H2 s2 => ?_)
  have okd : Kp371.okDeed D.world x.needs x.so x.makes x.thus = true := notF hb
  have s12 := s1.trans s2
  refine s_refuse (b := decide (ds.length = t)) ((ev_eq (ev_len (ev_var rfl) (s12 _ _ hp)) (ev_var rfl) rfl).is (by rw [show (V.int (vs.length : Int)) = N ds.length by rw [hvl.1], vint_eq])) (fun hb => Rz.mono (k2 okd (of_decide_eq_true hb)) s12) (fun hb H3 s3 => ?_)
  have s13 := s12.trans s3
  refine ⟨_, rfl, .inl ⟨rfl, _, SqL.of (s13 _ _ hp)⟩, _, rfl, p, _, _, rfl, rfl, s13 _ _ hp, Nat.lt_of_le_of_lt (show vs.length ≤ 10 by rw [hvl.1]; exact hn) (by decide), ?_⟩
  have kp : ∀ b o, b ≠ p → H b = some o → upd H3 p (.lst (vs ++ [V.ref c])) b = some o := fun b o nb e => by
    rw [upd_ne nb]
    exact s13 _ _ e
  have cp : c ≠ p := fun z => by
    rw [z, hp] at nc
    cases nc
  with_reducible show tRet _ _ _ _
  refine s_retN (l := [N ds.length]) ?_ (fun q H4 s4 nq hq => ?_)
  · have e : V.int (((vs ++ [V.ref c]).length : Int) - 1) = N ds.length := by
      rw [List.length_append, hvl.1]
      simp
    rw [← e]
    exact ev_lstF (ea_cons (ev_I0 (ev_len (ev_var rfl) upd_same) ev_c) ea_nil) (by simp)
  · refine k3 okd (of_decide_eq_false hb) q H4 (fun b o nb e => s4 _ _ (kp b o nb e)) ⟨_, s4 _ _ upd_same, ListAt.snoc (hvl.imp fun a d z => ((z.mv hp kp).keep s4)) ?_⟩ (free_kp kp upd_same nq) hq
    obtain ⟨dc, hc⟩ := hc
    exact ⟨dc, s4 _ _ (by
      rw [upd_ne cp]
      exact s3 _ _ (s2 _ _ hc))⟩
theorem sc_Line_take_out : FnScope ["self", "number", "row"] ["self", "number", "row"] (defScope (inClass (top 39) 5)) := ⟨rfl, rfl, rfl, by decide +kernel, rfl, by decide +kernel, by decide +kernel⟩
theorem ok_Line_take_out (T : Txt K mg A) : FnOk P w K mg base (L2.CX P w) 5 A.f_Line_take_out A.d_Line_take_out ["self", "number", "row"] (sp_Line_take_out K A) := by
  refine T.F_Line_take_out.okX sc_Line_take_out (fun vs H Q E h => sp3_len h) (fun cdv Ar outer s H vs Q E hr h => ⟨_,
      (pss_cons (ps_expr (pe_meth (pv 0) T.c_Line T.m_Line_look_there (ok_Line_look_there T) (hr.mono (by decide)) T.b_Line_look_there .nil (passes_call (takes_of rfl rfl rfl rfl) (fun _ _ _ _ h => h)) (pa_cons (pv 1) (pa_cons (pv 2) pa_nil))))
      (pss_cons (ps_expr (pe_bm PySem.F.plainAttrs_list PySem.F.slot_list_pop PySem.F.type_list_pop mt_popAt (pv 2) (pa_cons (pv 1) pa_nil)))
      (pss_one (ps_ret (pe_lst (pa_cons (pe_callB call_len_seq (by rfl) T.len PySem.boot_len (pa_cons (pv 2) pa_nil)) pa_nil)))))), ?_⟩)
  obtain ⟨_, _, _, rfl, la, wa, da, ea, oa, D, n, p, xs, rfl, rfl, rfl, hl, hp, hn, k1, k2⟩ := h
  refine s_lookT (len := xs.length) rfl hl (ev_var rfl) (fun H1 s1 => (ev_var rfl).imp fun u H2 s2 eu => ⟨p, xs, eu, s2 _ _ (s1 _ _ hp), rfl⟩) k1 (fun hlt H1 s1 => ?_)
  have hp1 := s1 _ _ hp
  refine ⟨_, rfl, .inl ⟨rfl, _, SqL.of hp1⟩, _, rfl, p, xs, (n : Int), n, xs[n], rfl, rfl, hp1, by omega, by omega, seqIx hlt, List.getElem?_eq_getElem hlt, ?_⟩
  have kp : ∀ b o, b ≠ p → H b = some o → upd H1 p (.lst (xs.eraseIdx n)) b = some o := fun b o nb e => by
    rw [upd_ne nb]
    exact s1 _ _ e
  with_reducible show tRet _ _ _ _
  refine s_retN (l := [N (xs.length - 1)]) ?_ (fun q H2 s2 nq hq => ?_)
  · have e : V.int ((xs.eraseIdx n).length : Int) = N (xs.length - 1) := by
      rw [List.length_eraseIdx, if_pos hlt]
    rw [← e]
    exact ev_lstF (ea_cons (ev_len (ev_var rfl) upd_same) ea_nil) (by simp)
  · exact k2 hlt q H2 (fun b o nb e => s2 _ _ (kp b o nb e)) (s2 _ _ upd_same) (free_kp kp upd_same nq) hq
theorem sc_Line_set_state : FnScope ["self", "state", "ahead"] ["self", "state"] (defScope (inClass (top 39) 6)) := ⟨rfl, rfl, rfl, by decide +kernel, rfl, by decide +kernel, by decide +kernel⟩
theorem ok_Line_set_state (T : Txt K mg A) : FnOk P w K mg base (L2.CX P w) 5 A.f_Line_set_state A.d_Line_set_state ["self", "state"] (sp_Line_set_state K A) := by
  refine T.F_Line_set_state.okX sc_Line_set_state (fun vs H Q E h => sp2_len h) (fun cdv Ar outer s H vs Q E hr h => ⟨_,
      (pss_cons (ps_expr (pe_meth (pv 0) T.c_Line T.m_Line_look_state (ok_Line_look_state T) (hr.mono (by decide)) T.b_Line_look_state .nil (passes_call (takes_of rfl rfl rfl rfl) (fun _ _ _ _ h => h)) (pa_cons (pv 1) pa_nil)))
      (pss_cons (ps_set (i := 2) sc_Line_set_state.nd rfl (Or.inl rfl) (pe_fld (pe_fld (pv 0) rfl) rfl))
      (pss_cons (ps_fld (pe_fld (pv 0) rfl) (pv 1) rfl)
      (pss_one (ps_ret (pe_lst (pa_cons (pv 2) pa_nil))))))), ?_⟩)
  obtain ⟨_, _, rfl, la, wa, da, ea, oa, D, n, rfl, rfl, hl, k⟩ := h
  refine s_lookS rfl hl (ev_var rfl) (fun hz => by rw [outX_set_no hz] at k; exact k) (fun hlt H1 s1 => ?_)
  rw [outX_set_ok hlt] at k
  have hl1 := hl.keep s1
  refine s_set (R := Same) (P := Is (N D.world.now)) (Same.refl _) (ev_fld (ev_fld (ev_var rfl) (hl1.world T)) (hl1.wd.fstate T)) (fun u H2 s2 eu => ?_)
  cases eu
  have hl2 := hl1.keep s2
  obtain ⟨dw, hw0⟩ := hl2.wd.ob
  refine s_fldX (R := Same) (v := N n) (Same.refl _) (ev_var rfl) (fun H3 s3 => ev_fld (ev_var rfl) ((hl2.keep s3).world T)) hw0 T.c_World T.n_World_state (fun H3 s3 => ?_)
  rw [putW]
  with_reducible show tRet _ _ _ _
  refine s_retN (l := [N D.world.now]) ?_ (fun q H4 s4 nq hq => ?_)
  · exact ev_lstF (ea_cons (ev_var rfl) ea_nil) (by simp)
  · have kp : ∀ b o, b ≠ wa → H b = some o → H4 b = some o := fun b o nb e => s4 _ _ (by
      rw [upd_ne nb]
      exact s3 _ _ (s2 _ _ (s1 _ _ e)))
    have kq : ∀ b o, b ≠ wa → H b = some o → (upd H3 wa (.ins A.CWorld dw [("every", N (2 ^ D.world.m - 1)), ("deeds", .ref da), ("events", .ref ea), ("state", N n)])) b = some o := fun b o nb e => by
      rw [upd_ne nb]
      exact s3 _ _ (s2 _ _ (s1 _ _ e))
    exact k q H4 (fun a o n1 _ _ _ e => kp a o n1 e) (free_kp kq upd_same nq) (hl.setNow hlt (s4 _ _ upd_same) kp) hq
theorem sc_Line_do_deed : FnScope ["self", "number"] ["self", "number"] (defScope (inClass (top 39) 7)) := ⟨rfl, rfl, rfl, by decide +kernel, rfl, by decide +kernel, by decide +kernel⟩
theorem ok_Line_do_deed (T : Txt K mg A) : FnOk P w K mg base (L2.CX P w) 5 A.f_Line_do_deed A.d_Line_do_deed ["self", "number"] (sp_Line_do_deed K A) := by
  refine T.F_Line_do_deed.okX sc_Line_do_deed (fun vs H Q E h => sp2_len h) (fun cdv Ar outer s H vs Q E hr h => ⟨_,
      (pss_cons (ps_expr (pe_meth (pv 0) T.c_Line T.m_Line_look_there (ok_Line_look_there T) (hr.mono (by decide)) T.b_Line_look_there .nil (passes_call (takes_of rfl rfl rfl rfl) (fun _ _ _ _ h => h)) (pa_cons (pv 1) (pa_cons (pe_fld (pe_fld (pv 0) rfl) rfl) pa_nil))))
      (pss_cons (ps_expr (pe_call (ok_refuse_if T) (hr.mono (by decide)) rfl T.g_refuse_if T.F_refuse_if.kp T.b_refuse_if .nil (passes_call (takes_of rfl rfl rfl rfl) (fun _ _ _ _ h => h)) (pa_cons (pe_not (pe_meth (pe_fld (pv 0) rfl) T.c_World T.m_World_is_let (ok_World_is_let T) (hr.mono (by decide)) T.b_World_is_let .nil pass0 (pa_cons (pe_fld (pe_fld (pv 0) rfl) rfl) (pa_cons (pv 1) pa_nil)))) (pa_cons (pe_gint rfl T.g_NOT_LET) pa_nil))))
      (pss_cons (ps_fld (pe_fld (pv 0) rfl) (pe_meth (pe_fld (pv 0) rfl) T.c_World T.m_World_behind (ok_World_behind T) (hr.mono (by decide)) T.b_World_behind .nil pass0 (pa_cons (pe_fld (pe_fld (pv 0) rfl) rfl) (pa_cons (pv 1) pa_nil))) rfl)
      (pss_one (ps_ret (pe_lst (pa_cons (pe_fld (pe_fld (pv 0) rfl) rfl) pa_nil))))))), ?_⟩)
  obtain ⟨_, _, rfl, la, wa, da, ea, oa, D, n, rfl, rfl, hl, k⟩ := h
  obtain ⟨vs, hv, hvl⟩ := hl.wd.deeds
  refine s_lookT (len := D.world.deeds.length) rfl hl (ev_var rfl) (fun H1 s1 => (ev_fld (ev_fld (ev_var rfl) ((hl.keep s1).world T)) ((hl.keep s1).wd.fdeeds T)).imp fun u H2 s2 eu => ⟨da, vs, eu, s2 _ _ (s1 _ _ hv), hvl.1⟩) (fun hz => by rw [outX_do_no hz] at k; exact k) (fun hlt H1 s1 => ?_)
  have hl1 := hl.keep s1
  refine s_refuse (b := !KpM.letBy D.world D.world.now n) (ev_not (ev_meth (ev_fld (ev_var rfl) (hl1.world T)) hl1.wd.m (ea_cons (ev_fld (ev_fld (ev_var rfl) (hl1.world T)) (hl1.wd.fstate T)) (ea_cons (ev_var rfl) ea_nil)) fun H2 s2 => do_World_is_let (K := K) (Same.refl _) (hl1.wd.keep s2) (by omega))) (fun hb => ?_) (fun hb H2 s2 => ?_)
  · rw [outX_do_un hlt (by simpa using hb)] at k
    exact Rz.mono k s1
  · rw [outX_do_ok hlt (by simpa using hb)] at k
    have hl2 := hl1.keep s2
    have slt : KpM.stepTo D.world D.world.now n < 2 ^ D.world.m := KpM.stepTo_lt hl.ok.w hl.ok.w.now
    obtain ⟨dw, hw0⟩ := hl2.wd.ob
    refine s_fldX (R := Same) (v := N (KpM.stepTo D.world D.world.now n)) (Same.refl _) (ev_meth (ev_fld (ev_var rfl) (hl2.world T)) hl2.wd.m (ea_cons (ev_fld (ev_fld (ev_var rfl) (hl2.world T)) (hl2.wd.fstate T)) (ea_cons (ev_var rfl) ea_nil)) fun H3 s3 => do_World_behind (K := K) (Same.refl _) (hl2.wd.keep s3) hl.ok.w hl.ok.w.now (by omega)) (fun H3 s3 => ev_fld (ev_var rfl) ((hl2.keep s3).world T)) hw0 T.c_World T.n_World_state (fun H3 s3 => ?_)
    rw [putW]
    have kq : ∀ b o, b ≠ wa → H b = some o → (upd H3 wa (.ins A.CWorld dw [("every", N (2 ^ D.world.m - 1)), ("deeds", .ref da), ("events", .ref ea), ("state", N (KpM.stepTo D.world D.world.now n))])) b = some o := fun b o nb e => by
      rw [upd_ne nb]
      exact s3 _ _ (s2 _ _ (s1 _ _ e))
    have hl4 := hl.setNow slt (upd_same (H := H3) (a := wa)) kq
    with_reducible show tRet _ _ _ _
    refine s_retN (l := [N (KpM.stepTo D.world D.world.now n)]) ?_ (fun q H4 s4 nq hq => ?_)
    · exact ev_lstF (ea_cons (ev_fld (ev_fld (ev_var rfl) (hl4.world T)) (hl4.wd.fstate T)) ea_nil) (by simp)
    · exact k q H4 (fun a o n1 _ _ _ e => s4 _ _ (kq a o n1 e)) (free_kp kq upd_same nq) (hl4.keep s4) hq
theorem sc_Line_add_aim : FnScope ["self", "numbers", "facts", "so", "worth", "steps", "other", "is_one", "one"] ["self", "numbers"] (defScope (inClass (top 39) 8)) := ⟨rfl, rfl, rfl, by decide +kernel, rfl, by decide +kernel, by decide +kernel⟩
theorem ok_Line_add_aim (T : Txt K mg A) : FnOk P w K mg base (L2.CX P w) 4 A.f_Line_add_aim A.d_Line_add_aim ["self", "numbers"] (sp_Line_add_aim K A) := by
  refine T.F_Line_add_aim.okX sc_Line_add_aim (fun vs H Q E h => sp2_len h) (fun cdv Ar outer s H vs Q E hr h => ⟨_,
      (pss_cons (ps_asg (pv 1) (pg_lst (n := 4) rfl (pgs_cons (pg_name (i := 2) sc_Line_add_aim.nd rfl (Or.inl rfl)) (pgs_cons (pg_name (i := 3) sc_Line_add_aim.nd rfl (Or.inl rfl)) (pgs_cons (pg_name (i := 4) sc_Line_add_aim.nd rfl (Or.inl rfl)) (pgs_cons (pg_name (i := 5) sc_Line_add_aim.nd rfl (Or.inl rfl)) pgs_nil))))))
      (pss_cons (ps_set (i := 6) sc_Line_add_aim.nd rfl (Or.inr rfl) (pe_make T.mk_Other (ok_Other_init T) (hr.mono (by decide)) rfl T.gC_Other T.b_Other_init .nil pass0 (pa_cons (pe_make T.mk_Aim (ok_Aim_init T) (hr.mono (by decide)) rfl T.gC_Aim T.b_Aim_init .nil pass0 (pa_cons (pv 2) (pa_cons (pv 3) pa_nil))) (pa_cons (pv 4) (pa_cons (pv 5) pa_nil)))))
      (pss_cons (ps_set (i := 7) sc_Line_add_aim.nd rfl (Or.inl rfl) (pe_and (pe_meth (pe_fld (pv 6) rfl) T.c_Aim T.m_Aim_is_one (ok_Aim_is_one T) (hr.mono (by decide)) T.b_Aim_is_one .nil pass0 (pa_cons (pe_fld (pe_fld (pv 0) rfl) rfl) pa_nil)) (pe_and (pe_cmpR op_le (pv 4) (pe_gint rfl T.g_MOST_WORTH) (nomark _)) (pe_one (pe_cmpR op_le (pv 5) (pe_gint rfl T.g_MOST_TIME) (nomark _))))))
      (pss_cons (ps_expr (pe_call (ok_refuse_if T) (hr.mono (by decide)) rfl T.g_refuse_if T.F_refuse_if.kp T.b_refuse_if .nil (passes_call (takes_of rfl rfl rfl rfl) (fun _ _ _ _ h => h)) (pa_cons (pe_not (pv 7)) (pa_cons (pe_gint rfl T.g_OUT_OF_RANGE) pa_nil))))
      (pss_cons (ps_expr (pe_call (ok_refuse_if T) (hr.mono (by decide)) rfl T.g_refuse_if T.F_refuse_if.kp T.b_refuse_if .nil (passes_call (takes_of rfl rfl rfl rfl) (fun _ _ _ _ h => h)) (pa_cons (pe_callB (cr_any rfl) (by rfl) T.any (by decide +kernel) (pa_cons (pe_lc (own := [("one", 8)]) (g := gName 8) (tt := tYes) (te := (tMeth A.COther "is_like" (sp_Other_is_like K A) [] E0 (tVar 6) (tCons (tVar 8) tNil))) rfl sc_Line_add_aim.nd (pi_list (pe_fld (pv 0) rfl)) (blkOk_by (own := [("one", 8)]) (N := ["self", "numbers", "facts", "so", "worth", "steps", "other", "is_one", "one"]) (sc := defScope (inClass (top 39) 8)) (by decide +kernel)) (fun _ _ _ _ _ => (pg_name (i := 8) sc_Line_add_aim.nd rfl (Or.inl rfl))) (fun _ _ _ _ _ => pts_nil) (fun _ _ _ _ _ => (pe_meth (pv 6) T.c_Other T.m_Other_is_like (ok_Other_is_like T) (hr.mono (by decide)) T.b_Other_is_like .nil pass0 (pa_cons (pv 8) pa_nil)))) pa_nil)) (pa_cons (pe_gint rfl T.g_ALIKE) pa_nil))))
      (pss_cons (ps_expr (pe_call (ok_refuse_if T) (hr.mono (by decide)) rfl T.g_refuse_if T.F_refuse_if.kp T.b_refuse_if .nil (passes_call (takes_of rfl rfl rfl rfl) (fun _ _ _ _ h => h)) (pa_cons (pe_cmpR op_eq (pe_callB call_len_seq (by rfl) T.len PySem.boot_len (pa_cons (pe_fld (pv 0) rfl) pa_nil)) (pe_gint rfl T.g_MOST_AIMS) (nomark _)) (pa_cons (pe_gint rfl T.g_TOO_MANY) pa_nil))))
      (pss_cons (ps_expr (pe_bm PySem.F.plainAttrs_list PySem.F.slot_list_append PySem.F.type_list_append mt_append (pe_fld (pv 0) rfl) (pa_cons (pv 6) pa_nil)))
      (pss_one (ps_ret (pe_lst (pa_cons (pe_op op_sub (pe_callB call_len_seq (by rfl) T.len PySem.boot_len (pa_cons (pe_fld (pv 0) rfl) pa_nil)) pe_int) pa_nil))))))))))), ?_⟩)
  obtain ⟨_, _, rfl, la, wa, da, ea, oa, na, D, x, rfl, rfl, hl, hna, k⟩ := h
  obtain ⟨vs, hv, hvl⟩ := hl.ot
  refine ⟨_, rfl, na, _, rfl, SqL.of hna, rfl, _, _, rfl, _, _, rfl, _, _, rfl, _, _, rfl, rfl, ?_⟩
  refine s_set (R := Same) (Same.refl _) (mk_Other (x := x) (ea_consN (mk_Aim (f := x.a) (v := x.w) (ev_var rfl) (ev_var rfl)) fun v H1 s1 p1 => ?_)) (fun u H1 s1 pu => ?_)
  · obtain ⟨am, ev, _, ha⟩ := p1
    subst ev
    exact ea_consN (P := Is (N x.worth)) (ev_var rfl) fun v H2 s2 ev => ea_consN (P := Is (N x.steps)) (ev_var rfl) fun v2 H3 s3 ev2 => by
      intro H4 s4 Q q
      exact q _ H4 (Same.refl _) ⟨am, by rw [ev, ev2], ((ha.keep s2).keep s3).keep s4⟩
  obtain ⟨c, rfl, nc, hc⟩ := pu
  have hl1 := hl.keep s1
  obtain ⟨am, fam, aam⟩ := hc.aim T
  refine s_set (R := Same) (P := Is (.bl (Kp371.okAim D.world x.a x.w && (decide (x.worth ≤ 100) && decide (x.steps ≤ 40))))) (Same.refl _) (ev_and (ev_meth (ev_fld (ev_var rfl) fam) aam.m (ea_cons (ev_fld (ev_fld (ev_var rfl) (hl1.world T)) (hl1.wd.every T)) ea_nil) fun H2 s2 => do_Aim_is_one (K := K) (Same.refl _) hl.ok.w.hi (aam.keep s2)) (fun _ => ev_and ((ev_I0 (ev_var rfl) ev_c).is (congrArg V.bl (decide_eq_decide.mpr (by omega)))) (fun _ => (ev_I0 (ev_var rfl) ev_c).is (congrArg V.bl (decide_eq_decide.mpr (by omega)))))) (fun u H2 s2 eu => ?_)
  cases eu
  have s12 := s1.trans s2
  refine s_refuse (b := !(Kp371.okAim D.world x.a x.w && (decide (x.worth ≤ 100) && decide (x.steps ≤ 40)))) (ev_not (ev_var rfl)) (fun hb => ?_) (fun hb H3 s3 => ?_)
  · rw [outX_aim_bad (notT hb)] at k
    exact Rz.mono k s12
  have hok : (Kp371.okAim D.world x.a x.w && (decide (x.worth ≤ 100) && decide (x.steps ≤ 40))) = true := notF hb
  have s13 := s12.trans s3
  have hl3 := hl.keep s13
  have hc3 := (hc.keep s2).keep s3
  refine s_refuse (b := (List.range vs.length).any fun i => (fun y : Kp373.Aim => y.a == x.a && y.w == x.w && y.steps == x.steps) (D.aims.getD i x)) (ev_anyX (xs := vs) ((ev_fld (ev_var rfl) (hl3.others T)).imp fun u H4 s4 eu => ⟨oa, eu, s4 _ _ (s13 _ _ hv)⟩) (by rw [hvl.1]; exact Nat.le_trans hl.ok.na (by decide)) (fun i y H4 hy s4 => ?_)) (fun hb => ?_) (fun hb H4 s4 => ?_)
  · obtain ⟨a, z, hz, rfl, hoz⟩ := hvl.get hy
    refine ⟨_, fun Q q => q, rfl, ?_⟩
    rw [List.getD_eq_getElem?_getD, hz]
    exact ev_meth (ev_var rfl) (hc3.keep s4).m (ea_cons (ev_var rfl) ea_nil) fun H5 s5 => do_Other_is_like (K := K) (Same.refl _) ((hc3.keep s4).keep s5) (((hoz.keep s13).keep s4).keep s5)
  · rw [hvl.1, range_any (fun y : Kp373.Aim => y.a == x.a && y.w == x.w && y.steps == x.steps) x D.aims] at hb
    rw [outX_aim_like hok hb] at k
    exact Rz.mono k s13
  · rw [hvl.1, range_any (fun y : Kp373.Aim => y.a == x.a && y.w == x.w && y.steps == x.steps) x D.aims] at hb
    have s14 := s13.trans s4
    have hl4 := hl.keep s14
    refine s_refuse (b := decide (D.aims.length = 6)) ((ev_eq (ev_len (ev_fld (ev_var rfl) (hl4.others T)) (s14 _ _ hv)) ev_c rfl).is (by rw [show (V.int (vs.length : Int)) = N D.aims.length by rw [hvl.1]]; exact congrArg V.bl (vint_eq D.aims.length 6))) (fun hb2 => ?_) (fun hb2 H5 s5 => ?_)
    · have h6 := of_decide_eq_true hb2
      rw [outX_aim_many hok hb (by omega)] at k
      exact Rz.mono k s14
    · have h6 := of_decide_eq_false hb2
      have na6 := hl.ok.na
      rw [outX_aim_ok hok hb (by omega)] at k
      have s15 := s14.trans s5
      have hl5 := hl.keep s15
      refine s_append (p := oa) (y := .ref c) (ev_fld (ev_var rfl) (hl5.others T)) (s15 _ _ hv) (fun _ _ => ev_var rfl) (by rw [hvl.1]; exact Nat.le_trans na6 (by decide)) (fun H6 s6 => ?_)
      have s16 := s15.trans s6
      have kp : ∀ b o, b ≠ oa → H b = some o → upd H6 oa (.lst (vs ++ [V.ref c])) b = some o := fun b o nb e => by
        rw [upd_ne nb]
        exact s16 _ _ e
      have co : c ≠ oa := fun z => by
        rw [z, hv] at nc
        cases nc
      have hc6 : OtherAt A H6 c x := ((hc3.keep s4).keep s5).keep s6
      have ho7 : OthersAt A (upd H6 oa (.lst (vs ++ [V.ref c]))) oa (D.aims ++ [x]) := ⟨_, upd_same, ListAt.snoc (hvl.imp fun a d z => z.mv hv kp) (hc6.mv (s16 _ _ hv) fun b o nb e => by
        rw [upd_ne nb]
        exact e)⟩
      obtain ⟨o1, o2, o3⟩ := okAim_of hok
      have hl7 := hl.setAims (xs := D.aims ++ [x]) (fun y hy => by
        rcases List.mem_append.mp hy with hy | hy
        · exact hl.ok.aims y hy
        · have : y = x := by simpa using hy
          rw [this]
          exact ⟨(okA_of o1).1, (okA_of o1).2, o2, o3⟩) (by
          rw [List.length_append]
          show D.aims.length + 1 ≤ 6
          omega) ho7 kp
      with_reducible show tRet _ _ _ _
      refine s_retN (l := [N D.aims.length]) ?_ (fun q H8 s8 nq hq => ?_)
      · have e : V.int (((vs ++ [V.ref c]).length : Int) - 1) = N D.aims.length := by
          rw [List.length_append, hvl.1]
          simp
        rw [← e]
        exact ev_lstF (ea_cons (ev_I0 (ev_len (ev_fld (ev_var rfl) (hl7.others T)) upd_same) ev_c) ea_nil) (by simp)
      · exact k q H8 (fun a o _ _ _ n4 e => s8 _ _ (kp a o n4 e)) (free_kp kp upd_same nq) (hl7.keep s8) hq
theorem sc_Line_told_aim : FnScope ["self", "number"] ["self", "number"] (defScope (inClass (top 39) 9)) := ⟨rfl, rfl, rfl, by decide +kernel, rfl, by decide +kernel, by decide +kernel⟩
theorem ok_Line_told_aim (T : Txt K mg A) : FnOk P w K mg base (L2.CX P w) 5 A.f_Line_told_aim A.d_Line_told_aim ["self", "number"] (sp_Line_told_aim K A) := by
  refine T.F_Line_told_aim.okX sc_Line_told_aim (fun vs H Q E h => sp2_len h) (fun cdv Ar outer s H vs Q E hr h => ⟨_,
      (pss_cons (ps_expr (pe_meth (pv 0) T.c_Line T.m_Line_look_there (ok_Line_look_there T) (hr.mono (by decide)) T.b_Line_look_there .nil (passes_call (takes_of rfl rfl rfl rfl) (fun _ _ _ _ h => h)) (pa_cons (pv 1) (pa_cons (pe_fld (pv 0) rfl) pa_nil))))
      (pss_one (ps_ret (pe_meth0 (pe_ix ix_list (pe_fld (pv 0) rfl) (pv 1) (fun _ _ => rfl)) T.c_Other T.m_Other_told (ok_Other_told T) (hr.mono (by decide)) T.b_Other_told .nil pass0)))), ?_⟩)
  obtain ⟨_, _, rfl, la, wa, da, ea, oa, D, n, rfl, rfl, hl, k⟩ := h
  obtain ⟨vs, hv, hvl⟩ := hl.ot
  refine s_lookT (len := D.aims.length) rfl hl (ev_var rfl) (fun H1 s1 => (ev_fld (ev_var rfl) ((hl.keep s1).others T)).imp fun u H2 s2 eu => ⟨oa, vs, eu, s2 _ _ (s1 _ _ hv), hvl.1⟩) (fun hz => by rw [outX_aimIs_no hz] at k; exact k) (fun hlt H1 s1 => ?_)
  rw [outX_aimIs_ok (List.getElem?_eq_getElem hlt)] at k
  have hl1 := hl.keep s1
  obtain ⟨a, ha, hoa⟩ := hvl.2 n _ (List.getElem?_eq_getElem hlt)
  have ho1 := hoa.keep s1
  refine s_ret (R := Same) (P := NewL H1 [N D.aims[n].a, N D.aims[n].w, N D.aims[n].worth, N D.aims[n].steps]) (Same.refl _) (ev_meth (ev_ixL (ev_fld (ev_var rfl) (hl1.others T)) (ev_var rfl) (s1 _ _ hv) ha) ho1.m ea_nil fun H2 s2 => do_Other_told s2 (ho1.keep s2)) (fun u H2 s2 pu => ?_)
  obtain ⟨q, rfl, nq, hq⟩ := pu
  exact k q H2 (fun a o _ _ _ _ e => s2 _ _ (s1 _ _ e)) (s1.free nq) (hl1.keep s2) hq
theorem sc_Line_own_aim : FnScope ["self", "numbers", "facts", "so", "most", "aim"] ["self", "numbers"] (defScope (inClass (top 39) 13)) := ⟨rfl, rfl, rfl, by decide +kernel, rfl, by decide +kernel, by decide +kernel⟩
theorem ok_Line_own_aim (T : Txt K mg A) : FnOk P w K mg base (L2.CX P w) 4 A.f_Line_own_aim A.d_Line_own_aim ["self", "numbers"] (sp_Line_own_aim K A) := by
  refine T.F_Line_own_aim.okX sc_Line_own_aim (fun vs H Q E h => sp2_len h) (fun cdv Ar outer s H vs Q E hr h => ⟨_,
      (pss_cons (ps_asg (pv 1) (pg_lst (n := 3) rfl (pgs_cons (pg_name (i := 2) sc_Line_own_aim.nd rfl (Or.inl rfl)) (pgs_cons (pg_name (i := 3) sc_Line_own_aim.nd rfl (Or.inl rfl)) (pgs_cons (pg_name (i := 4) sc_Line_own_aim.nd rfl (Or.inl rfl)) pgs_nil)))))
      (pss_cons (ps_set (i := 5) sc_Line_own_aim.nd rfl (Or.inl rfl) (pe_make T.mk_Aim (ok_Aim_init T) (hr.mono (by decide)) rfl T.gC_Aim T.b_Aim_init .nil pass0 (pa_cons (pv 2) (pa_cons (pv 3) pa_nil))))
      (pss_cons (ps_expr (pe_call (ok_refuse_if T) (hr.mono (by decide)) rfl T.g_refuse_if T.F_refuse_if.kp T.b_refuse_if .nil (passes_call (takes_of rfl rfl rfl rfl) (fun _ _ _ _ h => h)) (pa_cons (pe_or (pe_not (pe_meth (pv 5) T.c_Aim T.m_Aim_is_one (ok_Aim_is_one T) (hr.mono (by decide)) T.b_Aim_is_one .nil pass0 (pa_cons (pe_fld (pe_fld (pv 0) rfl) rfl) pa_nil))) (pe_one (pe_cmpR op_gt (pv 4) (pe_gint rfl T.g_MOST_STEPS) (nomark _)))) (pa_cons (pe_gint rfl T.g_OUT_OF_RANGE) pa_nil))))
      (pss_one (ps_ret (pv 5)))))), ?_⟩)
  obtain ⟨_, _, rfl, la, wa, da, ea, oa, na, D, f, v, k, rfl, rfl, hl, hna, k1, k2⟩ := h
  refine ⟨_, rfl, na, _, rfl, SqL.of hna, rfl, _, _, rfl, _, _, rfl, _, _, rfl, rfl, ?_⟩
  refine s_set (R := Same) (Same.refl _) (mk_Aim (f := f) (v := v) (ev_var rfl) (ev_var rfl)) (fun u H1 s1 pu => ?_)
  obtain ⟨am, rfl, _, ha⟩ := pu
  have hl1 := hl.keep s1
  have eb : (!Kp373.okAsk D f v k) = (!Kp371.okAim D.world f v || decide (10 < k)) := by
    unfold Kp373.okAsk
    cases Kp371.okAim D.world f v
    · rfl
    · show (!(decide (k ≤ 10))) = decide (10 < k)
      by_cases c : k ≤ 10
      · rw [decide_eq_true c, decide_eq_false (by omega)]
        rfl
      · rw [decide_eq_false c, decide_eq_true (by omega)]
        rfl
  refine s_refuse (b := !Kp373.okAsk D f v k) (Ev.is (ev_or (ev_not (ev_meth (ev_var rfl) ha.m (ea_cons (ev_fld (ev_fld (ev_var rfl) (hl1.world T)) (hl1.wd.every T)) ea_nil) fun H2 s2 => do_Aim_is_one (K := K) (Same.refl _) hl.ok.w.hi (ha.keep s2))) (fun _ => (ev_I0 (ev_var rfl) ev_c).is (congrArg V.bl (decide_eq_decide (q := 10 < k).mpr (by omega))))) (by rw [eb])) (fun hb => Rz.mono (k1 (notT hb)) s1) (fun hb H2 s2 => ?_)
  with_reducible show tRet _ _ _ _
  refine s_ret (R := Same) (P := Is (.ref am)) (Same.refl _) ?_ (fun u H3 s3 eu => ?_)
  · exact ev_var rfl
  · cases eu
    exact k2 (by simpa using hb) am H3 ((s1.trans s2).trans s3) ((ha.keep s2).keep s3)
end
end Kw
set_option maxRecDepth 100000
set_option maxHeartbeats 400000
namespace Kw
open PySem PySem.Spec PyProof.Rows L2
theorem ns_fst : ∀ l : List (Nat × Nat), l.map (fun p => N p.1) = Ns (l.map (·.1))
  | [] => rfl
  | a :: l => by
    rw [List.map_cons, ns_fst l]
    rfl
theorem ns_ints (l : List Nat) : (l.map fun x : Nat => (x : Int)).map V.int = Ns l := by
  rw [List.map_map]
  rfl
section
variable {D : Kp373.Desk}
theorem outX_row {c : Kp373.Call} {l : List Nat} (h : Kp373.step (some D) c = (some D, Kp373.row l)) : outX D c = .ok D ((l.length : Int) :: l.map fun x : Nat => (x : Int)) := by
  simp only [outX, h, Kp373.row]
  rw [if_neg (by omega)]
theorem outX_no {c : Kp373.Call} {n : Int} (h : Kp373.step (some D) c = (some D, Kp373.say n)) (hn : n < 0) : outX D c = .no n := by
  simp only [outX, h, Kp373.say]
  rw [if_pos hn]
theorem outX_say {c : Kp373.Call} {n : Nat} (h : Kp373.step (some D) c = (some D, Kp373.say (n : Nat))) : outX D c = .ok D [(n : Int)] := by
  simp only [outX, h, Kp373.say]
  rw [if_neg (by omega)]
theorem outX_open_no {s : Nat} (h : 2 ^ D.world.m ≤ s) : outX D (.openAt s) = .no (-22) := outX_no (by simp only [Kp373.step, if_pos h]) (by decide)
theorem outX_open_ok {s : Nat} (h : s < 2 ^ D.world.m) : outX D (.openAt s) = .ok D (((Kp373.openAt D s).length : Int) :: (Kp373.openAt D s).map fun x : Nat => (x : Int)) := outX_row (by simp only [Kp373.step, if_neg (show ¬ 2 ^ D.world.m ≤ s by omega)])
theorem outX_keeps_no {s : Nat} (h : 2 ^ D.world.m ≤ s) : outX D (.keeps s) = .no (-22) := outX_no (by simp only [Kp373.step, if_pos h]) (by decide)
theorem outX_keeps_ok {s : Nat} (h : s < 2 ^ D.world.m) : outX D (.keeps s) = .ok D [(Kp373.keeps D s : Int)] := outX_say (by simp only [Kp373.step, if_neg (show ¬ 2 ^ D.world.m ≤ s by omega)])
theorem outX_costs_no {i : Nat} (h : D.world.deeds.length < i) : outX D (.costs i) = .no (-2) := outX_no (by simp only [Kp373.step, if_pos h]) (by decide)
theorem outX_costs_un {i : Nat} (h : ¬ D.world.deeds.length < i) (hb : KpM.letBy D.world D.world.now i = false) : outX D (.costs i) = .no (-6) := outX_no (by simp only [Kp373.step, if_neg h, KpM.stepBy_eq, hb]; rfl) (by decide)
theorem outX_costs_ok {i : Nat} (h : ¬ D.world.deeds.length < i) (hb : KpM.letBy D.world D.world.now i = true) : outX D (.costs i) = .ok D (((Kp373.losesAt D (KpM.stepTo D.world D.world.now i) 1).length : Int) :: (Kp373.losesAt D (KpM.stepTo D.world D.world.now i) 1).map fun x : Nat => (x : Int)) := outX_row (by simp only [Kp373.step, if_neg h, KpM.stepBy_eq, hb]; rfl)
theorem outX_tidy_no {f v k : Nat} (h : Kp373.okAsk D f v k = false) : outX D (.tidy f v k) = .no (-22) := outX_no (by simp only [Kp373.step, if_pos h]) (by decide)
theorem outX_tidy_un {f v k : Nat} (h : Kp373.okAsk D f v k = true) (ht : Kp373.tidy D f v k = none) : outX D (.tidy f v k) = .no (-33) := outX_no (by simp only [Kp373.step, if_neg (show ¬ Kp373.okAsk D f v k = false by rw [h]; decide), ht]) (by decide)
theorem outX_tidy_ok {f v k l j s : Nat} (h : Kp373.okAsk D f v k = true) (ht : Kp373.tidy D f v k = some (l, j, s)) : outX D (.tidy f v k) = .ok D [(l : Int), (j : Int), (s : Int)] := by
  simp only [outX, Kp373.step, if_neg (show ¬ Kp373.okAsk D f v k = false by rw [h]; decide), ht]
  rw [if_neg (by omega)]
theorem outX_last_no {k : Nat} (h : 40 < k) : outX D (.lastChance k) = .no (-22) := outX_no (by simp only [Kp373.step, if_pos h]) (by decide)
theorem outX_last_un {k : Nat} (h : ¬ 40 < k) (hf : ∀ t, t < k + 1 → Kp373.openAt D (Kp371.itself D.world D.world.now t) = Kp373.openAt D D.world.now) : outX D (.lastChance k) = .no (-33) := outX_no (by
  have e : ((List.range (k + 1)).find? fun t => (Kp373.openAt D (Kp371.itself D.world D.world.now t)) != (Kp373.openAt D D.world.now)) = none := List.find?_eq_none.mpr fun t ht => by
    rw [hf t (List.mem_range.mp ht)]
    simp
  simp only [Kp373.step, if_neg h, e]) (by decide)
theorem outX_last_ok {k j : Nat} (h : ¬ 40 < k) (hj : j < k + 1) (hf : ∀ t, t < j → Kp373.openAt D (Kp371.itself D.world D.world.now t) = Kp373.openAt D D.world.now) (hn : ¬ Kp373.openAt D (Kp371.itself D.world D.world.now j) = Kp373.openAt D D.world.now) : outX D (.lastChance k) = .ok D [(j : Int)] := outX_say (by
  have e : ((List.range (k + 1)).find? fun t => (Kp373.openAt D (Kp371.itself D.world D.world.now t)) != (Kp373.openAt D D.world.now)) = some j := List.find?_range_eq_some.mpr ⟨by simpa using hn, List.mem_range.mpr hj, fun t ht => by
    rw [hf t ht]
    simp⟩
  simp only [Kp373.step, if_neg h, e])
theorem outX_harmless : outX D .harmless = .ok D ((((KpM.foll D.world D.world.now).filter fun p => (Kp373.losesAt D p.2 1).isEmpty).length : Int) :: (((KpM.foll D.world D.world.now).filter fun p => (Kp373.losesAt D p.2 1).isEmpty).map (·.1)).map fun x : Nat => (x : Int)) := by
  have e : ((KpM.foll D.world D.world.now).filter fun p => (Kp373.losesAt D p.2 1).isEmpty).map (·.1) = (Kp371.choices D.world).filter fun i => match Kp371.stepBy D.world D.world.now i with
      | none => false
      | some s => (Kp373.losesAt D s 1).isEmpty := by
    unfold KpM.foll
    rw [List.filter_map, List.map_map, List.filter_filter]
    show List.map (fun i => i) _ = _
    rw [List.map_id']
    refine List.filter_congr fun i _ => ?_
    rw [KpM.stepBy_eq]
    cases KpM.letBy D.world D.world.now i
    · simp
    · simp
  rw [e]
  have := outX_row (D := D) (c := .harmless) (l := (Kp371.choices D.world).filter fun i => match Kp371.stepBy D.world D.world.now i with
      | none => false
      | some s => (Kp373.losesAt D s 1).isEmpty) rfl
  rw [this, ← e, List.length_map]
end
section
variable {K : PySem.W.Frag} {mg : Str → Option Value} {A : Ad} {E : XK} {σ : L2.St} {H : Hp} {la wa da ea oa : Addr} {D : Kp373.Desk} {sp : Sp} {t : TA} {P : Pr}
theorem kn_start {kd : Addr} {H : Hp} (h : H kd = some (.dK [])) : Kn kd D [] H := ⟨[], fun _ => 0, h, List.nodup_nil, fun x hx => (by cases hx), fun x hx => (by cases hx)⟩
theorem same_rk {kd : Addr} {H H1 H2 : Hp} (s : Same H H1) (n : H kd = none) (r : RK kd D [] H1 H2) : Same H H2 := fun a o e => r.2.2 a o (fun z => by
  have z' : a = kd := z
  rw [z', n] at e
  cases e) (s _ _ e)
def ChNew (A : Ad) (wa da ea oa : Addr) (D : Kp373.Desk) (H : Hp) : Pr := fun v H' => ∃ ch kd, v = .ref ch ∧ H kd = none ∧ ChE A H' ch wa da ea oa kd D ∧ H' kd = some (.dK [])
theorem ev_ch (h0 : σ[0]? = some (some (.ref la))) (hl : LineAt A H la wa da ea oa D) : Ev Same (tMeth A.CLine "chances" (sp_Line_chances K A) [] E (tVar 0) tNil) σ H (ChNew A wa da ea oa D H) := ev_methE (ev_var h0) hl.m ea_nil fun vs H1 s1 ev Q q => by
  cases ev
  exact ⟨_, rfl, la, wa, da, ea, oa, D, rfl, hl.keep s1, fun ch kd H2 s2 hc hk nk => q _ H2 s2 ⟨ch, kd, rfl, s1.free nk, hc, hk⟩⟩
/-- self.chances().m(..) -/
theorem ev_chm {m : Str} {vs : List V} {E' : XK} (h0 : σ[0]? = some (some (.ref la))) (hl : LineAt A H la wa da ea oa D) (hm : ∀ H2 ch kd, ChE A H2 ch wa da ea oa kd D → InsAt H2 ch A.CChances m) (ha : ∀ H1, Same H H1 → EvA Same t σ H1 (IsA vs))
    (hs : ∀ ch kd H2, Same H H2 → ChE A H2 ch wa da ea oa kd D → Kn kd D [] H2 → DoesE E (RK kd D []) sp (.ref ch :: vs) H2 P) : Ev Same (tMeth A.CChances m sp [] E (tMeth A.CLine "chances" (sp_Line_chances K A) [] E' (tVar 0) tNil) t) σ H P := fun H1 e Q q => by
  refine (ev_ch (K := K) (E := E') h0 (hl.keep e)) H1 (Same.refl _) _ fun u H2 s2 pu => ?_
  obtain ⟨ch, kd, eu, nk, hc, hk⟩ := pu
  subst eu
  obtain ⟨dx, fs, h1, h2⟩ := hm H2 ch kd hc
  refine ⟨ch, dx, fs, rfl, h1, h2, ha H2 (e.trans s2) H2 (Same.refl _) _ fun us H3 s3 eus => ?_⟩
  cases eus
  have := hs ch kd H3 ((e.trans s2).trans s3) (hc.keep s3) (kn_start (s3 _ _ hk)) Q fun v H4 r p => q v H4 (same_rk (s2.trans s3) nk r) p
  rw [← List.append_nil vs] at this
  exact this
theorem ev_callF {PA : Hp → List V → Hp → Prop} (ha : ∀ H1, Same H H1 → EvA Same t σ H1 (PA H1)) (hs : ∀ H1 vs H2, Same H H1 → Same H1 H2 → PA H1 vs H2 → ∀ Q : VK, (∀ v H3, Same H1 H3 → P v H3 → Q v H3) → sp vs H2 Q E) : Ev Same (tCall sp [] E t) σ H P := fun H1 e Q q =>
  ha H1 e H1 (Same.refl _) _ fun us H2 s2 pa => by
    have := hs H1 us H2 e s2 pa Q q
    rw [← List.append_nil us] at this
    exact this
theorem do_counted {R : Hp → Hp → Prop} [G : Good R] {H0 H : Hp} {p : Addr} {xs : List V} (r0 : R H0 H) (h : H p = some (.lst xs)) (hn : xs.length ≤ 1000) : Does R (sp_counted K A) [.ref p] H (NewL H0 (.int (xs.length : Int) :: xs)) := fun Q E q => ⟨_, rfl, p, xs, rfl, h, hn, fun r H' s n e => q _ H' (G.ext (G.here r0) s) ⟨r, rfl, G.free r0 n, e⟩⟩
theorem do_own_aim {na : Addr} {f v k : Nat} (hl : LineAt A H la wa da ea oa D) (hna : H na = some (.lst (Ns [f, v, k]))) (hz : Kp373.okAsk D f v k = false → Rz A H E (-22)) : DoesE E Same (sp_Line_own_aim K A) [.ref la, .ref na] H (fun u H' => Kp373.okAsk D f v k = true ∧ ∃ am, u = .ref am ∧ AimAt A H' am f v) := fun Q q =>
  ⟨_, _, rfl, la, wa, da, ea, oa, na, D, f, v, k, rfl, rfl, hl, hna, hz, fun ok am H' s ha => q _ H' s ⟨ok, am, rfl, ha⟩⟩
theorem okAsk_of {f v k : Nat} (h : Kp373.okAsk D f v k = true) : k ≤ 10 := by
  unfold Kp373.okAsk at h
  rw [Bool.and_eq_true] at h
  exact of_decide_eq_true h.2
theorem s_raise {n : Int} (k : Rz A H E n) : tMkO A.CRefused (sp_Refused_init K A) [] (tCons (tC (.int n)) tNil) σ H (fun cls d H' => E cls d H') := by
  refine ⟨by simp, fun a na => ⟨_, _, rfl, a, n, rfl, rfl, upd_same, fun dx h1 h2 => ⟨rfl, dx, [("number", .int n)], upd_same, by rw [upd_ne h2, upd_same], by rw [upd_ne h2] at h1; exact h1, k dx _ (fun c o e => ?_) upd_same⟩⟩⟩
  rw [upd_ne h2] at h1
  have ca : c ≠ a := ne_of_none e na
  have cd : c ≠ dx := ne_of_none e h1
  rw [upd_ne cd, del_ne ca, upd_ne ca, upd_ne cd, upd_ne ca]
  exact e
end
section
variable {P : Program} {w : World} {K : PySem.W.Frag} {mg : Str → Option Value} {base : Heap} {A : Ad}
theorem sc_Line_open_at : FnScope ["self", "state"] ["self", "state"] (defScope (inClass (top 39) 10)) := ⟨rfl, rfl, rfl, by decide +kernel, rfl, by decide +kernel, by decide +kernel⟩
theorem ok_Line_open_at (T : Txt K mg A) : FnOk P w K mg base (L2.CX P w) 6 A.f_Line_open_at A.d_Line_open_at ["self", "state"] (sp_Line_open_at K A) := by
  refine T.F_Line_open_at.okX sc_Line_open_at (fun vs H Q E h => sp2_len h) (fun cdv Ar outer s H vs Q E hr h => ⟨_,
      (pss_cons (ps_expr (pe_meth (pv 0) T.c_Line T.m_Line_look_state (ok_Line_look_state T) (hr.mono (by decide)) T.b_Line_look_state .nil (passes_call (takes_of rfl rfl rfl rfl) (fun _ _ _ _ h => h)) (pa_cons (pv 1) pa_nil)))
      (pss_one (ps_ret (pe_call (ok_counted T) (hr.mono (by decide)) rfl T.g_counted T.F_counted.kp T.b_counted .nil pass0 (pa_cons (pe_meth (pe_meth0 (pv 0) T.c_Line T.m_Line_chances (ok_Line_chances T) (hr.mono (by decide)) T.b_Line_chances .nil pass0) T.c_Chances T.m_Chances_possible (ok_Chances_possible T) (hr.mono (by decide)) T.b_Chances_possible .nil pass0 (pa_cons (pv 1) pa_nil)) pa_nil))))), ?_⟩)
  obtain ⟨_, _, rfl, la, wa, da, ea, oa, D, n, rfl, rfl, hl, k⟩ := h
  refine s_lookS rfl hl (ev_var rfl) (fun hz => by rw [outX_open_no hz] at k; exact k) (fun hlt H1 s1 => ?_)
  rw [outX_open_ok hlt] at k
  have hl1 := hl.keep s1
  have nl : (Kp373.openAt D n).length ≤ 6 := Nat.le_trans (openAt_len D n) hl.ok.na
  with_reducible show tRet _ _ _ _
  refine s_retN (l := .int ((Ns (Kp373.openAt D n)).length : Int) :: Ns (Kp373.openAt D n)) (ev_callN (ea_one (P := IsL (Ns (Kp373.openAt D n))) (ev_chm rfl hl1 (fun _ _ _ hc => hc.m) (fun H2 s2 => ea_cons (ev_var rfl) ea_nil) (fun ch kd H2 s2 hc kn Q q => do_Chances_possible (rk_refl kn) hc hl.ok hlt Q _ fun v H3 r ⟨p, ev, _, hp⟩ => q v H3 r ⟨p, ev, hp⟩))) (fun us H2 s2 ⟨x, eus, p, ex, hp⟩ => ?_)) (fun q H2 s2 nq hq => ?_)
  · subst eus ex
    exact do_counted (K := K) s2 hp (by rw [List.length_map]; omega)
  · refine k q H2 (fun a o _ _ _ _ e => s2 _ _ (s1 _ _ e)) (s1.free nq) (hl1.keep s2) ?_
    rw [hq, List.length_map, List.map_cons, ns_ints]
theorem sc_Line_keeps : FnScope ["self", "state"] ["self", "state"] (defScope (inClass (top 39) 11)) := ⟨rfl, rfl, rfl, by decide +kernel, rfl, by decide +kernel, by decide +kernel⟩
theorem ok_Line_keeps (T : Txt K mg A) : FnOk P w K mg base (L2.CX P w) 7 A.f_Line_keeps A.d_Line_keeps ["self", "state"] (sp_Line_keeps K A) := by
  refine T.F_Line_keeps.okX sc_Line_keeps (fun vs H Q E h => sp2_len h) (fun cdv Ar outer s H vs Q E hr h => ⟨_,
      (pss_cons (ps_expr (pe_meth (pv 0) T.c_Line T.m_Line_look_state (ok_Line_look_state T) (hr.mono (by decide)) T.b_Line_look_state .nil (passes_call (takes_of rfl rfl rfl rfl) (fun _ _ _ _ h => h)) (pa_cons (pv 1) pa_nil)))
      (pss_one (ps_ret (pe_lst (pa_cons (pe_meth (pe_meth0 (pv 0) T.c_Line T.m_Line_chances (ok_Line_chances T) (hr.mono (by decide)) T.b_Line_chances .nil pass0) T.c_Chances T.m_Chances_kept (ok_Chances_kept T) (hr.mono (by decide)) T.b_Chances_kept .nil pass0 (pa_cons (pv 1) pa_nil)) pa_nil))))), ?_⟩)
  obtain ⟨_, _, rfl, la, wa, da, ea, oa, D, n, rfl, rfl, hl, k⟩ := h
  refine s_lookS rfl hl (ev_var rfl) (fun hz => by rw [outX_keeps_no hz] at k; exact k) (fun hlt H1 s1 => ?_)
  rw [outX_keeps_ok hlt] at k
  have hl1 := hl.keep s1
  with_reducible show tRet _ _ _ _
  refine s_retN (l := [N (Kp373.keeps D n)]) (ev_lstF (ea_cons (ev_chm rfl hl1 (fun _ _ _ hc => hc.m) (fun H2 s2 => ea_cons (ev_var rfl) ea_nil) (fun ch kd H2 s2 hc kn Q q => do_Chances_kept (rk_refl kn) hc hl.ok hlt Q _ q)) ea_nil) (by simp)) (fun q H2 s2 nq hq => ?_)
  exact k q H2 (fun a o _ _ _ _ e => s2 _ _ (s1 _ _ e)) (s1.free nq) (hl1.keep s2) hq
theorem sc_Line_costs : FnScope ["self", "choice"] ["self", "choice"] (defScope (inClass (top 39) 12)) := ⟨rfl, rfl, rfl, by decide +kernel, rfl, by decide +kernel, by decide +kernel⟩
theorem ok_Line_costs (T : Txt K mg A) : FnOk P w K mg base (L2.CX P w) 7 A.f_Line_costs A.d_Line_costs ["self", "choice"] (sp_Line_costs K A) := by
  refine T.F_Line_costs.okX sc_Line_costs (fun vs H Q E h => sp2_len h) (fun cdv Ar outer s H vs Q E hr h => ⟨_,
      (pss_cons (ps_expr (pe_meth (pv 0) T.c_Line T.m_Line_look_there (ok_Line_look_there T) (hr.mono (by decide)) T.b_Line_look_there .nil (passes_call (takes_of rfl rfl rfl rfl) (fun _ _ _ _ h => h)) (pa_cons (pv 1) (pa_cons (pe_meth0 (pe_fld (pv 0) rfl) T.c_World T.m_World_choices (ok_World_choices T) (hr.mono (by decide)) T.b_World_choices .nil pass0) pa_nil))))
      (pss_cons (ps_expr (pe_call (ok_refuse_if T) (hr.mono (by decide)) rfl T.g_refuse_if T.F_refuse_if.kp T.b_refuse_if .nil (passes_call (takes_of rfl rfl rfl rfl) (fun _ _ _ _ h => h)) (pa_cons (pe_not (pe_meth (pe_fld (pv 0) rfl) T.c_World T.m_World_is_let (ok_World_is_let T) (hr.mono (by decide)) T.b_World_is_let .nil pass0 (pa_cons (pe_fld (pe_fld (pv 0) rfl) rfl) (pa_cons (pv 1) pa_nil)))) (pa_cons (pe_gint rfl T.g_NOT_LET) pa_nil))))
      (pss_one (ps_ret (pe_call (ok_counted T) (hr.mono (by decide)) rfl T.g_counted T.F_counted.kp T.b_counted .nil pass0 (pa_cons (pe_meth (pe_meth0 (pv 0) T.c_Line T.m_Line_chances (ok_Line_chances T) (hr.mono (by decide)) T.b_Line_chances .nil pass0) T.c_Chances T.m_Chances_lost (ok_Chances_lost T) (hr.mono (by decide)) T.b_Chances_lost .nil pass0 (pa_cons (pe_meth (pe_fld (pv 0) rfl) T.c_World T.m_World_behind (ok_World_behind T) (hr.mono (by decide)) T.b_World_behind .nil pass0 (pa_cons (pe_fld (pe_fld (pv 0) rfl) rfl) (pa_cons (pv 1) pa_nil))) (pa_cons pe_int pa_nil))) pa_nil)))))), ?_⟩)
  obtain ⟨_, _, rfl, la, wa, da, ea, oa, D, n, rfl, rfl, hl, k⟩ := h
  have clen : (Ns (Kp371.choices D.world)).length = D.world.deeds.length + 1 := by simp [Kp371.choices]
  refine s_lookT (len := D.world.deeds.length + 1) rfl hl (ev_var rfl) (fun H1 s1 => (ev_meth (ev_fld (ev_var rfl) ((hl.keep s1).world T)) (hl.keep s1).wd.m ea_nil fun H2 s2 => do_World_choices (K := K) (Same.refl _) ((hl.keep s1).wd.keep s2) hl.ok.w.nd).imp fun u H2 s2 ⟨p, eu, hp⟩ => ⟨p, _, eu, hp, clen⟩) (fun hz => by rw [outX_costs_no (by omega)] at k; exact k) (fun hlt H1 s1 => ?_)
  have hl1 := hl.keep s1
  have hge : ¬ D.world.deeds.length < n := by omega
  refine s_refuse (b := !KpM.letBy D.world D.world.now n) (ev_not (ev_meth (ev_fld (ev_var rfl) (hl1.world T)) hl1.wd.m (ea_cons (ev_fld (ev_fld (ev_var rfl) (hl1.world T)) (hl1.wd.fstate T)) (ea_cons (ev_var rfl) ea_nil)) fun H2 s2 => do_World_is_let (K := K) (Same.refl _) (hl1.wd.keep s2) (by omega))) (fun hb => ?_) (fun hb H2 s2 => ?_)
  · rw [outX_costs_un hge (notT hb)] at k
    exact Rz.mono k s1
  · rw [outX_costs_ok hge (notF hb)] at k
    have hl2 := hl1.keep s2
    have slt : KpM.stepTo D.world D.world.now n < 2 ^ D.world.m := KpM.stepTo_lt hl.ok.w hl.ok.w.now
    have nl : (Kp373.losesAt D (KpM.stepTo D.world D.world.now n) 1).length ≤ 6 := Nat.le_trans (losesAt_len D _ 1) hl.ok.na
    with_reducible show tRet _ _ _ _
    refine s_retN (l := .int ((Ns (Kp373.losesAt D (KpM.stepTo D.world D.world.now n) 1)).length : Int) :: Ns (Kp373.losesAt D (KpM.stepTo D.world D.world.now n) 1)) (ev_callN (ea_one (P := IsL (Ns (Kp373.losesAt D (KpM.stepTo D.world D.world.now n) 1))) (ev_chm (vs := [N (KpM.stepTo D.world D.world.now n), N 1]) rfl hl2 (fun _ _ _ hc => hc.m) (fun H3 s3 => ea_cons (ev_meth (ev_fld (ev_var rfl) ((hl2.keep s3).world T)) (hl2.keep s3).wd.m (ea_cons (ev_fld (ev_fld (ev_var rfl) ((hl2.keep s3).world T)) ((hl2.keep s3).wd.fstate T)) (ea_cons (ev_var rfl) ea_nil)) fun H4 s4 => do_World_behind (K := K) (Same.refl _) ((hl2.keep s3).wd.keep s4) hl.ok.w hl.ok.w.now (by omega)) (ea_cons ev_c ea_nil)) (fun ch kd H3 s3 hc kn Q q => do_Chances_lost (rk_refl kn) hc hl.ok slt (by decide) Q _ fun v H4 r ⟨p, ev, _, hp⟩ => q v H4 r ⟨p, ev, hp⟩))) (fun us H3 s3 ⟨x, eus, p, ex, hp⟩ => ?_)) (fun q H3 s3 nq hq => ?_)
    · subst eus ex
      exact do_counted (K := K) s3 hp (by rw [List.length_map]; omega)
    · refine k q H3 (fun a o _ _ _ _ e => s3 _ _ (s2 _ _ (s1 _ _ e))) (s1.free (s2.free nq)) (hl2.keep s3) ?_
      rw [hq, List.length_map, List.map_cons, ns_ints]
theorem sc_Line_least : FnScope ["self", "numbers", "found"] ["self", "numbers"] (defScope (inClass (top 39) 14)) := ⟨rfl, rfl, rfl, by decide +kernel, rfl, by decide +kernel, by decide +kernel⟩
theorem ok_Line_least (T : Txt K mg A) : FnOk P w K mg base (L2.CX P w) 9 A.f_Line_least A.d_Line_least ["self", "numbers"] (sp_Line_least K A) := by
  refine T.F_Line_least.okX sc_Line_least (fun vs H Q E h => sp2_len h) (fun cdv Ar outer s H vs Q E hr h => ⟨_,
      (pss_cons (ps_set (i := 2) sc_Line_least.nd rfl (Or.inl rfl) (pe_call (ok_least_lost T) (hr.mono (by decide)) rfl T.g_least_lost T.F_least_lost.kp T.b_least_lost .nil pass0 (pa_cons (pe_fld (pv 0) rfl) (pa_cons (pe_meth0 (pv 0) T.c_Line T.m_Line_chances (ok_Line_chances T) (hr.mono (by decide)) T.b_Line_chances .nil pass0) (pa_cons (pe_meth (pv 0) T.c_Line T.m_Line_own_aim (ok_Line_own_aim T) (hr.mono (by decide)) T.b_Line_own_aim .nil (passes_call (takes_of rfl rfl rfl rfl) (fun _ _ _ _ h => h)) (pa_cons (pv 1) pa_nil)) (pa_cons (pe_ix ix_list (pv 1) pe_int (fun _ _ => rfl)) pa_nil))))))
      (pss_cons (ps_expr (pe_call (ok_refuse_if T) (hr.mono (by decide)) rfl T.g_refuse_if T.F_refuse_if.kp T.b_refuse_if .nil (passes_call (takes_of rfl rfl rfl rfl) (fun _ _ _ _ h => h)) (pa_cons (pe_cmpR op_isN (pv 2) pe_non (nomark _)) (pa_cons (pe_gint rfl T.g_IN_VAIN) pa_nil))))
      (pss_one (ps_ret (pv 2))))), ?_⟩)
  obtain ⟨_, _, rfl, la, wa, da, ea, oa, na, D, f, v, k, rfl, rfl, hl, hna, k1, k2, k3⟩ := h
  refine s_set (R := Same) (P := fun u H' => Kp373.okAsk D f v k = true ∧ ((Kp373.least D f v k = none ∧ u = .non) ∨ ∃ m t, KpM.IsMin KpM.lt3 (KpM.lossEnds D (Kp371.isAim f v) k) m ∧ u = .ref t ∧ TripAt H' t m)) (Same.refl _) (ev_callF (PA := fun H1 us H2 => ∃ ch kd am, us = [.ref wa, .ref ch, .ref am, N k] ∧ H1 kd = none ∧ ChE A H2 ch wa da ea oa kd D ∧ H2 kd = some (.dK []) ∧ AimAt A H2 am f v ∧ Kp373.okAsk D f v k = true) (fun H1 s1 => ?_) (fun H1 vs H2 s1 s2 p2 Q q => ?_)) (fun u H1 s1 pu => ?_)
  · have hl1 := hl.keep s1
    refine ea_consN (P := Is (.ref wa)) (ev_fld (ev_var rfl) (hl1.world T)) fun x H2 s2 ex => ea_consN (ev_ch rfl (hl1.keep s2)) fun x2 H3 s3 p3 => ?_
    have s13 := s1.trans (s2.trans s3)
    refine ea_consN (ev_methE (ev_var rfl) (hl.keep s13).m (ea_cons (ev_var rfl) ea_nil) fun us H4 s4 eu => by
      cases eu
      exact do_own_aim ((hl.keep s13).keep s4) (s4 _ _ (s13 _ _ hna)) fun hz => Rz.mono (k1 hz) (s13.trans s4)) fun x3 H4 s4 p4 => ?_
    refine ea_consN (P := Is (N k)) (ev_ixL (i := 2) (ev_var rfl) ev_c (s4 _ _ (s13 _ _ hna)) rfl) fun x4 H5 s5 ex4 => ?_
    intro H6 s6 Q q
    obtain ⟨ch, kd, e3, nk, hc, hk⟩ := p3
    obtain ⟨okk, am, e4, ha⟩ := p4
    have s36 := (s4.trans s5).trans s6
    exact q _ H6 (Same.refl _) ⟨ch, kd, am, by rw [ex, e3, e4, ex4], s2.free nk, hc.keep s36, s36 _ _ hk, (ha.keep s5).keep s6, okk⟩
  · obtain ⟨ch, kd, am, rfl, nk, hc, hk, ha, okk⟩ := p2
    have := okAsk_of okk
    exact ⟨_, _, _, _, rfl, ch, wa, da, ea, oa, kd, am, D, f, v, k, [], rfl, rfl, rfl, rfl, hc, hl.ok, ha, by omega, kn_start hk, fun hn H3 r => q _ H3 (same_rk s2 nk r) ⟨okk, .inl ⟨hn, rfl⟩⟩, fun m t H3 hm r ht => q _ H3 (same_rk s2 nk r) ⟨okk, .inr ⟨m, t, hm, rfl, ht⟩⟩⟩
  · obtain ⟨okk, ⟨hn, rfl⟩ | ⟨m, t, hm, rfl, ht⟩⟩ := pu
    · exact s_refuse (ev_isN (ev_var rfl)) (fun _ => Rz.mono (k2 okk hn) s1) (fun hb => by cases hb)
    · refine s_refuse (ev_isN (ev_var rfl)) (fun hb => by cases hb) (fun _ H2 s2 => ?_)
      with_reducible show tRet _ _ _ _
      refine s_ret (R := Same) (P := Is (.ref t)) (Same.refl _) ?_ (fun u H3 s3 eu => ?_)
      · exact ev_var rfl
      · cases eu
        exact k3 okk m t H3 hm ((s1.trans s2).trans s3) ((ht.keep s2).keep s3)
theorem sc_Line_most : FnScope ["self", "numbers", "found"] ["self", "numbers"] (defScope (inClass (top 39) 15)) := ⟨rfl, rfl, rfl, by decide +kernel, rfl, by decide +kernel, by decide +kernel⟩
theorem ok_Line_most (T : Txt K mg A) : FnOk P w K mg base (L2.CX P w) 8 A.f_Line_most A.d_Line_most ["self", "numbers"] (sp_Line_most K A) := by
  refine T.F_Line_most.okX sc_Line_most (fun vs H Q E h => sp2_len h) (fun cdv Ar outer s H vs Q E hr h => ⟨_,
      (pss_cons (ps_set (i := 2) sc_Line_most.nd rfl (Or.inl rfl) (pe_call (ok_most_kept T) (hr.mono (by decide)) rfl T.g_most_kept T.F_most_kept.kp T.b_most_kept .nil pass0 (pa_cons (pe_fld (pv 0) rfl) (pa_cons (pe_meth0 (pv 0) T.c_Line T.m_Line_chances (ok_Line_chances T) (hr.mono (by decide)) T.b_Line_chances .nil pass0) (pa_cons (pe_meth (pv 0) T.c_Line T.m_Line_own_aim (ok_Line_own_aim T) (hr.mono (by decide)) T.b_Line_own_aim .nil (passes_call (takes_of rfl rfl rfl rfl) (fun _ _ _ _ h => h)) (pa_cons (pv 1) pa_nil)) (pa_cons (pe_ix ix_list (pv 1) pe_int (fun _ _ => rfl)) pa_nil))))))
      (pss_cons (ps_expr (pe_call (ok_refuse_if T) (hr.mono (by decide)) rfl T.g_refuse_if T.F_refuse_if.kp T.b_refuse_if .nil (passes_call (takes_of rfl rfl rfl rfl) (fun _ _ _ _ h => h)) (pa_cons (pe_cmpR op_isN (pv 2) pe_non (nomark _)) (pa_cons (pe_gint rfl T.g_IN_VAIN) pa_nil))))
      (pss_one (ps_ret (pv 2))))), ?_⟩)
  obtain ⟨_, _, rfl, la, wa, da, ea, oa, na, D, f, v, k, rfl, rfl, hl, hna, k1, k2, k3⟩ := h
  refine s_set (R := Same) (P := fun u H' => Kp373.okAsk D f v k = true ∧ ((Kp373.most D f v k = none ∧ u = .non) ∨ ∃ m t, KpM.IsMin KpM.lt3 (KpM.keptEnds D (Kp371.isAim f v) k) m ∧ u = .ref t ∧ TripAt H' t (0 - m.1, m.2.1, m.2.2))) (Same.refl _) (ev_callF (PA := fun H1 us H2 => ∃ ch kd am, us = [.ref wa, .ref ch, .ref am, N k] ∧ H1 kd = none ∧ ChE A H2 ch wa da ea oa kd D ∧ H2 kd = some (.dK []) ∧ AimAt A H2 am f v ∧ Kp373.okAsk D f v k = true) (fun H1 s1 => ?_) (fun H1 vs H2 s1 s2 p2 Q q => ?_)) (fun u H1 s1 pu => ?_)
  · have hl1 := hl.keep s1
    refine ea_consN (P := Is (.ref wa)) (ev_fld (ev_var rfl) (hl1.world T)) fun x H2 s2 ex => ea_consN (ev_ch rfl (hl1.keep s2)) fun x2 H3 s3 p3 => ?_
    have s13 := s1.trans (s2.trans s3)
    refine ea_consN (ev_methE (ev_var rfl) (hl.keep s13).m (ea_cons (ev_var rfl) ea_nil) fun us H4 s4 eu => by
      cases eu
      exact do_own_aim ((hl.keep s13).keep s4) (s4 _ _ (s13 _ _ hna)) fun hz => Rz.mono (k1 hz) (s13.trans s4)) fun x3 H4 s4 p4 => ?_
    refine ea_consN (P := Is (N k)) (ev_ixL (i := 2) (ev_var rfl) ev_c (s4 _ _ (s13 _ _ hna)) rfl) fun x4 H5 s5 ex4 => ?_
    intro H6 s6 Q q
    obtain ⟨ch, kd, e3, nk, hc, hk⟩ := p3
    obtain ⟨okk, am, e4, ha⟩ := p4
    have s36 := (s4.trans s5).trans s6
    exact q _ H6 (Same.refl _) ⟨ch, kd, am, by rw [ex, e3, e4, ex4], s2.free nk, hc.keep s36, s36 _ _ hk, (ha.keep s5).keep s6, okk⟩
  · obtain ⟨ch, kd, am, rfl, nk, hc, hk, ha, okk⟩ := p2
    have := okAsk_of okk
    exact ⟨_, _, _, _, rfl, ch, wa, da, ea, oa, kd, am, D, f, v, k, [], rfl, rfl, rfl, rfl, hc, hl.ok, ha, by omega, kn_start hk, fun hn H3 r => q _ H3 (same_rk s2 nk r) ⟨okk, .inl ⟨hn, rfl⟩⟩, fun m t H3 hm r ht => q _ H3 (same_rk s2 nk r) ⟨okk, .inr ⟨m, t, hm, rfl, ht⟩⟩⟩
  · obtain ⟨okk, ⟨hn, rfl⟩ | ⟨m, t, hm, rfl, ht⟩⟩ := pu
    · exact s_refuse (ev_isN (ev_var rfl)) (fun _ => Rz.mono (k2 okk hn) s1) (fun hb => by cases hb)
    · refine s_refuse (ev_isN (ev_var rfl)) (fun hb => by cases hb) (fun _ H2 s2 => ?_)
      with_reducible show tRet _ _ _ _
      refine s_ret (R := Same) (P := Is (.ref t)) (Same.refl _) ?_ (fun u H3 s3 eu => ?_)
      · exact ev_var rfl
      · cases eu
        exact k3 okk m t H3 hm ((s1.trans s2).trans s3) ((ht.keep s2).keep s3)
theorem sc_Line_tidy : FnScope ["self", "numbers", "aim"] ["self", "numbers"] (defScope (inClass (top 39) 16)) := ⟨rfl, rfl, rfl, by decide +kernel, rfl, by decide +kernel, by decide +kernel⟩
theorem ok_Line_tidy (T : Txt K mg A) : FnOk P w K mg base (L2.CX P w) 8 A.f_Line_tidy A.d_Line_tidy ["self", "numbers"] (sp_Line_tidy K A) := by
  refine T.F_Line_tidy.okX sc_Line_tidy (fun vs H Q E h => sp2_len h) (fun cdv Ar outer s H vs Q E hr h => ⟨_,
      (pss_cons (ps_set (i := 2) sc_Line_tidy.nd rfl (Or.inl rfl) (pe_meth (pv 0) T.c_Line T.m_Line_own_aim (ok_Line_own_aim T) (hr.mono (by decide)) T.b_Line_own_aim .nil (passes_call (takes_of rfl rfl rfl rfl) (fun _ _ _ _ h => h)) (pa_cons (pv 1) pa_nil)))
      (pss_cons (ps_expr (pe_call (ok_refuse_if T) (hr.mono (by decide)) rfl T.g_refuse_if T.F_refuse_if.kp T.b_refuse_if .nil (passes_call (takes_of rfl rfl rfl rfl) (fun _ _ _ _ h => h)) (pa_cons (pe_not (pe_meth (pv 2) T.c_Aim T.m_Aim_is_so (ok_Aim_is_so T) (hr.mono (by decide)) T.b_Aim_is_so .nil pass0 (pa_cons (pe_fld (pe_fld (pv 0) rfl) rfl) pa_nil))) (pa_cons (pe_gint rfl T.g_IN_VAIN) pa_nil))))
      (pss_one (ps_ret (pe_callTy call_list_of (by rfl) T.list (by decide +kernel) (pa_cons (pe_call (ok_tidied T) (hr.mono (by decide)) rfl T.g_tidied T.F_tidied.kp T.b_tidied .nil pass0 (pa_cons (pe_fld (pv 0) rfl) (pa_cons (pe_meth0 (pv 0) T.c_Line T.m_Line_chances (ok_Line_chances T) (hr.mono (by decide)) T.b_Line_chances .nil pass0) (pa_cons (pv 2) (pa_cons (pe_ix ix_list (pv 1) pe_int (fun _ _ => rfl)) pa_nil))))) pa_nil)))))), ?_⟩)
  obtain ⟨_, _, rfl, la, wa, da, ea, oa, na, D, f, v, k, rfl, rfl, hl, hna, kk⟩ := h
  refine s_set (R := Same) (Same.refl _) (ev_methE (ev_var rfl) hl.m (ea_cons (ev_var rfl) ea_nil) fun us H4 s4 eu => by
      cases eu
      exact do_own_aim (hl.keep s4) (s4 _ _ hna) fun hz => by
        rw [outX_tidy_no hz] at kk
        exact Rz.mono kk s4) (fun u H1 s1 pu => ?_)
  obtain ⟨okk, am, rfl, ha⟩ := pu
  have hl1 := hl.keep s1
  have k10 := okAsk_of okk
  refine s_refuse (b := !Kp371.isAim f v D.world.now) (ev_not (ev_meth (ev_var rfl) ha.m (ea_cons (ev_fld (ev_fld (ev_var rfl) (hl1.world T)) (hl1.wd.fstate T)) ea_nil) fun H2 s2 => do_Aim_is_so (K := K) (Same.refl _) (ha.keep s2))) (fun hb => ?_) (fun hb H2 s2 => ?_)
  · rw [outX_tidy_un okk (KpM.tidy_none hl.ok.w (notT hb))] at kk
    exact Rz.mono kk s1
  · have hso := notF hb
    have s12 := s1.trans s2
    have hl2 := hl.keep s12
    have ha2 := ha.keep s2
    with_reducible show tRet _ _ _ _
    refine s_ret (R := Same) (P := fun u H' => ∃ l j s q, Kp373.tidy D f v k = some (l, j, s) ∧ u = .ref q ∧ H2 q = none ∧ H' q = some (.lst [N l, N j, N s])) (Same.refl _) (ev_cbN (ea_one (P := fun u H' => ∃ l j s t, Kp373.tidy D f v k = some (l, j, s) ∧ u = .ref t ∧ H' t = some (.tup [N l, N j, N s])) (ev_callF (PA := fun H1 us H3 => ∃ ch kd, us = [.ref wa, .ref ch, .ref am, N k] ∧ H1 kd = none ∧ ChE A H3 ch wa da ea oa kd D ∧ H3 kd = some (.dK []) ∧ AimAt A H3 am f v) (fun H3 s3 => ?_) (fun H3 vs H4 s3 s4 p4 Q q => ?_))) (fun us H3 s3 p3 Q q => ?_)) (fun u H3 s3 pu => ?_)
    · have hl3 := hl2.keep s3
      refine ea_consN (P := Is (.ref wa)) (ev_fld (ev_var rfl) (hl3.world T)) fun x H4 s4 ex => ea_consN (ev_ch rfl (hl3.keep s4)) fun x2 H5 s5 p5 => ea_consN (P := Is (.ref am)) (ev_var rfl) fun x3 H6 s6 e6 => ?_
      refine ea_consN (P := Is (N k)) (ev_ixL (i := 2) (ev_var rfl) ev_c (s6 _ _ (s5 _ _ (s4 _ _ (s3 _ _ (s12 _ _ hna))))) rfl) fun x4 H7 s7 ex4 => ?_
      intro H8 s8 Q q
      obtain ⟨ch, kd, e3, nk, hc, hk⟩ := p5
      have s58 := (s6.trans s7).trans s8
      exact q _ H8 (Same.refl _) ⟨ch, kd, by rw [ex, e3, e6, ex4], s4.free nk, hc.keep s58, s58 _ _ hk, ha2.keep (s3.trans (s4.trans (s5.trans s58)))⟩
    · obtain ⟨ch, kd, rfl, nk, hc, hk, ha⟩ := p4
      exact ⟨_, _, _, _, rfl, ch, wa, da, ea, oa, kd, am, D, f, v, k, [], rfl, rfl, rfl, rfl, hc, hl.ok, ha, by omega, kn_start hk, hso, fun l j s t H5 ht r h5 => q _ H5 (same_rk s4 nk r) ⟨l, j, s, t, ht, rfl, h5⟩⟩
    · obtain ⟨x, rfl, l, j, s, t, ht, rfl, h3⟩ := p3
      exact ⟨t, _, rfl, .inr (SqT.of h3), fun q' nq => q _ _ (same_upd nq) ⟨l, j, s, q', ht, rfl, s3.free nq, upd_same⟩⟩
    · obtain ⟨l, j, s, q, ht, rfl, nq, hq⟩ := pu
      rw [outX_tidy_ok okk ht] at kk
      exact kk q H3 (fun a o _ _ _ _ e => s3 _ _ (s12 _ _ e)) (s12.free nq) (hl2.keep s3) hq
theorem sc_Line_harmless : FnScope ["self", "chances", "followers", "choice", "state"] ["self"] (defScope (inClass (top 39) 17)) := ⟨rfl, rfl, rfl, by decide +kernel, rfl, by decide +kernel, by decide +kernel⟩
theorem ok_Line_harmless (T : Txt K mg A) : FnOk P w K mg base CX0 7 A.f_Line_harmless A.d_Line_harmless ["self"] (sp_Line_harmless K A) := by
  refine T.F_Line_harmless.ok sc_Line_harmless (fun vs H Q E h => sp1_len h) (fun cdv Ar outer s H vs Q E hr h => ⟨_,
      (pss_cons (ps_set (i := 1) sc_Line_harmless.nd rfl (Or.inr rfl) (pe_meth0 (pv 0) T.c_Line T.m_Line_chances (ok_Line_chances T) (hr.mono (by decide)) T.b_Line_chances .nil pass0))
      (pss_cons (ps_set (i := 2) sc_Line_harmless.nd rfl (Or.inl rfl) (pe_meth (pe_fld (pv 0) rfl) T.c_World T.m_World_followers (ok_World_followers T) (hr.mono (by decide)) T.b_World_followers .nil pass0 (pa_cons (pe_fld (pe_fld (pv 0) rfl) rfl) pa_nil)))
      (pss_one (ps_ret (pe_call (ok_counted T) (hr.mono (by decide)) rfl T.g_counted T.F_counted.kp T.b_counted .nil pass0 (pa_cons (pe_lc (own := [("choice", 3), ("state", 4)]) (g := gTup K 2 (gCons (gName 3) (gCons (gName 4) gNil))) (tt := (tTest (tOp (rEqD K) (tMeth A.CChances "lost" (sp_Chances_lost K A) [] E0 (tVar 1) (tCons (tVar 4) (tCons (tC (.int 1)) tNil))) (tLst tNil)))) (te := (tVar 3)) rfl sc_Line_harmless.nd (pi_list (pv 2)) (blkOk_by (own := [("choice", 3), ("state", 4)]) (N := ["self", "chances", "followers", "choice", "state"]) (sc := defScope (inClass (top 39) 17)) (by decide +kernel)) (fun _ _ _ _ _ => (pg_tup (n := 2) rfl (pgs_cons (pg_name (i := 3) sc_Line_harmless.nd rfl (Or.inl rfl)) (pgs_cons (pg_name (i := 4) sc_Line_harmless.nd rfl (Or.inl rfl)) pgs_nil)))) (fun _ _ _ _ _ => (pts_one (pt_cmpR (op_eqD hr.units) (pe_meth (pv 1) T.c_Chances T.m_Chances_lost (ok_Chances_lost T) (hr.mono (by decide)) T.b_Chances_lost .nil pass0 (pa_cons (pv 4) (pa_cons pe_int pa_nil))) (pe_lst pa_nil) (nomark _)))) (fun _ _ _ _ _ => (pv 3))) pa_nil)))))), ?_⟩)
  obtain ⟨_, rfl, la, wa, da, ea, oa, D, rfl, hl, k⟩ := h
  rw [outX_harmless] at k
  refine s_set (R := Same) (Same.refl _) (ev_ch rfl hl) (fun u H1 s1 pu => ?_)
  obtain ⟨ch, kd, rfl, nk, hc, hk⟩ := pu
  have hl1 := hl.keep s1
  refine s_set (R := Same) (Same.refl _) (ev_meth (ev_fld (ev_var rfl) (hl1.world T)) hl1.wd.m (ea_cons (ev_fld (ev_fld (ev_var rfl) (hl1.world T)) (hl1.wd.fstate T)) ea_nil) fun H2 s2 => do_World_followers s2 (Same.refl _) (hl1.wd.keep s2) hl.ok.w hl.ok.w.now) (fun u H2 s2 pu => ?_)
  obtain ⟨p, rfl, np, vs, hp, hvs⟩ := pu
  have hc2 := hc.keep s2
  have kn2 : Kn kd D [] H2 := kn_start (s2 _ _ hk)
  have fl := foll_len hl.ok.w D.world.now
  have flt : ∀ pr ∈ KpM.foll D.world D.world.now, pr.2 < 2 ^ D.world.m := fun pr hpr => KpM.foll_lt hl.ok.w hl.ok.w.now hpr
  generalize KpM.foll D.world D.world.now = fo at k hvs fl flt
  have len := hvs.1
  with_reducible show tRet _ _ _ _
  refine s_ret (R := RK kd D []) (P := NewL H2 (.int ((Ns ((fo.filter fun p => (Kp373.losesAt D p.2 1).isEmpty).map (·.1))).length : Int) :: Ns ((fo.filter fun p => (Kp373.losesAt D p.2 1).isEmpty).map (·.1)))) (rk_refl kn2) (ev_callN (ea_one (ev_lcL (xs := vs) (f := fun i => (Kp373.losesAt D (fo.getD i (0, 0)).2 1).isEmpty) (Pe := fun i => Is (N (fo.getD i (0, 0)).1)) ((ev_var rfl).imp fun u H3 s3 eu => ⟨p, eu, Good.keep s3 hp lst_nd⟩) (by rw [len]; omega) (fun d i x H3 hx rr k3 => ?_) (fun _ _ _ _ _ _ _ q _ _ _ => q))) fun us H3 e3 pu => ?_) (fun u H3 r3 pu => ?_)
  · obtain ⟨t, pr, hpr, rfl, ht⟩ := hvs.get hx
    have e3 : RK kd D [] H2 H3 := ⟨kn2, Mem.pop (Z := Zk kd) rr.1, k3⟩
    have hc3 := hc2.keep e3
    refine ⟨_, fun Q q' => g_pair (Good.keep e3 ht tup_nd) q', rfl, ?_, fun _ => ?_⟩
    · rw [List.getD_eq_getElem?_getD, hpr]
      refine et_test ((ev_eqL (ns := Kp373.losesAt D pr.2 1) (ms := []) ((ev_meth (ev_var rfl) hc3.m (ea_cons (ev_var rfl) (ea_cons ev_c ea_nil)) fun H8 e8 => do_Chances_lost e8 (hc3.keep e8) hl.ok (flt _ (List.mem_of_getElem? hpr)) (by decide)).imp fun u H9 e9 ⟨p, eu, _, hp⟩ => ⟨p, eu, hp⟩) fun H9 _ => ev_lstC ea_nil (by simp)).is (congrArg V.bl ?_))
      show decide (Kp373.losesAt D pr.2 1 = []) = (Kp373.losesAt D pr.2 1).isEmpty
      cases Kp373.losesAt D pr.2 1 <;> simp
    · rw [List.getD_eq_getElem?_getD, hpr]
      exact ev_var rfl
  · obtain ⟨x, rfl, d, ys, rfl, nd, hd, hel⟩ := pu
    have ey := hel.map
    rw [len, filt_range (fun p : Nat × Nat => (Kp373.losesAt D p.2 1).isEmpty) (fun p => N p.1) (0, 0) fo] at ey
    have e2 : ys = Ns ((fo.filter fun p => (Kp373.losesAt D p.2 1).isEmpty).map (·.1)) := by
      rw [ey]
      exact ns_fst _
    rw [e2] at hd
    refine do_counted (K := K) e3 hd ?_
    rw [List.length_map, List.length_map]
    exact Nat.le_trans (List.length_filter_le _ _) (by omega)
  · obtain ⟨q, rfl, nq, hq⟩ := pu
    have s03 := same_rk (s1.trans s2) nk r3
    refine k q H3 (fun a o _ _ _ _ e => s03 _ _ e) ((s1.trans s2).free nq) (hl.keep s03) ?_
    rw [hq, List.length_map, List.length_map, List.map_cons, ns_ints]
theorem sc_Line_last_chance : FnScope ["self", "most", "chances", "now", "steps"] ["self", "most"] (defScope (inClass (top 39) 18)) := ⟨rfl, rfl, rfl, by decide +kernel, rfl, by decide +kernel, by decide +kernel⟩
theorem ok_Line_last_chance (T : Txt K mg A) : FnOk P w K mg base (L2.CX P w) 6 A.f_Line_last_chance A.d_Line_last_chance ["self", "most"] (sp_Line_last_chance K A) := by
  refine T.F_Line_last_chance.okX sc_Line_last_chance (fun vs H Q E h => sp2_len h) (fun cdv Ar outer s H vs Q E hr h => ⟨_,
      (pss_cons (ps_expr (pe_call (ok_refuse_if T) (hr.mono (by decide)) rfl T.g_refuse_if T.F_refuse_if.kp T.b_refuse_if .nil (passes_call (takes_of rfl rfl rfl rfl) (fun _ _ _ _ h => h)) (pa_cons (pe_cmpR op_gt (pv 1) (pe_gint rfl T.g_MOST_TIME) (nomark _)) (pa_cons (pe_gint rfl T.g_OUT_OF_RANGE) pa_nil))))
      (pss_cons (ps_set (i := 2) sc_Line_last_chance.nd rfl (Or.inl rfl) (pe_meth0 (pv 0) T.c_Line T.m_Line_chances (ok_Line_chances T) (hr.mono (by decide)) T.b_Line_chances .nil pass0))
      (pss_cons (ps_set (i := 3) sc_Line_last_chance.nd rfl (Or.inl rfl) (pe_meth (pv 2) T.c_Chances T.m_Chances_possible (ok_Chances_possible T) (hr.mono (by decide)) T.b_Chances_possible .nil pass0 (pa_cons (pe_fld (pe_fld (pv 0) rfl) rfl) pa_nil)))
      (pss_cons (ps_for (passes_of rfl) rfl (pi_range1 rfl T.range (pa_cons (pe_op op_add (pv 1) pe_int) pa_nil)) (pg_name (i := 4) sc_Line_last_chance.nd rfl (Or.inl rfl))
        (pss_one (ps_if (pt_cmpR (op_neD hr.units) (pe_meth (pv 2) T.c_Chances T.m_Chances_possible (ok_Chances_possible T) (hr.mono (by decide)) T.b_Chances_possible .nil pass0 (pa_cons (pe_meth (pe_fld (pv 0) rfl) T.c_World T.m_World_waited (ok_World_waited T) (hr.mono (by decide)) T.b_World_waited .nil pass0 (pa_cons (pe_fld (pe_fld (pv 0) rfl) rfl) (pa_cons (pv 4) pa_nil))) pa_nil)) (pv 3) (nomark _))
        (pss_one (ps_ret (pe_lst (pa_cons (pv 4) pa_nil)))) pss_nil)))
      (pss_one (ps_raise rfl (takes_of rfl rfl rfl rfl) (pmk_oex T.oex T.iR T.tyR (ok_Refused_init T) (hr.mono (by decide)) T.b_Refused_init .nil pass0 rfl T.gC_Refused (pa_cons (pe_gint rfl T.g_IN_VAIN) pa_nil)))))))), ?_⟩)
  obtain ⟨_, _, rfl, la, wa, da, ea, oa, D, n, rfl, rfl, hl, k⟩ := h
  refine s_refuse (b := decide (40 < n)) ((ev_I0 (ev_var rfl) ev_c).is (congrArg V.bl (decide_eq_decide.mpr (by omega)))) (fun hb => by rw [outX_last_no (of_decide_eq_true hb)] at k; exact k) (fun hb H1 s1 => ?_)
  have hn := of_decide_eq_false hb
  have hl1 := hl.keep s1
  refine s_set (R := Same) (Same.refl _) (ev_ch rfl hl1) (fun u H2 s2 pu => ?_)
  obtain ⟨ch, kd, rfl, nk, hc, hk⟩ := pu
  have hl2 := hl1.keep s2
  have kn2 : Kn kd D [] H2 := kn_start hk
  refine s_set (R := RK kd D []) (rk_refl kn2) (ev_meth (ev_var rfl) hc.m (ea_cons (ev_fld (ev_fld (ev_var rfl) (hl2.world T)) (hl2.wd.fstate T)) ea_nil) fun H3 e3 => do_Chances_possible e3 (hc.keep e3) hl.ok hl.ok.w.now) (fun u H3 r3 pu => ?_)
  obtain ⟨p0, rfl, np0, hp0⟩ := pu
  refine s_forR (R := Same) (n := n + 1) (Same.refl _) (ea_cons ((ev_I0 (ev_var rfl) ev_c).is rfl) ea_nil) (by omega)
    (fun j σ' H' => ∃ (y4 : Option V), σ' = [some (.ref la), some (N n), some (.ref ch), some (.ref p0), y4] ∧ RK kd D [] H2 H' ∧ H' p0 = some (.lst (Ns (Kp373.openAt D D.world.now))) ∧ ∀ t, t < j → Kp373.openAt D (Kp371.itself D.world D.world.now t) = Kp373.openAt D D.world.now)
    (fun H4 s4 => ⟨none, rfl, Good.ext r3 s4, s4 _ _ hp0, fun t ht => absurd ht (Nat.not_lt_zero _)⟩) (fun j σ' H' hj q => ?_) (fun σ' H' q => ?_)
  · obtain ⟨y4, rfl, r4, hp4, hall⟩ := q
    have hl4 := hl2.keep r4
    have hc4 := hc.keep r4
    have lt := KpM.itself_lt hl.ok.w j D.world.now hl.ok.w.now
    have r44 : RK kd D [] H' H' := Good.here r4
    refine s_if (R := RK kd D []) (b := !decide (Kp373.openAt D (Kp371.itself D.world D.world.now j) = Kp373.openAt D D.world.now)) r44 (et_test (ev_neL (R := RK kd D []) ((ev_meth (R := RK kd D []) (ev_var rfl) hc4.m (ea_cons (ev_meth (ev_fld (ev_var rfl) (hl4.world T)) hl4.wd.m (ea_cons (ev_fld (ev_fld (ev_var rfl) (hl4.world T)) (hl4.wd.fstate T)) (ea_cons (ev_var rfl) ea_nil)) fun H5 e5 => do_World_waited (R := RK kd D []) (K := K) (Good.here e5) (hl4.wd.keep e5) hl.ok.w hl.ok.w.now (by omega)) ea_nil) fun H5 e5 => do_Chances_possible e5 (hc4.keep e5) hl.ok lt).imp fun u H5 e5 ⟨p, eu, _, hp⟩ => ⟨p, eu, hp⟩) fun H5 e5 => (ev_var rfl).imp fun u H6 e6 eu => ⟨p0, eu, Good.keep (Good.trans e5 e6) hp4 lst_nd⟩)) (fun hb H5 r5 => ?_) (fun hb H5 r5 => ?_)
    · rw [outX_last_ok hn hj hall (of_decide_eq_false (notT hb))] at k
      have s05 : Same H1 H5 := same_rk s2 nk (Good.trans r4 r5)
      refine s_retN (l := [N j]) (ev_lstF (ea_cons (ev_var rfl) ea_nil) (by simp)) (fun q H6 s6 nq hq => ?_)
      have s06 := (s1.trans s05).trans s6
      exact k q H6 (fun a o _ _ _ _ e => s06 _ _ e) ((s1.trans s05).free nq) (hl.keep s06) hq
    · refine ⟨_, rfl, Good.trans r4 r5, Good.keep r5 hp4 lst_nd, fun t ht => ?_⟩
      by_cases c : t = j
      · rw [c]
        exact of_decide_eq_true (notF hb)
      · exact hall t (by omega)
  · obtain ⟨y4, rfl, r4, hp4, hall⟩ := q
    rw [outX_last_un hn hall] at k
    exact s_raise (σ := [some (.ref la), some (N n), some (.ref ch), some (.ref p0), y4]) (Rz.mono k (s1.trans (same_rk s2 nk r4)))
end
end Kw
set_option maxRecDepth 100000
set_option maxHeartbeats 400000
namespace Kw
open PySem PySem.Spec PyProof.Rows L2
inductive CD : Nat → List Nat → Kp373.Call → Prop
  | deed (a b c e : Nat) : CD 1 [a, b, c, e] (.deed a b c e)
  | event (a b c e : Nat) : CD 2 [a, b, c, e] (.event a b c e)
  | undeed (i : Nat) : CD 3 [i] (.undeed i)
  | unevent (i : Nat) : CD 4 [i] (.unevent i)
  | set (s : Nat) : CD 5 [s] (.set s)
  | now : CD 6 [] .now
  | do_ (i : Nat) : CD 7 [i] (.do_ i)
  | aim (a w x k : Nat) : CD 8 [a, w, x, k] (.aim a w x k)
  | unaim (i : Nat) : CD 9 [i] (.unaim i)
inductive CS : Nat → List Nat → Kp373.Call → Prop
  | aimIs (i : Nat) : CS 10 [i] (.aimIs i)
  | open_ : CS 11 [] .open_
  | openAt (s : Nat) : CS 12 [s] (.openAt s)
  | keeps (s : Nat) : CS 13 [s] (.keeps s)
  | costs (i : Nat) : CS 14 [i] (.costs i)
inductive CR : Nat → List Nat → Kp373.Call → Prop
  | least (a w k : Nat) : CR 15 [a, w, k] (.least a w k)
  | leastRow (a w k : Nat) : CR 16 [a, w, k] (.leastRow a w k)
  | most (a w k : Nat) : CR 17 [a, w, k] (.most a w k)
  | mostRow (a w k : Nat) : CR 18 [a, w, k] (.mostRow a w k)
  | tidy (a w k : Nat) : CR 19 [a, w, k] (.tidy a w k)
  | harmless : CR 20 [] .harmless
  | lastChance (k : Nat) : CR 21 [k] (.lastChance k)
def CA (n : Nat) (ns : List Nat) (x : Kp373.Call) : Prop := CD n ns x ∨ CS n ns x ∨ CR n ns x
def PC (A : Ad) (C : Nat → List Nat → Kp373.Call → Prop) : V → V → V → Hp → VK → XK → Prop := fun s c m H Q E => ∃ (la wa da ea oa na : Addr) (D : Kp373.Desk) (n : Nat) (ns : List Nat) (x : Kp373.Call),
  s = .ref la ∧ c = N n ∧ m = .ref na ∧ LineAt A H la wa da ea oa D ∧ H na = some (.lst (Ns ns)) ∧ C n ns x ∧ LDo A H la wa da ea oa (outX D x) Q E
def sp_told_deed (K : PySem.W.Frag) (A : Ad) : Sp := Sp3 (PC A CD)
def sp_told_state (K : PySem.W.Frag) (A : Ad) : Sp := Sp3 (PC A CS)
def sp_told_row (K : PySem.W.Frag) (A : Ad) : Sp := Sp3 (PC A CR)
def sp_answered (K : PySem.W.Frag) (A : Ad) : Sp := Sp3 (PC A CA)
def sp_begun (K : PySem.W.Frag) (A : Ad) : Sp := Sp1 fun a H Q E => ∃ (na : Addr) (m : Nat), a = .ref na ∧ H na = some (.lst [N m]) ∧ (m < 2 ∨ 5 < m → Rz A H E (-22)) ∧
  (¬ (m < 2 ∨ 5 < m) → ∀ la wa da ea oa H', Same H H' → LineAt A H' la wa da ea oa ⟨⟨m, [], [], 0⟩, []⟩ → H wa = none → H da = none → H ea = none → H oa = none → Q (.ref la) H')
section
variable {D : Kp373.Desk}
theorem outX_deed_bad {a b c e : Nat} (h : Kp371.okDeed D.world a b c e = false) : outX D (.deed a b c e) = .no (-22) := by
  simp [outX, Kp373.step, Kp373.under, Kp371.step, Kp371.say, h]
theorem outX_deed_many {a b c e : Nat} (h : Kp371.okDeed D.world a b c e = true) (hn : 6 ≤ D.world.deeds.length) : outX D (.deed a b c e) = .no (-28) := by
  simp [outX, Kp373.step, Kp373.under, Kp371.step, Kp371.say, h, Kp371.DEEDS, hn]
theorem outX_deed_ok {a b c e : Nat} (h : Kp371.okDeed D.world a b c e = true) (hn : D.world.deeds.length < 6) : outX D (.deed a b c e) = .ok { D with world := { D.world with deeds := D.world.deeds ++ [⟨a, b, c, e⟩] } } [(D.world.deeds.length : Int)] := by
  have h' : ¬ 6 ≤ D.world.deeds.length := by omega
  have h2 : ¬ ((D.world.deeds.length : Int) < 0) := by omega
  simp [outX, Kp373.step, Kp373.under, Kp371.step, Kp371.say, h, Kp371.DEEDS, h', h2]
theorem outX_event_bad {a b c e : Nat} (h : Kp371.okDeed D.world a b c e = false) : outX D (.event a b c e) = .no (-22) := by
  simp [outX, Kp373.step, Kp373.under, Kp371.step, Kp371.say, h]
theorem outX_event_many {a b c e : Nat} (h : Kp371.okDeed D.world a b c e = true) (hn : 3 ≤ D.world.events.length) : outX D (.event a b c e) = .no (-28) := by
  simp [outX, Kp373.step, Kp373.under, Kp371.step, Kp371.say, h, Kp371.EVENTS, hn]
theorem outX_event_ok {a b c e : Nat} (h : Kp371.okDeed D.world a b c e = true) (hn : D.world.events.length < 3) : outX D (.event a b c e) = .ok { D with world := { D.world with events := D.world.events ++ [⟨a, b, c, e⟩] } } [(D.world.events.length : Int)] := by
  have h' : ¬ 3 ≤ D.world.events.length := by omega
  have h2 : ¬ ((D.world.events.length : Int) < 0) := by omega
  simp [outX, Kp373.step, Kp373.under, Kp371.step, Kp371.say, h, Kp371.EVENTS, h', h2]
theorem outX_undeed_no {i : Nat} (h : D.world.deeds.length ≤ i) : outX D (.undeed i) = .no (-2) := by
  simp [outX, Kp373.step, Kp373.under, Kp371.step, Kp371.say, h]
theorem outX_undeed_ok {i : Nat} (h : i < D.world.deeds.length) : outX D (.undeed i) = .ok { D with world := { D.world with deeds := D.world.deeds.eraseIdx i } } [((D.world.deeds.length - 1 : Nat) : Int)] := by
  have h' : ¬ D.world.deeds.length ≤ i := by omega
  have h2 : ¬ (((D.world.deeds.length - 1 : Nat) : Int) < 0) := by omega
  rw [List.eraseIdx_eq_take_drop_succ]
  simp only [outX, Kp373.step, Kp373.under, Kp371.step, Kp371.say, if_neg h', if_neg h2, Option.map]
theorem outX_unevent_no {i : Nat} (h : D.world.events.length ≤ i) : outX D (.unevent i) = .no (-2) := by
  simp [outX, Kp373.step, Kp373.under, Kp371.step, Kp371.say, h]
theorem outX_unevent_ok {i : Nat} (h : i < D.world.events.length) : outX D (.unevent i) = .ok { D with world := { D.world with events := D.world.events.eraseIdx i } } [((D.world.events.length - 1 : Nat) : Int)] := by
  have h' : ¬ D.world.events.length ≤ i := by omega
  have h2 : ¬ (((D.world.events.length - 1 : Nat) : Int) < 0) := by omega
  rw [List.eraseIdx_eq_take_drop_succ]
  simp only [outX, Kp373.step, Kp373.under, Kp371.step, Kp371.say, if_neg h', if_neg h2, Option.map]
theorem outX_unaim_no {i : Nat} (h : D.aims.length ≤ i) : outX D (.unaim i) = .no (-2) := outX_no (by simp only [Kp373.step, if_pos h]) (by decide)
theorem outX_unaim_ok {i : Nat} (h : i < D.aims.length) : outX D (.unaim i) = .ok { D with aims := D.aims.eraseIdx i } [((D.aims.length - 1 : Nat) : Int)] := by
  have h' : ¬ D.aims.length ≤ i := by omega
  have h2 : ¬ (((D.aims.length - 1 : Nat) : Int) < 0) := by omega
  rw [List.eraseIdx_eq_take_drop_succ]
  simp only [outX, Kp373.step, Kp373.say, if_neg h', if_neg h2]
theorem outX_now : outX D .now = .ok D [(D.world.now : Int)] := by
  have h2 : ¬ ((D.world.now : Int) < 0) := by omega
  simp [outX, Kp373.step, Kp373.under, Kp371.step, Kp371.say, h2]
theorem outX_open : outX D .open_ = .ok D (((Kp373.openAt D D.world.now).length : Int) :: (Kp373.openAt D D.world.now).map fun x : Nat => (x : Int)) := outX_row rfl
theorem notAsk {f v k : Nat} (h : Kp373.okAsk D f v k = true) : ¬ Kp373.okAsk D f v k = false := by
  rw [h]
  decide
theorem outX_least_no {f v k : Nat} (h : Kp373.okAsk D f v k = false) : outX D (.least f v k) = .no (-22) := outX_no (by simp only [Kp373.step, if_pos h]) (by decide)
theorem outX_least_un {f v k : Nat} (h : Kp373.okAsk D f v k = true) (hn : Kp373.least D f v k = none) : outX D (.least f v k) = .no (-33) := outX_no (by simp only [Kp373.step, if_neg (notAsk h), hn]; rfl) (by decide)
theorem outX_least_ok {f v k l t : Nat} (h : Kp373.okAsk D f v k = true) (hn : Kp373.least D f v k = some (l, t)) : outX D (.least f v k) = .ok D [(l : Int), (t : Int)] := by
  simp only [outX, Kp373.step, if_neg (notAsk h), hn, Kp373.pairAns]
  rw [if_neg (by omega)]
theorem outX_most_no {f v k : Nat} (h : Kp373.okAsk D f v k = false) : outX D (.most f v k) = .no (-22) := outX_no (by simp only [Kp373.step, if_pos h]) (by decide)
theorem outX_most_un {f v k : Nat} (h : Kp373.okAsk D f v k = true) (hn : Kp373.most D f v k = none) : outX D (.most f v k) = .no (-33) := outX_no (by simp only [Kp373.step, if_neg (notAsk h), hn]; rfl) (by decide)
theorem outX_most_ok {f v k l t : Nat} (h : Kp373.okAsk D f v k = true) (hn : Kp373.most D f v k = some (l, t)) : outX D (.most f v k) = .ok D [(l : Int), (t : Int)] := by
  simp only [outX, Kp373.step, if_neg (notAsk h), hn, Kp373.pairAns]
  rw [if_neg (by omega)]
theorem outX_leastRow_no {f v k : Nat} (h : Kp373.okAsk D f v k = false) : outX D (.leastRow f v k) = .no (-22) := outX_no (by simp only [Kp373.step, if_pos h]) (by decide)
theorem outX_leastRow_un {f v k : Nat} (h : Kp373.okAsk D f v k = true) (hn : Kp373.least D f v k = none) : outX D (.leastRow f v k) = .no (-33) := outX_no (by simp only [Kp373.step, if_neg (notAsk h), Kp373.leastRow, hn]; rfl) (by decide)
theorem outX_leastRow_ok {f v k : Nat} {l : List Nat} (h : Kp373.okAsk D f v k = true) (hn : Kp373.leastRow D f v k = some l) : outX D (.leastRow f v k) = .ok D ((l.length : Int) :: l.map fun x : Nat => (x : Int)) := outX_row (by simp only [Kp373.step, if_neg (notAsk h), hn]; rfl)
theorem outX_mostRow_no {f v k : Nat} (h : Kp373.okAsk D f v k = false) : outX D (.mostRow f v k) = .no (-22) := outX_no (by simp only [Kp373.step, if_pos h]) (by decide)
theorem outX_mostRow_un {f v k : Nat} (h : Kp373.okAsk D f v k = true) (hn : Kp373.most D f v k = none) : outX D (.mostRow f v k) = .no (-33) := outX_no (by simp only [Kp373.step, if_neg (notAsk h), Kp373.mostRow, hn]; rfl) (by decide)
theorem outX_mostRow_ok {f v k : Nat} {l : List Nat} (h : Kp373.okAsk D f v k = true) (hn : Kp373.mostRow D f v k = some l) : outX D (.mostRow f v k) = .ok D ((l.length : Int) :: l.map fun x : Nat => (x : Int)) := outX_row (by simp only [Kp373.step, if_neg (notAsk h), hn]; rfl)
end
section
variable {R : Hp → Hp → Prop} [G : Good R] {K : PySem.W.Frag} {A : Ad} {E : XK} {σ : L2.St} {H H' : Hp} {te : TE} {t : TA} {sp : Sp} {Dn : Ends} {tu tb : TS} {la wa da ea oa : Addr} {r : Out} {Q : VK}
theorem s_skip {i j : Int} (h1 : σ[1]? = some (some (.int i))) (hne : ¬ i = j) (k : tb Dn σ H) : tSeq (tIfS (tTest (tOp rEq (tVar 1) (tC (.int j)))) tu tNext) tb Dn σ H := by
  refine ⟨_, h1, rfl, _, rfl, ?_⟩
  have e : decide ((V.int i) = V.int j) = false := decide_eq_false fun z => hne (V.int.inj z)
  rw [e]
  exact k
theorem s_take {i j : Int} (h1 : σ[1]? = some (some (.int i))) (he : i = j) (k : tu { Dn with nx := tb Dn } σ H) : tSeq (tIfS (tTest (tOp rEq (tVar 1) (tC (.int j)))) tu tNext) tb Dn σ H := by
  refine ⟨_, h1, rfl, _, rfl, ?_⟩
  have e : decide ((V.int i) = V.int j) = true := decide_eq_true (by rw [he])
  rw [e]
  exact k
theorem s_retM {a C : Addr} {m : Str} {PA : List V → Hp → Prop} (h0 : σ[0]? = some (some (.ref a))) (hi : InsAt H a C m) (ha : EvA Same t σ H PA) (hs : ∀ us H1, Same H H1 → PA us H1 → sp (.ref a :: us) H1 Dn.rt E) : tRet (tMeth C m sp [] E (tVar 0) t) Dn σ H := by
  obtain ⟨dx, fs, h1, h2⟩ := hi
  refine ⟨_, h0, a, dx, fs, rfl, h1, h2, ha H (Same.refl _) _ fun us H1 s1 pa => ?_⟩
  have := hs us H1 s1 pa
  rw [← List.append_nil us] at this
  exact this
theorem s_retC {PA : List V → Hp → Prop} (ha : EvA Same t σ H PA) (hs : ∀ us H1, Same H H1 → PA us H1 → sp us H1 Dn.rt E) : tRet (tCall sp [] E t) Dn σ H := by
  refine ha H (Same.refl _) _ fun us H1 s1 pa => ?_
  have := hs us H1 s1 pa
  rw [← List.append_nil us] at this
  exact this
theorem LDo.mono (h : LDo A H la wa da ea oa r Q E) (s : Same H H') : LDo A H' la wa da ea oa r Q E := by
  cases r with
  | no n => exact Rz.mono h s
  | ok D l => exact fun p H2 k n hl hp => h p H2 (fun a o n1 n2 n3 n4 e => k a o n1 n2 n3 n4 (s _ _ e)) (s.free n) hl hp
end
section
variable {K : PySem.W.Frag} {mg : Str → Option Value} {A : Ad} {E : XK} {σ : L2.St} {H : Hp} {la wa da ea oa na : Addr} {D : Kp373.Desk} {Q : VK}
/-- a change more: what it's told by -/
theorem add_deed (hl : LineAt A H la wa da ea oa D) {a b c e : Nat} (hna : H na = some (.lst (Ns [a, b, c, e]))) (k : LDo A H la wa da ea oa (outX D (.deed a b c e)) Q E) : sp_Line_add_change K A [.ref la, .ref na, .ref da, N 6] H Q E := by
  have n6 := hl.ok.w.nd
  refine ⟨_, _, _, _, rfl, la, wa, da, ea, oa, na, da, D, ⟨a, b, c, e⟩, 6, D.world.deeds, rfl, rfl, rfl, rfl, hl, hna, hl.wd.deeds, by omega, fun hb => ?_, fun hb hn => ?_, fun hb hn q H' kp hc nq hq => ?_⟩
  · rw [outX_deed_bad hb] at k
    exact k
  · rw [outX_deed_many hb (by omega)] at k
    exact k
  · rw [outX_deed_ok hb (by omega)] at k
    exact k q H' (fun x o _ n2 _ _ e => kp x o n2 e) nq (hl.setDeeds (fun d hd => by
      rcases List.mem_append.mp hd with hd | hd
      · exact hl.ok.w.deeds d hd
      · have : d = ⟨a, b, c, e⟩ := by simpa using hd
        rw [this]
        exact okD_of hb) (by
      rw [List.length_append]
      show D.world.deeds.length + 1 ≤ 6
      omega) hc kp) hq
theorem add_event (hl : LineAt A H la wa da ea oa D) {a b c e : Nat} (hna : H na = some (.lst (Ns [a, b, c, e]))) (k : LDo A H la wa da ea oa (outX D (.event a b c e)) Q E) : sp_Line_add_change K A [.ref la, .ref na, .ref ea, N 3] H Q E := by
  have n3 := hl.ok.w.ne
  refine ⟨_, _, _, _, rfl, la, wa, da, ea, oa, na, ea, D, ⟨a, b, c, e⟩, 3, D.world.events, rfl, rfl, rfl, rfl, hl, hna, hl.wd.events, by omega, fun hb => ?_, fun hb hn => ?_, fun hb hn q H' kp hc nq hq => ?_⟩
  · rw [outX_event_bad hb] at k
    exact k
  · rw [outX_event_many hb (by omega)] at k
    exact k
  · rw [outX_event_ok hb (by omega)] at k
    exact k q H' (fun x o _ _ n3 _ e => kp x o n3 e) nq (hl.setEvents (fun d hd => by
      rcases List.mem_append.mp hd with hd | hd
      · exact hl.ok.w.events d hd
      · have : d = ⟨a, b, c, e⟩ := by simpa using hd
        rw [this]
        exact okD_of hb) (by
      rw [List.length_append]
      show D.world.events.length + 1 ≤ 3
      omega) hc kp) hq
theorem out_deed (hl : LineAt A H la wa da ea oa D) {i : Nat} (k : LDo A H la wa da ea oa (outX D (.undeed i)) Q E) : sp_Line_take_out K A [.ref la, N i, .ref da] H Q E := by
  obtain ⟨vs, hv, hvl⟩ := hl.wd.deeds
  have n6 := hl.ok.w.nd
  refine ⟨_, _, _, rfl, la, wa, da, ea, oa, D, i, da, vs, rfl, rfl, rfl, hl, hv, by rw [hvl.1]; omega, fun hz => ?_, fun hlt q H' kp hd nq hq => ?_⟩
  · rw [hvl.1] at hz
    rw [outX_undeed_no hz] at k
    exact k
  · rw [hvl.1] at hlt hq
    rw [outX_undeed_ok hlt] at k
    exact k q H' (fun x o _ n2 _ _ e => kp x o n2 e) nq (hl.setDeeds (fun d hd => hl.ok.w.deeds d (List.mem_of_mem_eraseIdx hd)) (Nat.le_trans (List.length_eraseIdx_le _ _) n6) ⟨_, hd, (hvl.erase i).imp fun a d z => z.mv hv kp⟩ kp) hq
theorem out_event (hl : LineAt A H la wa da ea oa D) {i : Nat} (k : LDo A H la wa da ea oa (outX D (.unevent i)) Q E) : sp_Line_take_out K A [.ref la, N i, .ref ea] H Q E := by
  obtain ⟨vs, hv, hvl⟩ := hl.wd.events
  have n3 := hl.ok.w.ne
  refine ⟨_, _, _, rfl, la, wa, da, ea, oa, D, i, ea, vs, rfl, rfl, rfl, hl, hv, by rw [hvl.1]; omega, fun hz => ?_, fun hlt q H' kp hd nq hq => ?_⟩
  · rw [hvl.1] at hz
    rw [outX_unevent_no hz] at k
    exact k
  · rw [hvl.1] at hlt hq
    rw [outX_unevent_ok hlt] at k
    exact k q H' (fun x o _ _ n3 _ e => kp x o n3 e) nq (hl.setEvents (fun d hd => hl.ok.w.events d (List.mem_of_mem_eraseIdx hd)) (Nat.le_trans (List.length_eraseIdx_le _ _) n3) ⟨_, hd, (hvl.erase i).imp fun a d z => z.mv hv kp⟩ kp) hq
theorem out_aim (hl : LineAt A H la wa da ea oa D) {i : Nat} (k : LDo A H la wa da ea oa (outX D (.unaim i)) Q E) : sp_Line_take_out K A [.ref la, N i, .ref oa] H Q E := by
  obtain ⟨vs, hv, hvl⟩ := hl.ot
  have n6 := hl.ok.na
  refine ⟨_, _, _, rfl, la, wa, da, ea, oa, D, i, oa, vs, rfl, rfl, rfl, hl, hv, by rw [hvl.1]; omega, fun hz => ?_, fun hlt q H' kp hd nq hq => ?_⟩
  · rw [hvl.1] at hz
    rw [outX_unaim_no hz] at k
    exact k
  · rw [hvl.1] at hlt hq
    rw [outX_unaim_ok hlt] at k
    exact k q H' (fun x o _ _ _ n4 e => kp x o n4 e) nq (hl.setAims (fun d hd => hl.ok.aims d (List.mem_of_mem_eraseIdx hd)) (Nat.le_trans (List.length_eraseIdx_le _ _) n6) ⟨_, hd, (hvl.erase i).imp fun a d z => z.mv hv kp⟩ kp) hq
theorem pl1 {c : Nat → Kp373.Call} (hl : LineAt A H la wa da ea oa D) {n : Nat} (k : LDo A H la wa da ea oa (outX D (c n)) Q E) : Sp2 (PL1 A c) [.ref la, N n] H Q E := ⟨_, _, rfl, la, wa, da, ea, oa, D, n, rfl, rfl, hl, k⟩
/-- line.least(numbers), line.most(numbers) -/
theorem ev_least {f v k : Nat} (h0 : σ[0]? = some (some (.ref la))) (h2 : σ[2]? = some (some (.ref na))) (hl : LineAt A H la wa da ea oa D) (hna : H na = some (.lst (Ns [f, v, k]))) (z1 : Kp373.okAsk D f v k = false → Rz A H E (-22)) (z2 : Kp373.okAsk D f v k = true → Kp373.least D f v k = none → Rz A H E (-33)) :
    Ev Same (tMeth A.CLine "least" (sp_Line_least K A) [] E (tVar 0) (tCons (tVar 2) tNil)) σ H (fun u H' => Kp373.okAsk D f v k = true ∧ ∃ m t, KpM.IsMin KpM.lt3 (KpM.lossEnds D (Kp371.isAim f v) k) m ∧ u = .ref t ∧ TripAt H' t m) :=
  ev_methE (ev_var h0) hl.m (ea_cons (ev_var h2) ea_nil) fun us H1 s1 eu Q q => by
    cases eu
    exact ⟨_, _, rfl, la, wa, da, ea, oa, na, D, f, v, k, rfl, rfl, hl.keep s1, s1 _ _ hna, fun h => Rz.mono (z1 h) s1, fun h h' => Rz.mono (z2 h h') s1, fun h m t H' hm s ht => q _ H' s ⟨h, m, t, hm, rfl, ht⟩⟩
theorem ev_most {f v k : Nat} (h0 : σ[0]? = some (some (.ref la))) (h2 : σ[2]? = some (some (.ref na))) (hl : LineAt A H la wa da ea oa D) (hna : H na = some (.lst (Ns [f, v, k]))) (z1 : Kp373.okAsk D f v k = false → Rz A H E (-22)) (z2 : Kp373.okAsk D f v k = true → Kp373.most D f v k = none → Rz A H E (-33)) :
    Ev Same (tMeth A.CLine "most" (sp_Line_most K A) [] E (tVar 0) (tCons (tVar 2) tNil)) σ H (fun u H' => Kp373.okAsk D f v k = true ∧ ∃ m t, KpM.IsMin KpM.lt3 (KpM.keptEnds D (Kp371.isAim f v) k) m ∧ u = .ref t ∧ TripAt H' t (0 - m.1, m.2.1, m.2.2)) :=
  ev_methE (ev_var h0) hl.m (ea_cons (ev_var h2) ea_nil) fun us H1 s1 eu Q q => by
    cases eu
    exact ⟨_, _, rfl, la, wa, da, ea, oa, na, D, f, v, k, rfl, rfl, hl.keep s1, s1 _ _ hna, fun h => Rz.mono (z1 h) s1, fun h h' => Rz.mono (z2 h h') s1, fun h m t H' hm s ht => q _ H' s ⟨h, m, t, hm, rfl, ht⟩⟩
/-- list(..[:2]) of a triple -/
theorem ev_first2 {te : TE} {C : V → V → V → Prop} (h : Ev Same te σ H (fun u H' => ∃ t x y z, C x y z ∧ u = .ref t ∧ H' t = some (.tup [x, y, z]))) : Ev Same (tCB (fun xs H_1 Q => ∃ p ys, xs = [V.ref p] ∧ (SqL K H_1 p ys ∨ SqT K H_1 p ys) ∧ ∀ (l : Addr), H_1 l = none → Q (V.ref l) (upd H_1 l (HO.lst ys))) (tCons (tSl (rSlT K) te tNoPart (tPart (tC (.int 2)))) tNil)) σ H (fun u H' => ∃ q x y z, C x y z ∧ u = .ref q ∧ H q = none ∧ H' q = some (.lst [x, y])) := fun H1 e Q q => by
  refine h H1 e _ fun u H2 s2 ⟨t, x, y, z, hc, eu, ht⟩ => ?_
  subst eu
  refine ⟨2, rfl, t, [x, y, z], rfl, SqT.of ht, (show ¬ (HT.sIx 3 0 none = 0 ∧ HT.sIx 3 3 (some 2) = 3) by decide), fun p np => ⟨p, [x, y], rfl, .inr (SqT.of upd_same), fun l nl => q _ _ (s2.trans ((same_upd np).trans (same_upd nl))) ⟨l, x, y, z, hc, rfl, ?_, upd_same⟩⟩⟩
  exact e.free (s2.free ((same_upd np).free nl))
theorem ev_third {te : TE} {C : List Nat → Prop} (h : Ev Same te σ H (fun u H' => ∃ t a b q row, C row ∧ u = .ref t ∧ H' t = some (.tup [a, b, .ref q]) ∧ H' q = some (.lst (Ns row)))) : Ev Same (tOp (rIxT K) te (tC (.int 2))) σ H (fun u H' => ∃ q row, C row ∧ u = .ref q ∧ H' q = some (.lst (Ns row))) :=
  ev_opN1 h (fun _ _ _ _ => ev_c) fun x y H1 H2 s1 ⟨t, a, b, q, row, hc, ex, ht, hq⟩ s2 ey Q k => by
    subst ex
    cases ey
    exact ⟨t, [a, b, .ref q], 2, .ref q, rfl, rfl, SqT.of (s2 _ _ ht), rfl, k _ H2 (Same.refl _) ⟨q, row, hc, rfl, s2 _ _ hq⟩⟩
theorem ev_countC {te : TE} {C : List Nat → Prop} {E' : XK} (hz : ∀ row, C row → row.length ≤ 1000) (h : Ev Same te σ H (fun u H' => ∃ q row, C row ∧ u = .ref q ∧ H' q = some (.lst (Ns row)))) : Ev Same (tCall (sp_counted K A) [] E' (tCons te tNil)) σ H (fun u H' => ∃ q row, C row ∧ u = .ref q ∧ H q = none ∧ H' q = some (.lst (.int (row.length : Int) :: Ns row))) :=
  ev_callN (ea_one h) fun us H1 s1 ⟨x, eus, q, row, hc, ex, hq⟩ Q E k => by
    subst eus ex
    refine ⟨_, rfl, q, Ns row, rfl, hq, by rw [List.length_map]; exact hz row hc, fun r H2 s2 n e => k _ H2 s2 ⟨r, row, hc, rfl, s1.free n, ?_⟩⟩
    rw [e, List.length_map]
end
section
variable {P : Program} {w : World} {K : PySem.W.Frag} {mg : Str → Option Value} {base : Heap} {A : Ad}
theorem sc_told_deed : FnScope ["line", "call", "numbers"] ["line", "call", "numbers"] (defScope (top 40)) := ⟨rfl, rfl, rfl, by decide +kernel, rfl, by decide +kernel, by decide +kernel⟩
theorem ok_told_deed (T : Txt K mg A) : FnOk P w K mg base (L2.CX P w) 6 A.f_told_deed A.d_told_deed ["line", "call", "numbers"] (sp_told_deed K A) := by
  refine T.F_told_deed.okX sc_told_deed (fun vs H Q E h => sp3_len h) (fun cdv Ar outer s H vs Q E hr h => ⟨_,
      (pss_cons (ps_if (pt_cmpR op_eq (pv 1) pe_int (nomark _))
        (pss_one (ps_ret (pe_meth (pv 0) T.c_Line T.m_Line_add_change (ok_Line_add_change T) (hr.mono (by decide)) T.b_Line_add_change .nil (passes_call (takes_of rfl rfl rfl rfl) (fun _ _ _ _ h => h)) (pa_cons (pv 2) (pa_cons (pe_fld (pe_fld (pv 0) rfl) rfl) (pa_cons (pe_gint rfl T.g_MOST_DEEDS) pa_nil)))))) pss_nil)
      (pss_cons (ps_if (pt_cmpR op_eq (pv 1) pe_int (nomark _))
        (pss_one (ps_ret (pe_meth (pv 0) T.c_Line T.m_Line_add_change (ok_Line_add_change T) (hr.mono (by decide)) T.b_Line_add_change .nil (passes_call (takes_of rfl rfl rfl rfl) (fun _ _ _ _ h => h)) (pa_cons (pv 2) (pa_cons (pe_fld (pe_fld (pv 0) rfl) rfl) (pa_cons (pe_gint rfl T.g_MOST_EVENTS) pa_nil)))))) pss_nil)
      (pss_cons (ps_if (pt_cmpR op_eq (pv 1) pe_int (nomark _))
        (pss_one (ps_ret (pe_meth (pv 0) T.c_Line T.m_Line_take_out (ok_Line_take_out T) (hr.mono (by decide)) T.b_Line_take_out .nil (passes_call (takes_of rfl rfl rfl rfl) (fun _ _ _ _ h => h)) (pa_cons (pe_ix ix_list (pv 2) pe_int (fun _ _ => rfl)) (pa_cons (pe_fld (pe_fld (pv 0) rfl) rfl) pa_nil))))) pss_nil)
      (pss_cons (ps_if (pt_cmpR op_eq (pv 1) pe_int (nomark _))
        (pss_one (ps_ret (pe_meth (pv 0) T.c_Line T.m_Line_take_out (ok_Line_take_out T) (hr.mono (by decide)) T.b_Line_take_out .nil (passes_call (takes_of rfl rfl rfl rfl) (fun _ _ _ _ h => h)) (pa_cons (pe_ix ix_list (pv 2) pe_int (fun _ _ => rfl)) (pa_cons (pe_fld (pe_fld (pv 0) rfl) rfl) pa_nil))))) pss_nil)
      (pss_cons (ps_if (pt_cmpR op_eq (pv 1) pe_int (nomark _))
        (pss_one (ps_ret (pe_meth (pv 0) T.c_Line T.m_Line_set_state (ok_Line_set_state T) (hr.mono (by decide)) T.b_Line_set_state .nil (passes_call (takes_of rfl rfl rfl rfl) (fun _ _ _ _ h => h)) (pa_cons (pe_ix ix_list (pv 2) pe_int (fun _ _ => rfl)) pa_nil)))) pss_nil)
      (pss_cons (ps_if (pt_cmpR op_eq (pv 1) pe_int (nomark _))
        (pss_one (ps_ret (pe_lst (pa_cons (pe_fld (pe_fld (pv 0) rfl) rfl) pa_nil)))) pss_nil)
      (pss_cons (ps_if (pt_cmpR op_eq (pv 1) pe_int (nomark _))
        (pss_one (ps_ret (pe_meth (pv 0) T.c_Line T.m_Line_do_deed (ok_Line_do_deed T) (hr.mono (by decide)) T.b_Line_do_deed .nil (passes_call (takes_of rfl rfl rfl rfl) (fun _ _ _ _ h => h)) (pa_cons (pe_ix ix_list (pv 2) pe_int (fun _ _ => rfl)) pa_nil)))) pss_nil)
      (pss_cons (ps_if (pt_cmpR op_eq (pv 1) pe_int (nomark _))
        (pss_one (ps_ret (pe_meth (pv 0) T.c_Line T.m_Line_add_aim (ok_Line_add_aim T) (hr.mono (by decide)) T.b_Line_add_aim .nil (passes_call (takes_of rfl rfl rfl rfl) (fun _ _ _ _ h => h)) (pa_cons (pv 2) pa_nil)))) pss_nil)
      (pss_one (ps_ret (pe_meth (pv 0) T.c_Line T.m_Line_take_out (ok_Line_take_out T) (hr.mono (by decide)) T.b_Line_take_out .nil (passes_call (takes_of rfl rfl rfl rfl) (fun _ _ _ _ h => h)) (pa_cons (pe_ix ix_list (pv 2) pe_int (fun _ _ => rfl)) (pa_cons (pe_fld (pv 0) rfl) pa_nil))))))))))))), ?_⟩)
  obtain ⟨_, _, _, rfl, la, wa, da, ea, oa, na, D, n, ns, x, rfl, rfl, rfl, hl, hna, hx, k⟩ := h
  cases hx with
  | deed a b c e =>
    refine s_take rfl rfl (s_retM rfl hl.m (ea_cons (ev_var rfl) (ea_cons (ev_fld (ev_fld (ev_var rfl) (hl.world T)) (hl.wd.fdeeds T)) (ea_cons ev_c ea_nil))) fun us H1 s1 eu => ?_)
    cases eu
    exact add_deed (hl.keep s1) (s1 _ _ hna) (k.mono s1)
  | event a b c e =>
    refine s_skip rfl (by decide) (s_take rfl rfl (s_retM rfl hl.m (ea_cons (ev_var rfl) (ea_cons (ev_fld (ev_fld (ev_var rfl) (hl.world T)) (hl.wd.fevents T)) (ea_cons ev_c ea_nil))) fun us H1 s1 eu => ?_))
    cases eu
    exact add_event (hl.keep s1) (s1 _ _ hna) (k.mono s1)
  | undeed i =>
    refine s_skip rfl (by decide) (s_skip rfl (by decide) (s_take rfl rfl (s_retM rfl hl.m (ea_cons (ev_ixL (i := 0) (ev_var rfl) ev_c hna rfl) (ea_cons (ev_fld (ev_fld (ev_var rfl) (hl.world T)) (hl.wd.fdeeds T)) ea_nil)) fun us H1 s1 eu => ?_)))
    cases eu
    exact out_deed (hl.keep s1) (k.mono s1)
  | unevent i =>
    refine s_skip rfl (by decide) (s_skip rfl (by decide) (s_skip rfl (by decide) (s_take rfl rfl (s_retM rfl hl.m (ea_cons (ev_ixL (i := 0) (ev_var rfl) ev_c hna rfl) (ea_cons (ev_fld (ev_fld (ev_var rfl) (hl.world T)) (hl.wd.fevents T)) ea_nil)) fun us H1 s1 eu => ?_))))
    cases eu
    exact out_event (hl.keep s1) (k.mono s1)
  | set s =>
    refine s_skip rfl (by decide) (s_skip rfl (by decide) (s_skip rfl (by decide) (s_skip rfl (by decide) (s_take rfl rfl (s_retM rfl hl.m (ea_cons (ev_ixL (i := 0) (ev_var rfl) ev_c hna rfl) ea_nil) fun us H1 s1 eu => ?_)))))
    cases eu
    exact pl1 (hl.keep s1) (k.mono s1)
  | now =>
    rw [outX_now] at k
    refine s_skip rfl (by decide) (s_skip rfl (by decide) (s_skip rfl (by decide) (s_skip rfl (by decide) (s_skip rfl (by decide) (s_take rfl rfl (s_retN (l := [N D.world.now]) (ev_lstF (ea_cons (ev_fld (ev_fld (ev_var rfl) (hl.world T)) (hl.wd.fstate T)) ea_nil) (by simp)) fun q H1 s1 nq hq => ?_))))))
    exact k q H1 (fun a o _ _ _ _ e => s1 _ _ e) nq (hl.keep s1) hq
  | do_ i =>
    refine s_skip rfl (by decide) (s_skip rfl (by decide) (s_skip rfl (by decide) (s_skip rfl (by decide) (s_skip rfl (by decide) (s_skip rfl (by decide) (s_take rfl rfl (s_retM rfl hl.m (ea_cons (ev_ixL (i := 0) (ev_var rfl) ev_c hna rfl) ea_nil) fun us H1 s1 eu => ?_)))))))
    cases eu
    exact pl1 (hl.keep s1) (k.mono s1)
  | aim a w x k' =>
    refine s_skip rfl (by decide) (s_skip rfl (by decide) (s_skip rfl (by decide) (s_skip rfl (by decide) (s_skip rfl (by decide) (s_skip rfl (by decide) (s_skip rfl (by decide) (s_take rfl rfl (s_retM rfl hl.m (ea_cons (ev_var rfl) ea_nil) fun us H1 s1 eu => ?_))))))))
    cases eu
    exact ⟨_, _, rfl, la, wa, da, ea, oa, na, D, ⟨a, w, x, k'⟩, rfl, rfl, hl.keep s1, s1 _ _ hna, k.mono s1⟩
  | unaim i =>
    refine s_skip rfl (by decide) (s_skip rfl (by decide) (s_skip rfl (by decide) (s_skip rfl (by decide) (s_skip rfl (by decide) (s_skip rfl (by decide) (s_skip rfl (by decide) (s_skip rfl (by decide) (s_retM rfl hl.m (ea_cons (ev_ixL (i := 0) (ev_var rfl) ev_c hna rfl) (ea_cons (ev_fld (ev_var rfl) (hl.others T)) ea_nil)) fun us H1 s1 eu => ?_))))))))
    cases eu
    exact out_aim (hl.keep s1) (k.mono s1)
theorem sc_told_state : FnScope ["line", "call", "numbers"] ["line", "call", "numbers"] (defScope (top 41)) := ⟨rfl, rfl, rfl, by decide +kernel, rfl, by decide +kernel, by decide +kernel⟩
theorem ok_told_state (T : Txt K mg A) : FnOk P w K mg base (L2.CX P w) 8 A.f_told_state A.d_told_state ["line", "call", "numbers"] (sp_told_state K A) := by
  refine T.F_told_state.okX sc_told_state (fun vs H Q E h => sp3_len h) (fun cdv Ar outer s H vs Q E hr h => ⟨_,
      (pss_cons (ps_if (pt_cmpR op_eq (pv 1) pe_int (nomark _))
        (pss_one (ps_ret (pe_meth (pv 0) T.c_Line T.m_Line_told_aim (ok_Line_told_aim T) (hr.mono (by decide)) T.b_Line_told_aim .nil (passes_call (takes_of rfl rfl rfl rfl) (fun _ _ _ _ h => h)) (pa_cons (pe_ix ix_list (pv 2) pe_int (fun _ _ => rfl)) pa_nil)))) pss_nil)
      (pss_cons (ps_if (pt_cmpR op_eq (pv 1) pe_int (nomark _))
        (pss_one (ps_ret (pe_meth (pv 0) T.c_Line T.m_Line_open_at (ok_Line_open_at T) (hr.mono (by decide)) T.b_Line_open_at .nil (passes_call (takes_of rfl rfl rfl rfl) (fun _ _ _ _ h => h)) (pa_cons (pe_fld (pe_fld (pv 0) rfl) rfl) pa_nil)))) pss_nil)
      (pss_cons (ps_if (pt_cmpR op_eq (pv 1) pe_int (nomark _))
        (pss_one (ps_ret (pe_meth (pv 0) T.c_Line T.m_Line_open_at (ok_Line_open_at T) (hr.mono (by decide)) T.b_Line_open_at .nil (passes_call (takes_of rfl rfl rfl rfl) (fun _ _ _ _ h => h)) (pa_cons (pe_ix ix_list (pv 2) pe_int (fun _ _ => rfl)) pa_nil)))) pss_nil)
      (pss_cons (ps_if (pt_cmpR op_eq (pv 1) pe_int (nomark _))
        (pss_one (ps_ret (pe_meth (pv 0) T.c_Line T.m_Line_keeps (ok_Line_keeps T) (hr.mono (by decide)) T.b_Line_keeps .nil (passes_call (takes_of rfl rfl rfl rfl) (fun _ _ _ _ h => h)) (pa_cons (pe_ix ix_list (pv 2) pe_int (fun _ _ => rfl)) pa_nil)))) pss_nil)
      (pss_one (ps_ret (pe_meth (pv 0) T.c_Line T.m_Line_costs (ok_Line_costs T) (hr.mono (by decide)) T.b_Line_costs .nil (passes_call (takes_of rfl rfl rfl rfl) (fun _ _ _ _ h => h)) (pa_cons (pe_ix ix_list (pv 2) pe_int (fun _ _ => rfl)) pa_nil)))))))), ?_⟩)
  obtain ⟨_, _, _, rfl, la, wa, da, ea, oa, na, D, n, ns, x, rfl, rfl, rfl, hl, hna, hx, k⟩ := h
  cases hx with
  | aimIs i =>
    refine s_take rfl rfl (s_retM rfl hl.m (ea_cons (ev_ixL (i := 0) (ev_var rfl) ev_c hna rfl) ea_nil) fun us H1 s1 eu => ?_)
    cases eu
    exact pl1 (hl.keep s1) (k.mono s1)
  | open_ =>
    refine s_skip rfl (by decide) (s_take rfl rfl (s_retM rfl hl.m (ea_cons (ev_fld (ev_fld (ev_var rfl) (hl.world T)) (hl.wd.fstate T)) ea_nil) fun us H1 s1 eu => ?_))
    cases eu
    refine pl1 (hl.keep s1) ?_
    rw [outX_open_ok hl.ok.w.now]
    rw [outX_open] at k
    exact k.mono s1
  | openAt s =>
    refine s_skip rfl (by decide) (s_skip rfl (by decide) (s_take rfl rfl (s_retM rfl hl.m (ea_cons (ev_ixL (i := 0) (ev_var rfl) ev_c hna rfl) ea_nil) fun us H1 s1 eu => ?_)))
    cases eu
    exact pl1 (hl.keep s1) (k.mono s1)
  | keeps s =>
    refine s_skip rfl (by decide) (s_skip rfl (by decide) (s_skip rfl (by decide) (s_take rfl rfl (s_retM rfl hl.m (ea_cons (ev_ixL (i := 0) (ev_var rfl) ev_c hna rfl) ea_nil) fun us H1 s1 eu => ?_))))
    cases eu
    exact pl1 (hl.keep s1) (k.mono s1)
  | costs i =>
    refine s_skip rfl (by decide) (s_skip rfl (by decide) (s_skip rfl (by decide) (s_skip rfl (by decide) (s_retM rfl hl.m (ea_cons (ev_ixL (i := 0) (ev_var rfl) ev_c hna rfl) ea_nil) fun us H1 s1 eu => ?_))))
    cases eu
    exact pl1 (hl.keep s1) (k.mono s1)
theorem sc_told_row : FnScope ["line", "call", "numbers"] ["line", "call", "numbers"] (defScope (top 42)) := ⟨rfl, rfl, rfl, by decide +kernel, rfl, by decide +kernel, by decide +kernel⟩
theorem ok_told_row (T : Txt K mg A) : FnOk P w K mg base (L2.CX P w) 10 A.f_told_row A.d_told_row ["line", "call", "numbers"] (sp_told_row K A) := by
  refine T.F_told_row.okX sc_told_row (fun vs H Q E h => sp3_len h) (fun cdv Ar outer s H vs Q E hr h => ⟨_,
      (pss_cons (ps_if (pt_cmpR op_eq (pv 1) pe_int (nomark _))
        (pss_one (ps_ret (pe_callTy call_list_of (by rfl) T.list (by decide +kernel) (pa_cons (pe_slice sl_tup (pe_meth (pv 0) T.c_Line T.m_Line_least (ok_Line_least T) (hr.mono (by decide)) T.b_Line_least .nil (passes_call (takes_of rfl rfl rfl rfl) (fun _ _ _ _ h => h)) (pa_cons (pv 2) pa_nil)) po_none (po_some pe_int)) pa_nil)))) pss_nil)
      (pss_cons (ps_if (pt_cmpR op_eq (pv 1) pe_int (nomark _))
        (pss_one (ps_ret (pe_call (ok_counted T) (hr.mono (by decide)) rfl T.g_counted T.F_counted.kp T.b_counted .nil pass0 (pa_cons (pe_ix ix_tup (pe_meth (pv 0) T.c_Line T.m_Line_least (ok_Line_least T) (hr.mono (by decide)) T.b_Line_least .nil (passes_call (takes_of rfl rfl rfl rfl) (fun _ _ _ _ h => h)) (pa_cons (pv 2) pa_nil)) pe_int (fun _ _ => rfl)) pa_nil)))) pss_nil)
      (pss_cons (ps_if (pt_cmpR op_eq (pv 1) pe_int (nomark _))
        (pss_one (ps_ret (pe_callTy call_list_of (by rfl) T.list (by decide +kernel) (pa_cons (pe_slice sl_tup (pe_meth (pv 0) T.c_Line T.m_Line_most (ok_Line_most T) (hr.mono (by decide)) T.b_Line_most .nil (passes_call (takes_of rfl rfl rfl rfl) (fun _ _ _ _ h => h)) (pa_cons (pv 2) pa_nil)) po_none (po_some pe_int)) pa_nil)))) pss_nil)
      (pss_cons (ps_if (pt_cmpR op_eq (pv 1) pe_int (nomark _))
        (pss_one (ps_ret (pe_call (ok_counted T) (hr.mono (by decide)) rfl T.g_counted T.F_counted.kp T.b_counted .nil pass0 (pa_cons (pe_ix ix_tup (pe_meth (pv 0) T.c_Line T.m_Line_most (ok_Line_most T) (hr.mono (by decide)) T.b_Line_most .nil (passes_call (takes_of rfl rfl rfl rfl) (fun _ _ _ _ h => h)) (pa_cons (pv 2) pa_nil)) pe_int (fun _ _ => rfl)) pa_nil)))) pss_nil)
      (pss_cons (ps_if (pt_cmpR op_eq (pv 1) pe_int (nomark _))
        (pss_one (ps_ret (pe_meth (pv 0) T.c_Line T.m_Line_tidy (ok_Line_tidy T) (hr.mono (by decide)) T.b_Line_tidy .nil (passes_call (takes_of rfl rfl rfl rfl) (fun _ _ _ _ h => h)) (pa_cons (pv 2) pa_nil)))) pss_nil)
      (pss_cons (ps_if (pt_cmpR op_eq (pv 1) pe_int (nomark _))
        (pss_one (ps_ret (pe_meth0 (pv 0) T.c_Line T.m_Line_harmless (ok_Line_harmless T) (hr.mono (by decide)) T.b_Line_harmless .nil pass0))) pss_nil)
      (pss_one (ps_ret (pe_meth (pv 0) T.c_Line T.m_Line_last_chance (ok_Line_last_chance T) (hr.mono (by decide)) T.b_Line_last_chance .nil (passes_call (takes_of rfl rfl rfl rfl) (fun _ _ _ _ h => h)) (pa_cons (pe_ix ix_list (pv 2) pe_int (fun _ _ => rfl)) pa_nil)))))))))), ?_⟩)
  obtain ⟨_, _, _, rfl, la, wa, da, ea, oa, na, D, n, ns, x, rfl, rfl, rfl, hl, hna, hx, k⟩ := h
  cases hx with
  | least f v m =>
    refine s_take rfl rfl ?_
    refine s_ret (R := Same) (Same.refl _) (ev_first2 (C := fun x y z => Kp373.okAsk D f v m = true ∧ ∃ l j : Nat, x = N l ∧ y = N j ∧ Kp373.least D f v m = some (l, j)) ((ev_least rfl rfl hl hna (fun h => by rw [outX_least_no h] at k; exact k) (fun h h' => by rw [outX_least_un h h'] at k; exact k)).imp fun u H1 s1 ⟨ok, e, t, hm, eu, q, ht, hq⟩ => ?_)) (fun u H1 s1 pu => ?_)
    · obtain ⟨l, hl', h1, h2⟩ := KpM.least_is hl.ok.w hm
      exact ⟨t, _, _, _, ⟨ok, l, _, congrArg V.int hl', rfl, h1⟩, eu, ht⟩
    · obtain ⟨q, x, y, z, ⟨ok, l, j, rfl, rfl, hm⟩, rfl, nq, hq⟩ := pu
      rw [outX_least_ok ok hm] at k
      exact k q H1 (fun a o _ _ _ _ e => s1 _ _ e) nq (hl.keep s1) hq
  | leastRow f v m =>
    refine s_skip rfl (by decide) (s_take rfl rfl ?_)
    refine s_ret (R := Same) (Same.refl _) (ev_countC (C := fun row => Kp373.okAsk D f v m = true ∧ Kp373.leastRow D f v m = some row ∧ row.length ≤ 1000) (fun row h => h.2.2) (ev_third ((ev_least rfl rfl hl hna (fun h => by rw [outX_leastRow_no h] at k; exact k) (fun h h' => by rw [outX_leastRow_un h h'] at k; exact k)).imp fun u H1 s1 ⟨ok, e, t, hm, eu, q, ht, hq⟩ => ?_))) (fun u H1 s1 pu => ?_)
    · obtain ⟨l, hl', h1, h2⟩ := KpM.least_is hl.ok.w hm
      obtain ⟨x, h3, h4, _⟩ := KpM.mem_lossEnds.mp hm.mem
      have h5 := (rows_fine hl.ok.w _ _ h4).2
      have h6 := okAsk_of ok
      dsimp only at h5
      exact ⟨t, _, _, q, e.2.2, ⟨ok, h2, by omega⟩, eu, ht, hq⟩
    · obtain ⟨q, row, ⟨ok, hm, _⟩, rfl, nq, hq⟩ := pu
      rw [outX_leastRow_ok ok hm] at k
      refine k q H1 (fun a o _ _ _ _ e => s1 _ _ e) nq (hl.keep s1) ?_
      rw [hq, List.map_cons, ns_ints]
  | most f v m =>
    refine s_skip rfl (by decide) (s_skip rfl (by decide) (s_take rfl rfl ?_))
    refine s_ret (R := Same) (Same.refl _) (ev_first2 (C := fun x y z => Kp373.okAsk D f v m = true ∧ ∃ l j : Nat, x = N l ∧ y = N j ∧ Kp373.most D f v m = some (l, j)) ((ev_most rfl rfl hl hna (fun h => by rw [outX_most_no h] at k; exact k) (fun h h' => by rw [outX_most_un h h'] at k; exact k)).imp fun u H1 s1 ⟨ok, e, t, hm, eu, q, ht, hq⟩ => ?_)) (fun u H1 s1 pu => ?_)
    · obtain ⟨l, hl', h1, h2⟩ := KpM.most_is hl.ok.w hm
      exact ⟨t, _, _, _, ⟨ok, l, _, congrArg V.int hl', rfl, h1⟩, eu, ht⟩
    · obtain ⟨q, x, y, z, ⟨ok, l, j, rfl, rfl, hm⟩, rfl, nq, hq⟩ := pu
      rw [outX_most_ok ok hm] at k
      exact k q H1 (fun a o _ _ _ _ e => s1 _ _ e) nq (hl.keep s1) hq
  | mostRow f v m =>
    refine s_skip rfl (by decide) (s_skip rfl (by decide) (s_skip rfl (by decide) (s_take rfl rfl ?_)))
    refine s_ret (R := Same) (Same.refl _) (ev_countC (C := fun row => Kp373.okAsk D f v m = true ∧ Kp373.mostRow D f v m = some row ∧ row.length ≤ 1000) (fun row h => h.2.2) (ev_third ((ev_most rfl rfl hl hna (fun h => by rw [outX_mostRow_no h] at k; exact k) (fun h h' => by rw [outX_mostRow_un h h'] at k; exact k)).imp fun u H1 s1 ⟨ok, e, t, hm, eu, q, ht, hq⟩ => ?_))) (fun u H1 s1 pu => ?_)
    · obtain ⟨l, hl', h1, h2⟩ := KpM.most_is hl.ok.w hm
      obtain ⟨x, h3, h4, _⟩ := KpM.mem_keptEnds.mp hm.mem
      have h5 := (rows_fine hl.ok.w _ _ h4).2
      have h6 := okAsk_of ok
      dsimp only at h5
      exact ⟨t, _, _, q, e.2.2, ⟨ok, h2, by omega⟩, eu, ht, hq⟩
    · obtain ⟨q, row, ⟨ok, hm, _⟩, rfl, nq, hq⟩ := pu
      rw [outX_mostRow_ok ok hm] at k
      refine k q H1 (fun a o _ _ _ _ e => s1 _ _ e) nq (hl.keep s1) ?_
      rw [hq, List.map_cons, ns_ints]
  | tidy f v m =>
    refine s_skip rfl (by decide) (s_skip rfl (by decide) (s_skip rfl (by decide) (s_skip rfl (by decide) (s_take rfl rfl (s_retM rfl hl.m (ea_cons (ev_var rfl) ea_nil) fun us H1 s1 eu => ?_)))))
    cases eu
    exact ⟨_, _, rfl, la, wa, da, ea, oa, na, D, f, v, m, rfl, rfl, hl.keep s1, s1 _ _ hna, k.mono s1⟩
  | harmless =>
    refine s_skip rfl (by decide) (s_skip rfl (by decide) (s_skip rfl (by decide) (s_skip rfl (by decide) (s_skip rfl (by decide) (s_take rfl rfl (s_retM rfl hl.m ea_nil fun us H1 s1 eu => ?_))))))
    cases eu
    refine ⟨_, rfl, la, wa, da, ea, oa, D, rfl, hl.keep s1, ?_⟩
    have k1 := k.mono s1
    rw [outX_harmless] at k1 ⊢
    exact k1
  | lastChance m =>
    refine s_skip rfl (by decide) (s_skip rfl (by decide) (s_skip rfl (by decide) (s_skip rfl (by decide) (s_skip rfl (by decide) (s_skip rfl (by decide) (s_retM rfl hl.m (ea_cons (ev_ixL (i := 0) (ev_var rfl) ev_c hna rfl) ea_nil) fun us H1 s1 eu => ?_))))))
    cases eu
    exact pl1 (hl.keep s1) (k.mono s1)
theorem sc_answered : FnScope ["line", "call", "numbers"] ["line", "call", "numbers"] (defScope (top 43)) := ⟨rfl, rfl, rfl, by decide +kernel, rfl, by decide +kernel, by decide +kernel⟩
theorem ok_answered (T : Txt K mg A) : FnOk P w K mg base (L2.CX P w) 11 A.f_answered A.d_answered ["line", "call", "numbers"] (sp_answered K A) := by
  refine T.F_answered.okX sc_answered (fun vs H Q E h => sp3_len h) (fun cdv Ar outer s H vs Q E hr h => ⟨_,
      (pss_cons (ps_if (pt_cmpR op_lt (pv 1) pe_int (nomark _))
        (pss_one (ps_ret (pe_call (ok_told_deed T) (hr.mono (by decide)) rfl T.g_told_deed T.F_told_deed.kp T.b_told_deed .nil (passes_call (takes_of rfl rfl rfl rfl) (fun _ _ _ _ h => h)) (pa_cons (pv 0) (pa_cons (pv 1) (pa_cons (pv 2) pa_nil)))))) pss_nil)
      (pss_cons (ps_if (pt_cmpR op_lt (pv 1) pe_int (nomark _))
        (pss_one (ps_ret (pe_call (ok_told_state T) (hr.mono (by decide)) rfl T.g_told_state T.F_told_state.kp T.b_told_state .nil (passes_call (takes_of rfl rfl rfl rfl) (fun _ _ _ _ h => h)) (pa_cons (pv 0) (pa_cons (pv 1) (pa_cons (pv 2) pa_nil)))))) pss_nil)
      (pss_one (ps_ret (pe_call (ok_told_row T) (hr.mono (by decide)) rfl T.g_told_row T.F_told_row.kp T.b_told_row .nil (passes_call (takes_of rfl rfl rfl rfl) (fun _ _ _ _ h => h)) (pa_cons (pv 0) (pa_cons (pv 1) (pa_cons (pv 2) pa_nil)))))))), ?_⟩)
  obtain ⟨_, _, _, rfl, la, wa, da, ea, oa, na, D, n, ns, x, rfl, rfl, rfl, hl, hna, hx, k⟩ := h
  have ea3 : ∀ {H1 : Hp}, EvA Same (tCons (tVar 0) (tCons (tVar 1) (tCons (tVar 2) tNil))) (L2.start ["line", "call", "numbers"] [.ref la, N n, .ref na]) H1 (IsA [.ref la, N n, .ref na]) := ea_cons (ev_var rfl) (ea_cons (ev_var rfl) (ea_cons (ev_var rfl) ea_nil))
  have go : ∀ {C : Nat → List Nat → Kp373.Call → Prop} {H1 : Hp}, C n ns x → Same H H1 → Sp3 (PC A C) [.ref la, N n, .ref na] H1 Q E := fun {C H1} hc s1 => ⟨_, _, _, rfl, la, wa, da, ea, oa, na, D, n, ns, x, rfl, rfl, rfl, hl.keep s1, s1 _ _ hna, hc, k.mono s1⟩
  refine s_if (R := Same) (b := decide (n < 10)) (Same.refl _) (et_test ((ev_I0 (ev_var rfl) ev_c).is (congrArg V.bl (decide_eq_decide.mpr (by omega))))) (fun hb H1 s1 => ?_) (fun hb H1 s1 => ?_)
  · have hn := of_decide_eq_true hb
    rcases hx with hx | hx | hx
    · refine s_retC ea3 fun us H2 s2 eu => ?_
      cases eu
      exact go hx (s1.trans s2)
    · exfalso
      cases hx <;> omega
    · exfalso
      cases hx <;> omega
  · have hn := of_decide_eq_false hb
    refine s_if (R := Same) (b := decide (n < 15)) (Same.refl _) (et_test ((ev_I0 (ev_var rfl) ev_c).is (congrArg V.bl (decide_eq_decide.mpr (by omega))))) (fun hb2 H2 s2 => ?_) (fun hb2 H2 s2 => ?_)
    · have hn2 := of_decide_eq_true hb2
      rcases hx with hx | hx | hx
      · exfalso
        cases hx <;> omega
      · refine s_retC ea3 fun us H3 s3 eu => ?_
        cases eu
        exact go hx ((s1.trans s2).trans s3)
      · exfalso
        cases hx <;> omega
    · have hn2 := of_decide_eq_false hb2
      rcases hx with hx | hx | hx
      · exfalso
        cases hx <;> omega
      · exfalso
        cases hx <;> omega
      · refine s_retC ea3 fun us H3 s3 eu => ?_
        cases eu
        exact go hx ((s1.trans s2).trans s3)
theorem sc_begun : FnScope ["numbers"] ["numbers"] (defScope (top 44)) := ⟨rfl, rfl, rfl, by decide +kernel, rfl, by decide +kernel, by decide +kernel⟩
theorem ok_begun (T : Txt K mg A) : FnOk P w K mg base (L2.CX P w) 5 A.f_begun A.d_begun ["numbers"] (sp_begun K A) := by
  refine T.F_begun.okX sc_begun (fun vs H Q E h => sp1_len h) (fun cdv Ar outer s H vs Q E hr h => ⟨_,
      (pss_cons (ps_expr (pe_call (ok_refuse_if T) (hr.mono (by decide)) rfl T.g_refuse_if T.F_refuse_if.kp T.b_refuse_if .nil (passes_call (takes_of rfl rfl rfl rfl) (fun _ _ _ _ h => h)) (pa_cons (pe_or (pe_cmpR op_lt (pe_ix ix_list (pv 0) pe_int (fun _ _ => rfl)) (pe_gint rfl T.g_LEAST_FACTS) (nomark _)) (pe_one (pe_cmpR op_gt (pe_ix ix_list (pv 0) pe_int (fun _ _ => rfl)) (pe_gint rfl T.g_MOST_FACTS) (nomark _)))) (pa_cons (pe_gint rfl T.g_OUT_OF_RANGE) pa_nil))))
      (pss_one (ps_ret (pe_make T.mk_Line (ok_Line_init T) (hr.mono (by decide)) rfl T.gC_Line T.b_Line_init .nil pass0 (pa_cons (pe_ix ix_list (pv 0) pe_int (fun _ _ => rfl)) pa_nil))))), ?_⟩)
  obtain ⟨_, rfl, na, m, rfl, hna, k1, k2⟩ := h
  have ix : ∀ {H1 : Hp}, Same H H1 → Ev Same (tOp (rIxL K) (tVar 0) (tC (.int 0))) (L2.start ["numbers"] [.ref na]) H1 (Is (N m)) := fun s1 => ev_ixL (i := 0) (ev_var rfl) ev_c (s1 _ _ hna) rfl
  refine s_refuse (b := decide (m < 2) || decide (5 < m)) (ev_or ((ev_I0 (ix (Same.refl _)) ev_c).is (congrArg V.bl (decide_eq_decide.mpr (by omega)))) (fun _ => (ev_I0 (ix (Same.refl _)) ev_c).is (congrArg V.bl (decide_eq_decide.mpr (by omega))))) (fun hb => k1 (by simpa using hb)) (fun hb H1 s1 => ?_)
  have hm : ¬ (m < 2 ∨ 5 < m) := by
    rw [Bool.or_eq_false_iff] at hb
    have h1 := of_decide_eq_false hb.1
    have h2 := of_decide_eq_false hb.2
    omega
  refine s_ret (R := Same) (P := fun v H' => ∃ la wa da ea oa, v = .ref la ∧ LineAt A H' la wa da ea oa ⟨⟨m, [], [], 0⟩, []⟩ ∧ H1 wa = none ∧ H1 da = none ∧ H1 ea = none ∧ H1 oa = none) (Same.refl _) (ev_make (ea_cons (ix s1) ea_nil) fun vs H2 x dx s2 ev nx nd ne Q' E' q => ?_) (fun u H2 s2 pu => ?_)
  · cases ev
    exact ⟨_, _, rfl, x, dx, m, rfl, rfl, by omega, by omega, upd_same, fun H3 wa da ea oa hl n1 n2 n3 n4 kp => q H3 (make_same nx nd kp) ⟨x, wa, da, ea, oa, rfl, hl, s2.free (make_none n1), s2.free (make_none n2), s2.free (make_none n3), s2.free (make_none n4)⟩⟩
  · obtain ⟨la, wa, da, ea, oa, rfl, hl, n1, n2, n3, n4⟩ := pu
    exact k2 hm la wa da ea oa H2 (s1.trans s2) hl (s1.free n1) (s1.free n2) (s1.free n3) (s1.free n4)
end
end Kw
set_option maxRecDepth 100000
set_option maxHeartbeats 400000
namespace Kw
open PySem PySem.Spec PyProof.Rows L2
theorem sl1 : 1 ≤ sizeLine := by decide
theorem sl2 : 2 ≤ sizeLine := by decide
/-- how the line stands: none yet; its parts' places -/
def StAt (A : Ad) (H : Hp) (v : V) (fp : List Addr) (st : Option Kp373.Desk) : Prop := match st with
  | none => v = .non ∧ fp = []
  | some D => ∃ la wa da ea oa, v = .ref la ∧ fp = [wa, da, ea, oa] ∧ LineAt A H la wa da ea oa D
inductive CB : Nat → List Nat → Kp373.Call → Prop
  | begin_ (m : Nat) : CB 0 [m] (.begin_ m)
  | call {n : Nat} {ns : List Nat} {x : Kp373.Call} (h : CA n ns x) : CB n ns x
def sp_told_by (K : PySem.W.Frag) (A : Ad) : Sp := Sp3 fun v c m H Q E => ∃ (fp : List Addr) (st : Option Kp373.Desk) (n na : Nat) (ns : List Nat) (x : Kp373.Call), StAt A H v fp st ∧ c = N n ∧ m = .ref na ∧ H na = some (.lst (Ns ns)) ∧ CB n ns x ∧
  ∀ t p v' fp' H', (∀ a o, a ∉ fp → H a = some o → H' a = some o) → H p = none → H' t = some (.tup [v', .ref p]) → H' p = some (.lst (((Kp373.step st x).2.num :: (Kp373.step st x).2.nums).map V.int)) → StAt A H' v' fp' (Kp373.step st x).1 → (∀ a ∈ fp', a ∈ fp ∨ H a = none) → Q (.ref t) H'
theorem CA.pos {n : Nat} {ns : List Nat} {x : Kp373.Call} (h : CA n ns x) : 1 ≤ n ∧ ∀ m, x ≠ .begin_ m := by
  rcases h with h | h | h <;> cases h <;> exact ⟨by omega, fun m z => by cases z⟩
theorem step_none {x : Kp373.Call} (hx : ∀ m, x ≠ .begin_ m) : Kp373.step none x = (none, Kp373.say (-11)) := by
  cases x with
  | begin_ m => exact absurd rfl (hx m)
  | _ => rfl
section
variable {K : PySem.W.Frag} {mg : Str → Option Value} {A : Ad} {σ : L2.St} {H : Hp} {Dn : Ends} {te : TE}
theorem s_refuseS {b : Bool} {n : Int} {Eσ : L2.St → XK} (h : Ev Same te σ H (Is (.bl b))) (hz : b = true → Rz A H (Eσ σ) n) (k : b = false → ∀ H1, Same H H1 → Dn.nx σ H1) : tDrop (tCallS (sp_refuse_if K A) Eσ (tCons te (tCons (tC (.int n)) tNil))) Dn σ H :=
  h H (Same.refl _) _ fun u H1 s1 eu => by
    cases eu
    exact ⟨_, _, rfl, b, n, rfl, rfl, fun hb => (hz hb).mono s1, fun hb H2 s2 => k hb H2 (s1.trans s2)⟩
/-- what the suite of «except Refused as e» does -/
theorem rz_suite (T : Txt K mg A) {v : V} {n : Int} (h0 : σ[0]? = some (some v)) (h3 : 3 < σ.length)
    (k : ∀ t p H', Same H H' → H p = none → H' t = some (.tup [v, .ref p]) → H' p = some (.lst [.int n]) → Dn.rt (.ref t) H') :
    Rz A H (WE (wAs K (.ref A.CRefused) 3 (fun a cls d => tRet (tTup (tCons (tVar 0) (tCons (tLst (tCons (tXf a cls d A.CRefused "number" (tVar 3)) tNil)) tNil)))) (fun _ _ _ _ => False) Dn) σ) n := by
  intro d H1 s1 hd
  refine ⟨true, T.eR, fun _ a na => ?_, fun h => by cases h⟩
  have e0 : (σ.set 3 (some (.ref a)))[0]? = some (some v) := by
    rw [List.getElem?_set_ne (by decide)]
    exact h0
  have e3 : (σ.set 3 (some (.ref a)))[3]? = some (some (.ref a)) := List.getElem?_set_self h3
  refine s_ret (R := Same) (P := fun u H' => ∃ t q, u = .ref t ∧ H1 q = none ∧ H' t = some (.tup [v, .ref q]) ∧ H' q = some (.lst [.int n])) (Same.refl _) (ev_tup (PA := fun vs H' => ∃ q, vs = [v, .ref q] ∧ H1 q = none ∧ H' q = some (.lst [.int n])) ?_ (fun vs H2 ⟨q, e, _⟩ => by rw [e]; exact (show 2 ≤ 100 by decide)) (fun vs H2 p ⟨q, e, nq, hq⟩ np => ⟨p, q, rfl, nq, by rw [upd_same, e], by rw [upd_ne (ne_of_none hq np)]; exact hq⟩)) (fun u H2 s2 pu => ?_)
  · refine ea_consN (P := Is v) (ev_var e0) fun x H2 s2 ex => ea_consN (P := NewL H2 [.int n]) (ev_lstF (ea_cons ?_ ea_nil) (by simp)) fun y H3 s3 py => ?_
    · exact fun H3 s3 Q q => ⟨_, e3, rfl, rfl, d, _, _, rfl, s3 _ _ (s2 _ _ hd), lk_here, q _ H3 (Same.refl _) rfl⟩
    · obtain ⟨q, ey, nq, hq⟩ := py
      intro H4 s4 Q q'
      exact q' _ H4 (Same.refl _) ⟨q, by rw [ex, ey], s2.free nq, s4 _ _ hq⟩
  · obtain ⟨t, q, rfl, nq, ht, hq⟩ := pu
    exact k t q H2 (s1.trans s2) (s1.free nq) ht hq
end
section
variable {P : Program} {w : World} {K : PySem.W.Frag} {mg : Str → Option Value} {base : Heap} {A : Ad}
theorem sc_told_by : FnScope ["line", "call", "numbers", "e"] ["line", "call", "numbers"] (defScope (top 45)) := ⟨rfl, rfl, rfl, by decide +kernel, rfl, by decide +kernel, by decide +kernel⟩
theorem ok_told_by (T : Txt K mg A) : FnOk P w K mg base CX0 12 A.f_told_by A.d_told_by ["line", "call", "numbers"] (sp_told_by K A) := by
  refine T.F_told_by.ok sc_told_by (fun vs H Q E h => sp3_len h) (fun cdv Ar outer s H vs Q E hr h => ⟨_,
      (pss_one (ps_try_as (i := 3) rfl rfl sc_told_by.nd rfl rfl ⟨rfl, by decide, .inl T.gC_Refused⟩ takes0 (fun W pn xe tk _ =>
      (pss_cons (ps_if (pt_cmpR op_eq (pv 1) (pe_gint rfl T.g_BEGIN) (nomark _))
        (pss_one (ps_ret (pe_tup (pa_cons (pe_callS (ok_begun T) (hr.mono (by decide)) rfl T.g_begun T.F_begun.kp T.b_begun (fun σ => passAt tk σ) (pa_cons (pv 2) pa_nil)) (pa_cons (pe_lst (pa_cons pe_int pa_nil)) pa_nil))))) pss_nil)
      (pss_cons (ps_expr (pe_callS (ok_refuse_if T) (hr.mono (by decide)) rfl T.g_refuse_if T.F_refuse_if.kp T.b_refuse_if (fun σ => passAt tk σ) (pa_cons (pe_cmpR op_isN (pv 0) pe_non (nomark _)) (pa_cons (pe_gint rfl T.g_NOT_BEGUN) pa_nil))))
      (pss_one (ps_ret (pe_tup (pa_cons (pv 0) (pa_cons (pe_callS (ok_answered T) (hr.mono (by decide)) rfl T.g_answered T.F_answered.kp T.b_answered (fun σ => passAt tk σ) (pa_cons (pv 0) (pa_cons (pv 1) (pa_cons (pv 2) pa_nil)))) pa_nil))))))))
      (fun a oe cls d pn hz hf => (pss_one (ps_ret (pe_tup (pa_cons (pv 0) (pa_cons (pe_lst (pa_cons (pe_xf T.xf T.nR_number hz hf (pv 3)) pa_nil)) pa_nil)))))))), ?_⟩)
  obtain ⟨_, _, _, rfl, fp, st, n, na, ns, x, hst, rfl, rfl, hna, hx, k⟩ := h
  rename_i v
  cases hx with
  | begin_ m =>
    refine s_take rfl rfl ?_
    refine ⟨_, rfl, ?_⟩
    refine ⟨_, rfl, na, m, rfl, hna, fun bad => rz_suite T rfl (show 3 < 4 by decide) fun t p H' s np ht hp => ?_, fun good la wa da ea oa H' s hl n1 n2 n3 n4 => ⟨sl1, fun p np => ⟨sl2, fun t nt => ?_⟩⟩⟩
    · have e : Kp373.step st (.begin_ m) = (st, Kp373.say (-22)) := by
        cases st <;> simp only [Kp373.step, if_pos bad]
      refine k t p v fp H' (fun a o _ e => s _ _ e) np ht ?_ ?_ (fun a ha => .inl ha)
      · rw [hp, e]
        rfl
      · rw [e]
        cases st with
        | none => exact hst
        | some D =>
          obtain ⟨la, wa, da, ea, oa, h1, h2, h3⟩ := hst
          exact ⟨la, wa, da, ea, oa, h1, h2, h3.keep s⟩
    · have e : Kp373.step st (.begin_ m) = (some ⟨⟨m, [], [], 0⟩, []⟩, Kp373.say 0) := by
        cases st <;> simp only [Kp373.step, if_neg good]
      have sp : Same H' (upd H' p (.lst [.int 0])) := same_upd np
      have s2 : Same H' (upd (upd H' p (.lst [.int 0])) t (.tup [.ref la, .ref p])) := sp.trans (same_upd nt)
      have tp : t ≠ p := fun z => by
        rw [z, upd_same] at nt
        cases nt
      refine k t p (.ref la) [wa, da, ea, oa] _ (fun a o _ e => s2 _ _ (s _ _ e)) (s.free np) upd_same ?_ ?_ (fun a ha => .inr ?_)
      · rw [upd_ne tp.symm, upd_same, e]
        rfl
      · rw [e]
        exact ⟨la, wa, da, ea, oa, rfl, rfl, hl.keep s2⟩
      · rcases List.mem_cons.mp ha with z | ha
        · rw [z]
          exact n1
        · rcases List.mem_cons.mp ha with z | ha
          · rw [z]
            exact n2
          · rcases List.mem_cons.mp ha with z | ha
            · rw [z]
              exact n3
            · rcases List.mem_cons.mp ha with z | ha
              · rw [z]
                exact n4
              · cases ha
  | call hca =>
    obtain ⟨npos, xb⟩ := hca.pos
    refine s_skip rfl (by omega) ?_
    cases st with
    | none =>
      obtain ⟨rfl, rfl⟩ := hst
      refine s_refuseS (ev_isN (ev_var rfl)) (fun _ => rz_suite T rfl (show 3 < 4 by decide) fun t p H' s np ht hp => ?_) (fun hb => by cases hb)
      have e := step_none xb
      refine k t p .non [] H' (fun a o _ e => s _ _ e) np ht ?_ ?_ (fun a ha => .inl ha)
      · rw [hp, e]
        rfl
      · rw [e]
        exact ⟨rfl, rfl⟩
    | some D =>
      obtain ⟨la, wa, da, ea, oa, rfl, rfl, hl⟩ := hst
      refine s_refuseS (ev_isN (ev_var rfl)) (fun hb => by cases hb) (fun _ H1 s1 => ?_)
      obtain ⟨D', a, hs⟩ := KpM.step_some (D := D) xb
      rw [hs] at k
      have hl1 := hl.keep s1
      refine ⟨_, rfl, _, rfl, _, rfl, _, rfl, ?_⟩
      refine ⟨_, _, _, rfl, la, wa, da, ea, oa, na, D, n, ns, x, rfl, rfl, rfl, hl1, s1 _ _ hna, hca, ?_⟩
      unfold outX
      rw [hs]
      by_cases hn : a.num < 0
      · obtain ⟨rfl, hnil⟩ := KpM.step_neg xb hs hn
        show LDo A H1 la wa da ea oa (if a.num < 0 then .no a.num else .ok D' (a.num :: a.nums)) _ _
        rw [if_pos hn]
        refine rz_suite T rfl (show 3 < 4 by decide) fun t p H' s np ht hp => ?_
        have s' := s1.trans s
        refine k t p (.ref la) [wa, da, ea, oa] H' (fun a o _ e => s' _ _ e) (s1.free np) ht ?_ ⟨la, wa, da, ea, oa, rfl, rfl, hl.keep s'⟩ (fun a ha => .inl ha)
        rw [hp, hnil]
        rfl
      · show LDo A H1 la wa da ea oa (if a.num < 0 then .no a.num else .ok D' (a.num :: a.nums)) _ _
        rw [if_neg hn]
        intro p H' fk np hl' hp
        refine ⟨sl2, fun t nt => ?_⟩
        have sp : Same H' (upd H' t (.tup [.ref la, .ref p])) := same_upd nt
        exact k t p (.ref la) [wa, da, ea, oa] _ (fun b o nb e => sp _ _ (fk b o (fun z => nb (by rw [z]; simp)) (fun z => nb (by rw [z]; simp)) (fun z => nb (by rw [z]; simp)) (fun z => nb (by rw [z]; simp)) (s1 _ _ e))) (s1.free np) upd_same (sp _ _ hp) ⟨la, wa, da, ea, oa, rfl, rfl, hl'.keep sp⟩ (fun a ha => .inl ha)
end
end Kw
set_option maxRecDepth 100000
set_option maxHeartbeats 400000
namespace Kw
open PySem PySem.Spec PyProof.Rows L2
def sp_answers (K : PySem.W.Frag) (A : Ad) : Sp := Sp1 fun a H Q E => ∃ (p : Addr) (l : List Int), a = .ref p ∧ SqL K H p (l.map V.int) ∧ l.length ≤ 320 ∧ PyKp373.answers_asked l = true ∧ ∀ q H', H' q = some (.lst ((PyKp373.answers l).map V.int)) → Q (.ref q) H'
/-! ### the request, call by call -/
theorem nat_of {a : Int} (h : Kp373Neutral.natural a = true) : a = ((a.toNat : Nat) : Int) := by
  unfold Kp373Neutral.natural at h
  rw [Bool.and_eq_true] at h
  have := of_decide_eq_true h.1
  omega
theorem asked1_CB {c : List (List Int)} (h : Kp373Neutral.asked1 c = true) : ∃ (n : Nat) (ns : List Nat) (x : Kp373.Call), c = [(n : Int) :: ns.map fun k : Nat => (k : Int)] ∧ CB n ns x ∧ Kp373Neutral.callOf c = some x ∧ PyKp373.shape n = some (ns.length, 0) := by
  have one : ∀ {a : Int} {n : Int}, Kp373Neutral.natural a = true → [[n, a]] = [n :: [a.toNat].map fun k : Nat => (k : Int)] := fun {a n} h => by
    have := nat_of h
    rw [List.map_cons, List.map_nil, ← this]
  have three : ∀ {a b c : Int} {n : Int}, (Kp373Neutral.natural a && (Kp373Neutral.natural b && Kp373Neutral.natural c)) = true → [[n, a, b, c]] = [n :: [a.toNat, b.toNat, c.toNat].map fun k : Nat => (k : Int)] := fun {a b c n} h => by
    rw [Bool.and_eq_true, Bool.and_eq_true] at h
    have h1 := nat_of h.1
    have h2 := nat_of h.2.1
    have h3 := nat_of h.2.2
    rw [List.map_cons, List.map_cons, List.map_cons, List.map_nil, ← h1, ← h2, ← h3]
  have four : ∀ {a b c d : Int} {n : Int}, (Kp373Neutral.natural a && (Kp373Neutral.natural b && (Kp373Neutral.natural c && Kp373Neutral.natural d))) = true → [[n, a, b, c, d]] = [n :: [a.toNat, b.toNat, c.toNat, d.toNat].map fun k : Nat => (k : Int)] := fun {a b c d n} h => by
    rw [Bool.and_eq_true, Bool.and_eq_true, Bool.and_eq_true] at h
    have h1 := nat_of h.1
    have h2 := nat_of h.2.1
    have h3 := nat_of h.2.2.1
    have h4 := nat_of h.2.2.2
    rw [List.map_cons, List.map_cons, List.map_cons, List.map_cons, List.map_nil, ← h1, ← h2, ← h3, ← h4]
  unfold Kp373Neutral.asked1 at h
  split at h
  · exact ⟨0, _, _, one h, .begin_ _, rfl, rfl⟩
  · exact ⟨1, _, _, four h, .call (.inl (.deed _ _ _ _)), rfl, rfl⟩
  · exact ⟨2, _, _, four h, .call (.inl (.event _ _ _ _)), rfl, rfl⟩
  · exact ⟨3, _, _, one h, .call (.inl (.undeed _)), rfl, rfl⟩
  · exact ⟨4, _, _, one h, .call (.inl (.unevent _)), rfl, rfl⟩
  · exact ⟨5, _, _, one h, .call (.inl (.set _)), rfl, rfl⟩
  · exact ⟨6, [], _, rfl, .call (.inl .now), rfl, rfl⟩
  · exact ⟨7, _, _, one h, .call (.inl (.do_ _)), rfl, rfl⟩
  · exact ⟨8, _, _, four h, .call (.inl (.aim _ _ _ _)), rfl, rfl⟩
  · exact ⟨9, _, _, one h, .call (.inl (.unaim _)), rfl, rfl⟩
  · exact ⟨10, _, _, one h, .call (.inr (.inl (.aimIs _))), rfl, rfl⟩
  · exact ⟨11, [], _, rfl, .call (.inr (.inl .open_)), rfl, rfl⟩
  · exact ⟨12, _, _, one h, .call (.inr (.inl (.openAt _))), rfl, rfl⟩
  · exact ⟨13, _, _, one h, .call (.inr (.inl (.keeps _))), rfl, rfl⟩
  · exact ⟨14, _, _, one h, .call (.inr (.inl (.costs _))), rfl, rfl⟩
  · exact ⟨15, _, _, three h, .call (.inr (.inr (.least _ _ _))), rfl, rfl⟩
  · exact ⟨16, _, _, three h, .call (.inr (.inr (.leastRow _ _ _))), rfl, rfl⟩
  · exact ⟨17, _, _, three h, .call (.inr (.inr (.most _ _ _))), rfl, rfl⟩
  · exact ⟨18, _, _, three h, .call (.inr (.inr (.mostRow _ _ _))), rfl, rfl⟩
  · exact ⟨19, _, _, three h, .call (.inr (.inr (.tidy _ _ _))), rfl, rfl⟩
  · exact ⟨20, [], _, rfl, .call (.inr (.inr .harmless)), rfl, rfl⟩
  · exact ⟨21, _, _, one h, .call (.inr (.inr (.lastChance _))), rfl, rfl⟩
  · cases h
theorem sizes {n : Nat} {ns : List Nat} {x : Kp373.Call} (h : CB n ns x) : ([V.int 1, V.int 4, V.int 4, V.int 1, V.int 1, V.int 1, V.int 0, V.int 1, V.int 4, V.int 1, V.int 1, V.int 0, V.int 1, V.int 1, V.int 1, V.int 3, V.int 3, V.int 3, V.int 3, V.int 3, V.int 0, V.int 1] : List V)[n]? = some (N ns.length) := by
  cases h with
  | begin_ m => rfl
  | call h => rcases h with h | h | h <;> cases h <;> rfl
theorem whole_id (c : List (List Int)) : PyKp373.whole c = c := by
  unfold PyKp373.whole
  split <;> rfl
theorem whole_all : ∀ cs : List (List (List Int)), cs.map PyKp373.whole = cs
  | [] => rfl
  | c :: cs => by rw [List.map_cons, whole_id, whole_all cs]
/-- what is still to be answered, behind what's told -/
def Rest (l : List Int) (i : Nat) (st : Option Kp373.Desk) (acc : List Int) : Prop := ∃ f cs, PyFlat.calls PyKp373.shape f (l.drop i) = some cs ∧ (∀ c ∈ cs, Kp373Neutral.asked1 c = true) ∧ acc ++ PyFlat.told (PyFlat.played Kp373Neutral.step st cs) = PyKp373.answers l ∧ i ≤ l.length
theorem rest_start {l : List Int} (h : PyKp373.answers_asked l = true) : Rest l 0 none [] ∧ (PyKp373.answers l).length ≤ 10000000 := by
  unfold PyKp373.answers_asked at h
  cases hc : PyFlat.calls PyKp373.shape l.length l with
  | none =>
    rw [hc] at h
    cases h
  | some raw =>
    rw [hc] at h
    dsimp only at h
    simp only [Bool.and_eq_true] at h
    obtain ⟨⟨_, h2⟩, h3⟩ := h
    rw [whole_all] at h2
    unfold Kp373Neutral.asked at h2
    simp only [Bool.and_eq_true] at h2
    refine ⟨⟨l.length, raw, hc, fun c hc' => List.all_eq_true.mp h2.2.2 c hc', ?_, Nat.zero_le _⟩, of_decide_eq_true h3⟩
    unfold PyKp373.answers PyKp373.calls
    rw [hc]
    dsimp only
    rw [whole_all]
    rfl
theorem rest_stop {l : List Int} {i : Nat} {st : Option Kp373.Desk} {acc : List Int} (h : Rest l i st acc) (hi : ¬ i < l.length) : acc = PyKp373.answers l := by
  obtain ⟨f, cs, h1, _, h3, h4⟩ := h
  rw [List.drop_eq_nil_of_le (by omega)] at h1
  have e : cs = [] := by
    cases f <;> exact (Option.some.inj h1).symm
  rw [e] at h3
  rw [← h3]
  exact (List.append_nil _).symm
theorem rest_len {l : List Int} {i : Nat} {st : Option Kp373.Desk} {acc : List Int} (h : Rest l i st acc) (hn : (PyKp373.answers l).length ≤ 10000000) : acc.length ≤ 10000000 := by
  obtain ⟨f, cs, _, _, h3, _⟩ := h
  rw [← h3, List.length_append] at hn
  omega
theorem rest_go {l : List Int} {i : Nat} {st : Option Kp373.Desk} {acc : List Int} (h : Rest l i st acc) (hi : i < l.length) : ∃ (n : Nat) (ns : List Nat) (x : Kp373.Call), CB n ns x ∧ l[i]? = some (n : Int) ∧ i + 1 + ns.length ≤ l.length ∧ (l.drop (i + 1)).take ns.length = (ns.map fun k : Nat => (k : Int)) ∧
    Rest l (i + 1 + ns.length) (Kp373.step st x).1 (acc ++ (((((Kp373.step st x).2.num :: (Kp373.step st x).2.nums).length : Nat) : Int) :: (Kp373.step st x).2.num :: (Kp373.step st x).2.nums)) := by
  obtain ⟨f, cs, h1, h2, h3, h4⟩ := h
  rw [List.drop_eq_getElem_cons hi] at h1
  generalize hp : l[i] = p at h1
  generalize hr : l.drop (i + 1) = r at h1
  have rlen : r.length = l.length - (i + 1) := by rw [← hr, List.length_drop]
  cases f with
  | zero => cases h1
  | succ f =>
    unfold PyFlat.calls at h1
    cases hc : PyFlat.call PyKp373.shape (p :: r) with
    | none =>
      rw [hc] at h1
      cases h1
    | some ct =>
      obtain ⟨c, t⟩ := ct
      rw [hc] at h1
      dsimp only at h1
      cases hcs : PyFlat.calls PyKp373.shape f t with
      | none =>
        rw [hcs] at h1
        cases h1
      | some cs' =>
        rw [hcs] at h1
        have e := Option.some.inj h1
        subst e
        obtain ⟨n, ns, x, ec, hx, hco, hsh⟩ := asked1_CB (h2 c List.mem_cons_self)
        unfold PyFlat.call at hc
        dsimp only at hc
        cases hs : PyKp373.shape p with
        | none =>
          rw [hs] at hc
          cases hc
        | some nk =>
          obtain ⟨n0, k0⟩ := nk
          rw [hs] at hc
          dsimp only at hc
          by_cases hlt : r.length < n0
          · rw [if_pos hlt] at hc
            cases hc
          · rw [if_neg hlt] at hc
            cases hrow : PyFlat.rows k0 (r.drop n0) with
            | none =>
              rw [hrow] at hc
              cases hc
            | some xt =>
              obtain ⟨xs, t'⟩ := xt
              rw [hrow] at hc
              dsimp only at hc
              have e2 := Option.some.inj hc
              have e3 : (p :: r.take n0) :: xs = c := (Prod.mk.inj e2).1
              have e4 : t' = t := (Prod.mk.inj e2).2
              rw [ec] at e3
              have e5 := List.cons.inj e3
              have e6 := List.cons.inj e5.1
              rw [e6.1, hsh] at hs
              have e7 := Prod.mk.inj (Option.some.inj hs)
              have e8 : n0 = ns.length := e7.1.symm
              have e9 : k0 = 0 := e7.2.symm
              subst e8 e9
              have e10 : r.drop ns.length = t' := (Prod.mk.inj (Option.some.inj hrow)).2
              refine ⟨n, ns, x, hx, by rw [List.getElem?_eq_getElem hi, hp, e6.1], by omega, by rw [← e6.2], f, cs', ?_, fun c' hc' => h2 c' (List.mem_cons_of_mem _ hc'), ?_, by omega⟩
              · rw [← hcs, ← e4, ← e10, ← hr, List.drop_drop]
              · rw [← h3]
                have hst : Kp373Neutral.step st c = ((Kp373.step st x).1, (Kp373.step st x).2.num :: (Kp373.step st x).2.nums) := by
                  unfold Kp373Neutral.step
                  rw [hco]
                show _ = acc ++ PyFlat.told ((Kp373Neutral.step st c).2 :: PyFlat.played Kp373Neutral.step (Kp373Neutral.step st c).1 cs')
                rw [hst]
                show _ = acc ++ ((((((Kp373.step st x).2.num :: (Kp373.step st x).2.nums).length : Nat) : Int) :: (Kp373.step st x).2.num :: (Kp373.step st x).2.nums) ++ PyFlat.told (PyFlat.played Kp373Neutral.step (Kp373.step st x).1 cs'))
                rw [List.append_assoc]
/-! ### lists that are read, wherever they lie -/
section
variable {K : PySem.W.Frag} {A : Ad} {σ : L2.St} {H H' : Hp} {ta tb t1 t2 : TE} {t : TA} {p : Addr} {xs : List V} {v : V} {sp : Sp} {E : XK} {g : TG} {Dn : Ends}
theorem SqL.kp (h : SqL K H p xs) (s : Same H H') : SqL K H' p xs := h.elim (fun h => .inl (h.elim (fun h => .inl (s _ _ h)) fun ⟨o, h⟩ => .inr ⟨o, s _ _ h⟩)) fun h => .inr h
theorem ev_ixQ {i : Nat} (ha : Ev Same ta σ H (Is (.ref p))) (hb : Ev Same tb σ H (Is (.int (i : Int)))) (hl : SqL K H p xs) (hi : xs[i]? = some v) : Ev Same (tOp (rIxL K) ta tb) σ H (Is v) :=
  ev_op ha hb fun H1 e Q q => ⟨p, xs, (i : Int), v, rfl, rfl, SqL.kp hl e, atI_nat hi, q _ H1 (Same.refl _) rfl⟩
theorem ev_lenQ (ha : Ev Same ta σ H (Is (.ref p))) (hl : SqL K H p xs) : Ev Same (tCB (fun xs H Q => ∃ p ys, xs = [.ref p] ∧ (SqL K H p ys ∨ SqT K H p ys) ∧ Q (.int ys.length) H) (tCons ta tNil)) σ H (Is (.int (xs.length : Int))) := fun H1 e Q q =>
  ha H1 e _ fun u H2 e2 eu => by
    cases eu
    exact ⟨p, xs, rfl, .inl (SqL.kp hl (e.trans e2)), q _ H2 e2 rfl⟩
theorem ev_slQ {a b : Nat} (ha : Ev Same ta σ H (Is (.ref p))) (h1 : Ev Same t1 σ H (Is (N a))) (h2 : Ev Same t2 σ H (Is (N b))) (hl : SqL K H p xs) (hab : a ≤ b) (hb : b ≤ xs.length) : Ev Same (tSl (rSlL K) ta (tPart t1) (tPart t2)) σ H (NewL H ((xs.drop a).take (b - a))) := fun H1 e Q q =>
  ha H1 e _ fun u H2 e2 eu => by
    cases eu
    exact h1 H2 (e.trans e2) _ fun u3 H3 e3 eu3 => by
      cases eu3
      refine ⟨_, rfl, h2 H3 ((e.trans e2).trans e3) _ fun u4 H4 e4 eu4 => ?_⟩
      cases eu4
      have s4 := ((e.trans e2).trans e3).trans e4
      refine ⟨_, rfl, p, xs, rfl, SqL.kp hl s4, fun r nr => ?_⟩
      have ecut : cutV xs (some (a : Int)) (some (b : Int)) = (xs.drop a).take (b - a) := by
        unfold cutV
        have e1 : HT.sIx xs.length 0 (some (a : Int)) = a := by
          rw [HT.sIx_nat]
          omega
        have e2 : HT.sIx xs.length xs.length (some (b : Int)) = b := by
          rw [HT.sIx_nat]
          omega
        rw [e1, e2]
      rw [ecut]
      exact q _ _ (((e2.trans e3).trans e4).trans (same_upd nr)) ⟨r, rfl, s4.free nr, upd_same⟩
theorem s_asgC {PA : List V → Hp → Prop} (ha : EvA Same t σ H PA) (hs : ∀ us H1, Same H H1 → PA us H1 → sp us H1 (fun u H2 => g u σ H2 Dn.nx) E) : tAsg (tCall sp [] E t) g Dn σ H := by
  refine ha H (Same.refl _) _ fun us H1 s1 pa => ?_
  have := hs us H1 s1 pa
  rw [← List.append_nil us] at this
  exact this
theorem s_append2 {to te : TE} {y : V} (hto : Ev Same to σ H (Is (.ref p))) (hp : H p = some (.lst xs)) (hte : ∀ H1, Same H H1 → Ev Same te σ H1 (Is y)) (hn : xs.length < sizeLine) (k : ∀ H1, Same H H1 → Dn.nx σ (upd H1 p (.lst (xs ++ [y])))) : tDrop (tBM K "list" rAppend to (tCons te tNil)) Dn σ H :=
  hto H (Same.refl _) _ fun u H1 s1 eu => by
    cases eu
    exact ⟨.inl ⟨rfl, _, SqL.of (s1 _ _ hp)⟩, hte H1 s1 H1 (Same.refl _) _ fun u2 H2 s2 eu2 => by
      cases eu2
      exact ⟨p, xs, y, rfl, rfl, (s1.trans s2) _ _ hp, hn, k H2 (s1.trans s2)⟩⟩
theorem StAt.mv {fp : List Addr} {st : Option Kp373.Desk} {td : Addr} {zs : List V} (h : StAt A H v fp st) (htd : H td = some (.lst zs)) (nfp : td ∉ fp) (kp : ∀ b o, b ≠ td → H b = some o → H' b = some o) : StAt A H' v fp st := by
  cases st with
  | none => exact h
  | some D =>
    obtain ⟨la, wa, da, ea, oa, e1, e2, ⟨⟨dl, h1⟩, ⟨⟨dw, hw0⟩, ⟨ds0, hd1, hd2⟩, ⟨es, he1, he2⟩⟩, ⟨os, h3, h4⟩, h5, h6, h7, h8⟩⟩ := h
    rw [e2] at nfp
    have n1 : da ≠ td := fun z => nfp (by rw [← z]; simp)
    have n2 : ea ≠ td := fun z => nfp (by rw [← z]; simp)
    have n3 : oa ≠ td := fun z => nfp (by rw [← z]; simp)
    exact ⟨la, wa, da, ea, oa, e1, e2, ⟨⟨dl, kp _ _ (fun z => by rw [z, htd] at h1; cases h1) h1⟩, ⟨⟨dw, kp _ _ (fun z => by rw [z, htd] at hw0; cases hw0) hw0⟩, ⟨ds0, kp _ _ n1 hd1, hd2.imp fun a d k => k.mv htd kp⟩, ⟨es, kp _ _ n2 he1, he2.imp fun a d k => k.mv htd kp⟩⟩, ⟨os, kp _ _ n3 h3, h4.imp fun a x k => k.mv htd kp⟩, h5, h6, h7, h8⟩⟩
theorem StAt.keep {fp : List Addr} {st : Option Kp373.Desk} (h : StAt A H v fp st) (s : Same H H') : StAt A H' v fp st := by
  cases st with
  | none => exact h
  | some D =>
    obtain ⟨la, wa, da, ea, oa, e1, e2, hl⟩ := h
    exact ⟨la, wa, da, ea, oa, e1, e2, hl.keep s⟩
end
section
variable {P : Program} {w : World} {K : PySem.W.Frag} {mg : Str → Option Value} {base : Heap} {A : Ad}
theorem sc_answers : FnScope ["calls", "line", "told", "at", "call", "end", "answer"] ["calls"] (defScope (top 46)) := ⟨rfl, rfl, rfl, by decide +kernel, rfl, by decide +kernel, by decide +kernel⟩
theorem ok_answers (T : Txt K mg A) : FnOk P w K mg base CX0 13 A.f_answers A.d_answers ["calls"] (sp_answers K A) := by
  refine T.F_answers.ok sc_answers (fun vs H Q E h => sp1_len h) (fun cdv Ar outer s H vs Q E hr h => ⟨_,
      (pss_cons (ps_set (i := 1) sc_answers.nd rfl (Or.inl rfl) pe_non)
      (pss_cons (ps_set (i := 2) sc_answers.nd rfl (Or.inl rfl) (pe_lst pa_nil))
      (pss_cons (ps_set (i := 3) sc_answers.nd rfl (Or.inl rfl) pe_int)
      (pss_cons (ps_while PassesOwn.never (pt_cmpR op_lt (pv 3) (pe_callB call_len_seq (by rfl) T.len PySem.boot_len (pa_cons (pv 0) pa_nil)) (nomark _))
        (pss_cons (ps_set (i := 4) sc_answers.nd rfl (Or.inl rfl) (pe_ix ix_list (pv 0) (pv 3) (fun _ _ => rfl)))
      (pss_cons (ps_set (i := 5) sc_answers.nd rfl (Or.inl rfl) (pe_op op_add (pe_op op_add (pv 3) pe_int) (pe_ix ix_tup (pe_glob (v := .ref A.tSIZES) rfl T.g_SIZES rfl) (pv 4) (fun _ _ => rfl))))
      (pss_cons (ps_asg (pe_call (ok_told_by T) (hr.mono (by decide)) rfl T.g_told_by T.F_told_by.kp T.b_told_by .nil pass0 (pa_cons (pv 1) (pa_cons (pv 4) (pa_cons (pe_slice sl_list (pv 0) (po_some (pe_op op_add (pv 3) pe_int)) (po_some (pv 5))) pa_nil)))) (pg_tup (n := 2) rfl (pgs_cons (pg_name (i := 1) sc_answers.nd rfl (Or.inl rfl)) (pgs_cons (pg_name (i := 6) sc_answers.nd rfl (Or.inl rfl)) pgs_nil))))
      (pss_cons (ps_expr (pe_bm PySem.F.plainAttrs_list PySem.F.slot_list_append PySem.F.type_list_append mt_append (pv 2) (pa_cons (pe_callB call_len_seq (by rfl) T.len PySem.boot_len (pa_cons (pv 6) pa_nil)) pa_nil)))
      (pss_cons (ps_expr (pe_bm PySem.F.plainAttrs_list PySem.F.slot_list_extend PySem.F.type_list_extend mt_extend (pv 2) (pa_cons (pv 6) pa_nil)))
      (pss_one (ps_set (i := 3) sc_answers.nd rfl (Or.inl rfl) (pv 5)))))))))
      (pss_one (ps_ret (pv 2))))))), ?_⟩)
  obtain ⟨_, rfl, p, l, rfl, hp, hlen, hask, k⟩ := h
  obtain ⟨hrest, htot⟩ := rest_start hask
  refine s_set (R := Same) (P := Is .non) (Same.refl _) ev_c (fun u H1 s1 eu => ?_)
  cases eu
  refine s_set (R := Same) (P := NewL H1 []) (Same.refl _) (ev_lstF ea_nil (by simp)) (fun u H2 s2 pu => ?_)
  obtain ⟨td, rfl, ntd, htd⟩ := pu
  with_reducible show tSeq _ _ _ _ _
  refine s_set (R := Same) (P := Is (.int 0)) (Same.refl _) ev_c (fun u H3 s3 eu => ?_)
  cases eu
  have ntdH : H td = none := s1.free ntd
  refine ⟨fun m σ' H' => ∃ (i : Nat) (st : Option Kp373.Desk) (acc : List Int) (fp : List Addr) (v : V) (y4 y5 y6 : Option V), m = l.length - i ∧ σ' = [some (.ref p), some v, some (.ref td), some (N i), y4, y5, y6] ∧ Same H H' ∧ H' td = some (.lst (acc.map V.int)) ∧ StAt A H' v fp st ∧ td ∉ fp ∧ (∀ a ∈ fp, H a = none) ∧ Rest l i st acc,
    ⟨_, 0, none, [], [], .non, none, none, none, rfl, rfl, (s1.trans s2).trans s3, s3 _ _ htd, ⟨rfl, rfl⟩, by simp, by simp, hrest⟩, ?_⟩
  rintro m σ' H' ⟨i, st, acc, fp, v, y4, y5, y6, rfl, rfl, sH, htd', hst, nfp, ffp, hr⟩
  have hp' : SqL K H' p (l.map V.int) := SqL.kp hp sH
  refine (et_test (b := decide (i < l.length)) ((ev_I0 (ev_var rfl) (ev_lenQ (ev_var rfl) hp')).is (congrArg V.bl (decide_eq_decide.mpr (by rw [List.length_map]; omega))))) H' (Same.refl _) _ (fun H4 s4 => ?_)
  by_cases hi : i < l.length
  · rw [decide_eq_true hi, if_pos rfl]
    obtain ⟨n, ns, x, hx, hn, hle, hns, hr2⟩ := rest_go hr hi
    refine ⟨fun σ' H' => ∃ (st : Option Kp373.Desk) (acc : List Int) (fp : List Addr) (v : V) (y4 y5 y6 : Option V), σ' = [some (.ref p), some v, some (.ref td), some (N (i + 1 + ns.length)), y4, y5, y6] ∧ Same H H' ∧ H' td = some (.lst (acc.map V.int)) ∧ StAt A H' v fp st ∧ td ∉ fp ∧ (∀ a ∈ fp, H a = none) ∧ Rest l (i + 1 + ns.length) st acc,
      fun σ2 H2 ⟨st, acc, fp, v, y4, y5, y6, h1, h2, h3, h4, h5, h6, h7⟩ => ⟨l.length - (i + 1 + ns.length), by omega, i + 1 + ns.length, st, acc, fp, v, y4, y5, y6, rfl, h1, h2, h3, h4, h5, h6, h7⟩, ?_⟩
    have hp4 := SqL.kp hp' s4
    have htd4 := s4 _ _ htd'
    refine s_set (R := Same) (P := Is (N n)) (Same.refl _) (ev_ixQ (i := i) (ev_var rfl) (ev_var rfl) hp4 (by rw [List.getElem?_map, hn]; rfl)) (fun u H5 s5 eu => ?_)
    cases eu
    refine s_set (R := Same) (P := Is (N (i + 1 + ns.length))) (Same.refl _) ((ev_I0 (g := fun i j => .int (i + j)) (i := (i : Int) + 1) (ev_I0 (g := fun i j => .int (i + j)) (ev_var rfl) ev_c) (ev_ixT (i := n) ev_c (ev_var rfl) (fun H6 _ => T.q_SIZES H6) (sizes hx))).is (congrArg V.int (show (i : Int) + 1 + (ns.length : Int) = ((i + 1 + ns.length : Nat) : Int) by omega))) (fun u H6 s6 eu => ?_)
    cases eu
    have s46 := (s4.trans s5).trans s6
    have hp6 := SqL.kp hp' s46
    have htd6 := s46 _ _ htd'
    have nsx : (((l.map V.int).drop (i + 1)).take (i + 1 + ns.length - (i + 1))) = Ns ns := by
      rw [show i + 1 + ns.length - (i + 1) = ns.length by omega, ← List.map_drop, ← List.map_take, hns, ns_ints]
    refine s_asgC (PA := fun us H' => ∃ na, us = [v, N n, .ref na] ∧ H' na = some (.lst (Ns ns))) (ea_consN (P := Is v) (ev_var rfl) fun x1 H7 s7 e1 => ea_consN (P := Is (N n)) (ev_var rfl) fun x2 H8 s8 e2 => ea_consN (ev_slQ (a := i + 1) (b := i + 1 + ns.length) (ev_var rfl) ((ev_I0 (ev_var rfl) ev_c).is rfl) (ev_var rfl) (SqL.kp hp6 (s7.trans s8)) (by omega) (by rw [List.length_map]; omega)) fun x3 H9 s9 p9 => ?_) (fun us H7 s7 p7 => ?_)
    · obtain ⟨na, e3, _, hna⟩ := p9
      intro H10 s10 Q' q'
      refine q' _ H10 (Same.refl _) ⟨na, by rw [e1, e2, e3], ?_⟩
      rw [← nsx]
      exact s10 _ _ hna
    · obtain ⟨na, rfl, hna⟩ := p7
      have s47 := s46.trans s7
      have htd7 := s47 _ _ htd'
      have sH7 := sH.trans s47
      refine ⟨_, _, _, rfl, fp, st, n, na, ns, x, hst.keep s47, rfl, rfl, hna, hx, fun t q v' fp' H8 kp np ht hq hst8 hfp => ?_⟩
      generalize hans : (Kp373.step st x).2.num :: (Kp373.step st x).2.nums = ans at hq hr2
      generalize (Kp373.step st x).1 = st' at hst8 hr2
      have htd8 : H8 td = some (.lst (acc.map V.int)) := kp _ _ nfp htd7
      have qtd : q ≠ td := fun z => by
        rw [z, htd7] at np
        cases np
      have sH8 : Same H H8 := fun a o e => kp a o (fun z => by rw [ffp a z] at e; cases e) (sH7 _ _ e)
      have nfp' : td ∉ fp' := fun z => by
        rcases hfp td z with h | h
        · exact nfp h
        · rw [htd7] at h
          cases h
      have ffp' : ∀ a ∈ fp', H a = none := fun a ha => by
        rcases hfp a ha with h | h
        · exact ffp a h
        · exact sH7.free h
      have tot := rest_len hr2 htot
      rw [List.length_append, List.length_cons] at tot
      refine g_pair ht ?_
      refine s_append2 (p := td) (y := N ans.length) (ev_var rfl) htd8 (fun H9 s9 => (ev_len (ev_var rfl) (s9 _ _ hq)).is (by rw [List.length_map])) (by rw [List.length_map]; exact Nat.lt_of_le_of_lt (show acc.length ≤ 10000000 by omega) (by decide)) (fun H9 s9 => ?_)
      have kp9 : ∀ b o, b ≠ td → H8 b = some o → upd H9 td (.lst (acc.map V.int ++ [N ans.length])) b = some o := fun b o nb e => by
        rw [upd_ne nb]
        exact s9 _ _ e
      have hq9 := kp9 _ _ qtd hq
      have htd9 : upd H9 td (.lst (acc.map V.int ++ [N ans.length])) td = some (.lst (acc.map V.int ++ [N ans.length])) := upd_same
      generalize upd H9 td (.lst (acc.map V.int ++ [N ans.length])) = G9 at kp9 hq9 htd9
      refine s_extend (R := Same) (P := Is (.ref q)) (Same.refl _) rfl htd9 (ev_var rfl) (fun u H10 s10 eu => ?_)
      cases eu
      refine ⟨q, _, rfl, s10 _ _ hq9, Nat.le_trans (show (acc.map V.int ++ [N ans.length]).length + (ans.map V.int).length ≤ 10000000 by rw [List.length_append, List.length_map, List.length_map, List.length_singleton]; omega) (by decide), ?_⟩
      have kp10 : ∀ b o, b ≠ td → H8 b = some o → upd H10 td (.lst (acc.map V.int ++ [N ans.length] ++ ans.map V.int)) b = some o := fun b o nb e => by
        rw [upd_ne nb]
        exact s10 _ _ (kp9 b o nb e)
      refine s_set (R := Same) (P := Is (N (i + 1 + ns.length))) (Same.refl _) (ev_var rfl) (fun u H11 s11 eu => ?_)
      cases eu
      have sH11 : Same H H11 := fun a o e => s11 _ _ (kp10 a o (ne_of_none e ntdH) (sH8 _ _ e))
      refine ⟨st', _, fp', v', _, _, _, rfl, sH11, ?_, (hst8.mv htd8 nfp' kp10).keep s11, nfp', ffp', hr2⟩
      rw [List.map_append, List.map_cons]
      have := s11 _ _ (upd_same (H := H10) (a := td) (o := .lst (acc.map V.int ++ [N ans.length] ++ ans.map V.int)))
      rw [List.append_assoc] at this
      exact this
  · rw [decide_eq_false hi, if_neg Bool.false_ne_true]
    have ea := rest_stop hr hi
    with_reducible show tRet _ _ _ _
    refine s_ret (R := Same) (P := Is (.ref td)) (Same.refl _) ?_ (fun u H5 s5 eu => ?_)
    · exact ev_var rfl
    · cases eu
      rw [← ea] at k
      exact k td H5 (s5 _ _ (s4 _ _ htd'))
end
end Kw
set_option maxHeartbeats 2000000
namespace Kw
open PySem PySem.Spec PyProof.Rows L2
/-- an error of the class at S is what «except S» names -/
theorem exm_self {K : PySem.W.Frag} {S : Addr} (h1 : PySem.W.subIn K (.ref S) (.type "BaseException") = some true) (h2 : PySem.W.isClsIn K S = true) (h3 : PySem.W.typeIn K (.ref S) = some (.type "type")) (h4 : PySem.W.subIn K (.ref S) (.ref S) = some true) :
    PySem.W.exmOne K (.ref S) (.ref S) = some true := by
  have e1 : (PySem.W.subIn K (.ref S) (.type "BaseException") == some true) = true := by rw [h1] <;> rfl
  have e2 : ((PySem.W.clsIn K S).isSome && PySem.W.typeIn K (.ref S) == some (.type "type")) = true := by
    have h2' : (PySem.W.clsIn K S).isSome = true := h2
    rw [h2', h3] <;> rfl
  show (if (PySem.W.subIn K (.ref S) (.type "BaseException") == some true) = true then (if ((PySem.W.clsIn K S).isSome && PySem.W.typeIn K (.ref S) == some (.type "type")) = true then PySem.W.subIn K (.ref S) (.ref S) else none) else none) = some true
  rw [if_pos e1, if_pos e2]
  exact h4
theorem txt_mk {K : PySem.W.Frag} {h : Heap} {mg : Str → Option Value} (X : K.In h) (G : h.Ns mainGlobals mg)
    {CChange CWorld CAim COther CChances CLine CRefused : Addr} {tEVERY tSIZES : Addr}
    {nmR qR : Str} {NR : Addr} {bsR : List Value} {snR : List Str} {subR : List Value} {abR : Bool} {colR : Option Bool} {ddR : Option Addr} {m0 m1 m2 m3 m5 : Option Value}
    {f0 f1 f2 f3 f4 f5 f6 f7 f8 f9 f10 f11 f12 f13 f14 f15 f16 f17 f18 f19 f20 f21 f22 f23 f24 f25 f26 f27 f28 f29 f30 f31 f32 f33 f34 f35 f36 f37 f38 f39 f40 f41 f42 f43 f44 f45 f46 f47 f48 f49 f50 f51 f52 f53 f54 f55 f56 f57 f58 f59 f60 : Addr}
    {od0 an0 od1 an1 od2 an2 od3 an3 od4 an4 od5 an5 od6 an6 od7 an7 od8 an8 od9 an9 od10 an10 od11 an11 od12 an12 od13 an13 od14 an14 od15 an15 od16 an16 od17 an17 od18 an18 od19 an19 od20 an20 od21 an21 od22 an22 od23 an23 od24 an24 od25 an25 od26 an26 od27 an27 od28 an28 od29 an29 od30 an30 od31 an31 od32 an32 od33 an33 od34 an34 od35 an35 od36 an36 od37 an37 od38 an38 od39 an39 od40 an40 od41 an41 od42 an42 od43 an43 od44 an44 od45 an45 od46 an46 od47 an47 od48 an48 od49 an49 od50 an50 od51 an51 od52 an52 od53 an53 od54 an54 od55 an55 od56 an56 od57 an57 od58 an58 od59 an59 od60 an60 : Option Addr}
    {sl0 sl1 sl2 sl3 sl4 sl5 sl6 sl7 sl8 sl9 sl10 sl11 sl12 sl13 sl14 sl15 sl16 sl17 sl18 sl19 sl20 sl21 sl22 sl23 sl24 sl25 sl26 sl27 sl28 sl29 sl30 sl31 sl32 sl33 sl34 sl35 sl36 sl37 sl38 sl39 sl40 sl41 sl42 sl43 sl44 sl45 sl46 sl47 sl48 sl49 sl50 sl51 sl52 sl53 sl54 sl55 sl56 sl57 sl58 sl59 sl60 : Array (Option Value)}
    {oc0 kV0 dc0 pm0 cd0 ct0 oc1 kV1 dc1 pm1 cd1 ct1 oc2 kV2 dc2 pm2 cd2 ct2 oc3 kV3 dc3 pm3 cd3 ct3 oc4 kV4 dc4 pm4 cd4 ct4 oc5 kV5 dc5 pm5 cd5 ct5 oc6 kV6 dc6 pm6 cd6 ct6 oc7 kV7 dc7 pm7 cd7 ct7 oc8 kV8 dc8 pm8 cd8 ct8 oc9 kV9 dc9 pm9 cd9 ct9 oc10 kV10 dc10 pm10 cd10 ct10 oc11 kV11 dc11 pm11 cd11 ct11 oc12 kV12 dc12 pm12 cd12 ct12 oc13 kV13 dc13 pm13 cd13 ct13 oc14 kV14 dc14 pm14 cd14 ct14 oc15 kV15 dc15 pm15 cd15 ct15 oc16 kV16 dc16 pm16 cd16 ct16 oc17 kV17 dc17 pm17 cd17 ct17 oc18 kV18 dc18 pm18 cd18 ct18 oc19 kV19 dc19 pm19 cd19 ct19 oc20 kV20 dc20 pm20 cd20 ct20 oc21 kV21 dc21 pm21 cd21 ct21 oc22 kV22 dc22 pm22 cd22 ct22 oc23 kV23 dc23 pm23 cd23 ct23 oc24 kV24 dc24 pm24 cd24 ct24 oc25 kV25 dc25 pm25 cd25 ct25 oc26 kV26 dc26 pm26 cd26 ct26 oc27 kV27 dc27 pm27 cd27 ct27 oc28 kV28 dc28 pm28 cd28 ct28 oc29 kV29 dc29 pm29 cd29 ct29 oc30 kV30 dc30 pm30 cd30 ct30 oc31 kV31 dc31 pm31 cd31 ct31 oc32 kV32 dc32 pm32 cd32 ct32 oc33 kV33 dc33 pm33 cd33 ct33 oc34 kV34 dc34 pm34 cd34 ct34 oc35 kV35 dc35 pm35 cd35 ct35 oc36 kV36 dc36 pm36 cd36 ct36 oc37 kV37 dc37 pm37 cd37 ct37 oc38 kV38 dc38 pm38 cd38 ct38 oc39 kV39 dc39 pm39 cd39 ct39 oc40 kV40 dc40 pm40 cd40 ct40 oc41 kV41 dc41 pm41 cd41 ct41 oc42 kV42 dc42 pm42 cd42 ct42 oc43 kV43 dc43 pm43 cd43 ct43 oc44 kV44 dc44 pm44 cd44 ct44 oc45 kV45 dc45 pm45 cd45 ct45 oc46 kV46 dc46 pm46 cd46 ct46 oc47 kV47 dc47 pm47 cd47 ct47 oc48 kV48 dc48 pm48 cd48 ct48 oc49 kV49 dc49 pm49 cd49 ct49 oc50 kV50 dc50 pm50 cd50 ct50 oc51 kV51 dc51 pm51 cd51 ct51 oc52 kV52 dc52 pm52 cd52 ct52 oc53 kV53 dc53 pm53 cd53 ct53 oc54 kV54 dc54 pm54 cd54 ct54 oc55 kV55 dc55 pm55 cd55 ct55 oc56 kV56 dc56 pm56 cd56 ct56 oc57 kV57 dc57 pm57 cd57 ct57 oc58 kV58 dc58 pm58 cd58 ct58 oc59 kV59 dc59 pm59 cd59 ct59 oc60 kV60 dc60 pm60 cd60 ct60 : Value}
    {zBEGIN zNOT_BEGUN zABSENT zOUT_OF_RANGE zALIKE zTOO_MANY zNOT_LET zIN_VAIN zLEAST_FACTS zMOST_FACTS zMOST_DEEDS zMOST_EVENTS zMOST_AIMS zMOST_WORTH zMOST_TIME zMOST_STEPS : Tok}
    {uEVERY0 uEVERY1 uEVERY2 uEVERY3 uEVERY4 uEVERY5 : Tok} {dEVERY : Option Addr} {nEVERY : Nat} {sEVERY : Array (Option Value)}
    {uSIZES0 uSIZES1 uSIZES2 uSIZES3 uSIZES4 uSIZES5 uSIZES6 uSIZES7 uSIZES8 uSIZES9 uSIZES10 uSIZES11 uSIZES12 uSIZES13 uSIZES14 uSIZES15 uSIZES16 uSIZES17 uSIZES18 uSIZES19 uSIZES20 uSIZES21 : Tok} {dSIZES : Option Addr} {nSIZES : Nat} {sSIZES : Array (Option Value)}
    (aChange : PySem.W.nsIn K mainGlobals "Change" = some (some (.ref CChange)))
    (aWorld : PySem.W.nsIn K mainGlobals "World" = some (some (.ref CWorld)))
    (aAim : PySem.W.nsIn K mainGlobals "Aim" = some (some (.ref CAim)))
    (aOther : PySem.W.nsIn K mainGlobals "OtherAim" = some (some (.ref COther)))
    (aChances : PySem.W.nsIn K mainGlobals "Chances" = some (some (.ref CChances)))
    (aLine : PySem.W.nsIn K mainGlobals "Line" = some (some (.ref CLine)))
    (aRefused : PySem.W.nsIn K mainGlobals "Refused" = some (some (.ref CRefused)))
    (gBEGIN : PySem.W.nsIn K mainGlobals "BEGIN" = some (some (.int (0) zBEGIN)))
    (gNOT_BEGUN : PySem.W.nsIn K mainGlobals "NOT_BEGUN" = some (some (.int (-11) zNOT_BEGUN)))
    (gABSENT : PySem.W.nsIn K mainGlobals "ABSENT" = some (some (.int (-2) zABSENT)))
    (gOUT_OF_RANGE : PySem.W.nsIn K mainGlobals "OUT_OF_RANGE" = some (some (.int (-22) zOUT_OF_RANGE)))
    (gALIKE : PySem.W.nsIn K mainGlobals "ALIKE" = some (some (.int (-17) zALIKE)))
    (gTOO_MANY : PySem.W.nsIn K mainGlobals "TOO_MANY" = some (some (.int (-28) zTOO_MANY)))
    (gNOT_LET : PySem.W.nsIn K mainGlobals "NOT_LET" = some (some (.int (-6) zNOT_LET)))
    (gIN_VAIN : PySem.W.nsIn K mainGlobals "IN_VAIN" = some (some (.int (-33) zIN_VAIN)))
    (gLEAST_FACTS : PySem.W.nsIn K mainGlobals "LEAST_FACTS" = some (some (.int (2) zLEAST_FACTS)))
    (gMOST_FACTS : PySem.W.nsIn K mainGlobals "MOST_FACTS" = some (some (.int (5) zMOST_FACTS)))
    (gMOST_DEEDS : PySem.W.nsIn K mainGlobals "MOST_DEEDS" = some (some (.int (6) zMOST_DEEDS)))
    (gMOST_EVENTS : PySem.W.nsIn K mainGlobals "MOST_EVENTS" = some (some (.int (3) zMOST_EVENTS)))
    (gMOST_AIMS : PySem.W.nsIn K mainGlobals "MOST_AIMS" = some (some (.int (6) zMOST_AIMS)))
    (gMOST_WORTH : PySem.W.nsIn K mainGlobals "MOST_WORTH" = some (some (.int (100) zMOST_WORTH)))
    (gMOST_TIME : PySem.W.nsIn K mainGlobals "MOST_TIME" = some (some (.int (40) zMOST_TIME)))
    (gMOST_STEPS : PySem.W.nsIn K mainGlobals "MOST_STEPS" = some (some (.int (10) zMOST_STEPS)))
    (gEVERY : PySem.W.nsIn K mainGlobals "EVERY" = some (some (.ref tEVERY)))
    (lEVERY : K.lookup tEVERY = some ⟨.type "tuple", dEVERY, .seq #[.int 0 uEVERY0, .int 1 uEVERY1, .int 3 uEVERY2, .int 7 uEVERY3, .int 15 uEVERY4, .int 31 uEVERY5] nEVERY, sEVERY⟩)
    (gSIZES : PySem.W.nsIn K mainGlobals "SIZES" = some (some (.ref tSIZES)))
    (lSIZES : K.lookup tSIZES = some ⟨.type "tuple", dSIZES, .seq #[.int 1 uSIZES0, .int 4 uSIZES1, .int 4 uSIZES2, .int 1 uSIZES3, .int 1 uSIZES4, .int 1 uSIZES5, .int 0 uSIZES6, .int 1 uSIZES7, .int 4 uSIZES8, .int 1 uSIZES9, .int 1 uSIZES10, .int 0 uSIZES11, .int 1 uSIZES12, .int 1 uSIZES13, .int 1 uSIZES14, .int 3 uSIZES15, .int 3 uSIZES16, .int 3 uSIZES17, .int 3 uSIZES18, .int 3 uSIZES19, .int 0 uSIZES20, .int 1 uSIZES21] nSIZES, sSIZES⟩)
    (blen : PySem.W.nsIn K mainGlobals "len" = some none)
    (bany : PySem.W.nsIn K mainGlobals "any" = some none)
    (bsum : PySem.W.nsIn K mainGlobals "sum" = some none)
    (bmin : PySem.W.nsIn K mainGlobals "min" = some none)
    (blist : PySem.W.nsIn K mainGlobals "list" = some none)
    (brange : PySem.W.nsIn K mainGlobals "range" = some none)
    (benumerate : PySem.W.nsIn K mainGlobals "enumerate" = some none)
    (bValueError : PySem.W.nsIn K mainGlobals "ValueError" = some none)
    (a0 : PySem.W.nsIn K mainGlobals "is_within" = some (some (.ref f0)))
    (l0 : K.lookup f0 = some ⟨oc0, od0, .func (PySem.W.fnOf "is_within" "is_within" (defArgs (top 2)) (defBody (top 2)) (defScope (top 2)) .none kV0 dc0 pm0 an0 cd0 ct0), sl0⟩)
    (c0 : PySem.W.codeIn K cd0 "is_within" = true)
    (k0 : PySem.W.keepIn K (.ref f0) = true)
    (a1 : PySem.W.findIn K (.ref CChange) "__init__" = some (some (.ref f1)))
    (i1 : PySem.W.isFn K (.ref f1) = true)
    (l1 : K.lookup f1 = some ⟨oc1, od1, .func (PySem.W.fnOf "__init__" "Change.__init__" (defArgs (inClass (top 3) 0)) (defBody (inClass (top 3) 0)) (defScope (inClass (top 3) 0)) .none kV1 dc1 pm1 an1 cd1 ct1), sl1⟩)
    (c1 : PySem.W.codeIn K cd1 "Change.__init__" = true)
    (k1 : PySem.W.keepIn K (.ref f1) = true)
    (a2 : PySem.W.findIn K (.ref CChange) "is_one" = some (some (.ref f2)))
    (i2 : PySem.W.isFn K (.ref f2) = true)
    (l2 : K.lookup f2 = some ⟨oc2, od2, .func (PySem.W.fnOf "is_one" "Change.is_one" (defArgs (inClass (top 3) 1)) (defBody (inClass (top 3) 1)) (defScope (inClass (top 3) 1)) .none kV2 dc2 pm2 an2 cd2 ct2), sl2⟩)
    (c2 : PySem.W.codeIn K cd2 "Change.is_one" = true)
    (k2 : PySem.W.keepIn K (.ref f2) = true)
    (a3 : PySem.W.findIn K (.ref CChange) "is_let" = some (some (.ref f3)))
    (i3 : PySem.W.isFn K (.ref f3) = true)
    (l3 : K.lookup f3 = some ⟨oc3, od3, .func (PySem.W.fnOf "is_let" "Change.is_let" (defArgs (inClass (top 3) 2)) (defBody (inClass (top 3) 2)) (defScope (inClass (top 3) 2)) .none kV3 dc3 pm3 an3 cd3 ct3), sl3⟩)
    (c3 : PySem.W.codeIn K cd3 "Change.is_let" = true)
    (k3 : PySem.W.keepIn K (.ref f3) = true)
    (a4 : PySem.W.findIn K (.ref CChange) "done" = some (some (.ref f4)))
    (i4 : PySem.W.isFn K (.ref f4) = true)
    (l4 : K.lookup f4 = some ⟨oc4, od4, .func (PySem.W.fnOf "done" "Change.done" (defArgs (inClass (top 3) 3)) (defBody (inClass (top 3) 3)) (defScope (inClass (top 3) 3)) .none kV4 dc4 pm4 an4 cd4 ct4), sl4⟩)
    (c4 : PySem.W.codeIn K cd4 "Change.done" = true)
    (k4 : PySem.W.keepIn K (.ref f4) = true)
    (a5 : PySem.W.findIn K (.ref CWorld) "__init__" = some (some (.ref f5)))
    (i5 : PySem.W.isFn K (.ref f5) = true)
    (l5 : K.lookup f5 = some ⟨oc5, od5, .func (PySem.W.fnOf "__init__" "World.__init__" (defArgs (inClass (top 4) 0)) (defBody (inClass (top 4) 0)) (defScope (inClass (top 4) 0)) .none kV5 dc5 pm5 an5 cd5 ct5), sl5⟩)
    (c5 : PySem.W.codeIn K cd5 "World.__init__" = true)
    (k5 : PySem.W.keepIn K (.ref f5) = true)
    (a6 : PySem.W.findIn K (.ref CWorld) "waiting" = some (some (.ref f6)))
    (i6 : PySem.W.isFn K (.ref f6) = true)
    (l6 : K.lookup f6 = some ⟨oc6, od6, .func (PySem.W.fnOf "waiting" "World.waiting" (defArgs (inClass (top 4) 1)) (defBody (inClass (top 4) 1)) (defScope (inClass (top 4) 1)) .none kV6 dc6 pm6 an6 cd6 ct6), sl6⟩)
    (c6 : PySem.W.codeIn K cd6 "World.waiting" = true)
    (k6 : PySem.W.keepIn K (.ref f6) = true)
    (a7 : PySem.W.findIn K (.ref CWorld) "choices" = some (some (.ref f7)))
    (i7 : PySem.W.isFn K (.ref f7) = true)
    (l7 : K.lookup f7 = some ⟨oc7, od7, .func (PySem.W.fnOf "choices" "World.choices" (defArgs (inClass (top 4) 2)) (defBody (inClass (top 4) 2)) (defScope (inClass (top 4) 2)) .none kV7 dc7 pm7 an7 cd7 ct7), sl7⟩)
    (c7 : PySem.W.codeIn K cd7 "World.choices" = true)
    (k7 : PySem.W.keepIn K (.ref f7) = true)
    (a8 : PySem.W.findIn K (.ref CWorld) "is_state" = some (some (.ref f8)))
    (i8 : PySem.W.isFn K (.ref f8) = true)
    (l8 : K.lookup f8 = some ⟨oc8, od8, .func (PySem.W.fnOf "is_state" "World.is_state" (defArgs (inClass (top 4) 3)) (defBody (inClass (top 4) 3)) (defScope (inClass (top 4) 3)) .none kV8 dc8 pm8 an8 cd8 ct8), sl8⟩)
    (c8 : PySem.W.codeIn K cd8 "World.is_state" = true)
    (k8 : PySem.W.keepIn K (.ref f8) = true)
    (a9 : PySem.W.findIn K (.ref CWorld) "is_let" = some (some (.ref f9)))
    (i9 : PySem.W.isFn K (.ref f9) = true)
    (l9 : K.lookup f9 = some ⟨oc9, od9, .func (PySem.W.fnOf "is_let" "World.is_let" (defArgs (inClass (top 4) 4)) (defBody (inClass (top 4) 4)) (defScope (inClass (top 4) 4)) .none kV9 dc9 pm9 an9 cd9 ct9), sl9⟩)
    (c9 : PySem.W.codeIn K cd9 "World.is_let" = true)
    (k9 : PySem.W.keepIn K (.ref f9) = true)
    (a10 : PySem.W.findIn K (.ref CWorld) "behind" = some (some (.ref f10)))
    (i10 : PySem.W.isFn K (.ref f10) = true)
    (l10 : K.lookup f10 = some ⟨oc10, od10, .func (PySem.W.fnOf "behind" "World.behind" (defArgs (inClass (top 4) 5)) (defBody (inClass (top 4) 5)) (defScope (inClass (top 4) 5)) .none kV10 dc10 pm10 an10 cd10 ct10), sl10⟩)
    (c10 : PySem.W.codeIn K cd10 "World.behind" = true)
    (k10 : PySem.W.keepIn K (.ref f10) = true)
    (a11 : PySem.W.findIn K (.ref CWorld) "followers" = some (some (.ref f11)))
    (i11 : PySem.W.isFn K (.ref f11) = true)
    (l11 : K.lookup f11 = some ⟨oc11, od11, .func (PySem.W.fnOf "followers" "World.followers" (defArgs (inClass (top 4) 6)) (defBody (inClass (top 4) 6)) (defScope (inClass (top 4) 6)) .none kV11 dc11 pm11 an11 cd11 ct11), sl11⟩)
    (c11 : PySem.W.codeIn K cd11 "World.followers" = true)
    (k11 : PySem.W.keepIn K (.ref f11) = true)
    (a12 : PySem.W.findIn K (.ref CWorld) "waited" = some (some (.ref f12)))
    (i12 : PySem.W.isFn K (.ref f12) = true)
    (l12 : K.lookup f12 = some ⟨oc12, od12, .func (PySem.W.fnOf "waited" "World.waited" (defArgs (inClass (top 4) 7)) (defBody (inClass (top 4) 7)) (defScope (inClass (top 4) 7)) .none kV12 dc12 pm12 an12 cd12 ct12), sl12⟩)
    (c12 : PySem.W.codeIn K cd12 "World.waited" = true)
    (k12 : PySem.W.keepIn K (.ref f12) = true)
    (a13 : PySem.W.findIn K (.ref CAim) "__init__" = some (some (.ref f13)))
    (i13 : PySem.W.isFn K (.ref f13) = true)
    (l13 : K.lookup f13 = some ⟨oc13, od13, .func (PySem.W.fnOf "__init__" "Aim.__init__" (defArgs (inClass (top 6) 0)) (defBody (inClass (top 6) 0)) (defScope (inClass (top 6) 0)) .none kV13 dc13 pm13 an13 cd13 ct13), sl13⟩)
    (c13 : PySem.W.codeIn K cd13 "Aim.__init__" = true)
    (k13 : PySem.W.keepIn K (.ref f13) = true)
    (a14 : PySem.W.findIn K (.ref CAim) "is_one" = some (some (.ref f14)))
    (i14 : PySem.W.isFn K (.ref f14) = true)
    (l14 : K.lookup f14 = some ⟨oc14, od14, .func (PySem.W.fnOf "is_one" "Aim.is_one" (defArgs (inClass (top 6) 1)) (defBody (inClass (top 6) 1)) (defScope (inClass (top 6) 1)) .none kV14 dc14 pm14 an14 cd14 ct14), sl14⟩)
    (c14 : PySem.W.codeIn K cd14 "Aim.is_one" = true)
    (k14 : PySem.W.keepIn K (.ref f14) = true)
    (a15 : PySem.W.findIn K (.ref CAim) "is_so" = some (some (.ref f15)))
    (i15 : PySem.W.isFn K (.ref f15) = true)
    (l15 : K.lookup f15 = some ⟨oc15, od15, .func (PySem.W.fnOf "is_so" "Aim.is_so" (defArgs (inClass (top 6) 2)) (defBody (inClass (top 6) 2)) (defScope (inClass (top 6) 2)) .none kV15 dc15 pm15 an15 cd15 ct15), sl15⟩)
    (c15 : PySem.W.codeIn K cd15 "Aim.is_so" = true)
    (k15 : PySem.W.keepIn K (.ref f15) = true)
    (a16 : PySem.W.findIn K (.ref COther) "__init__" = some (some (.ref f16)))
    (i16 : PySem.W.isFn K (.ref f16) = true)
    (l16 : K.lookup f16 = some ⟨oc16, od16, .func (PySem.W.fnOf "__init__" "OtherAim.__init__" (defArgs (inClass (top 7) 0)) (defBody (inClass (top 7) 0)) (defScope (inClass (top 7) 0)) .none kV16 dc16 pm16 an16 cd16 ct16), sl16⟩)
    (c16 : PySem.W.codeIn K cd16 "OtherAim.__init__" = true)
    (k16 : PySem.W.keepIn K (.ref f16) = true)
    (a17 : PySem.W.findIn K (.ref COther) "told" = some (some (.ref f17)))
    (i17 : PySem.W.isFn K (.ref f17) = true)
    (l17 : K.lookup f17 = some ⟨oc17, od17, .func (PySem.W.fnOf "told" "OtherAim.told" (defArgs (inClass (top 7) 1)) (defBody (inClass (top 7) 1)) (defScope (inClass (top 7) 1)) .none kV17 dc17 pm17 an17 cd17 ct17), sl17⟩)
    (c17 : PySem.W.codeIn K cd17 "OtherAim.told" = true)
    (k17 : PySem.W.keepIn K (.ref f17) = true)
    (a18 : PySem.W.findIn K (.ref COther) "is_like" = some (some (.ref f18)))
    (i18 : PySem.W.isFn K (.ref f18) = true)
    (l18 : K.lookup f18 = some ⟨oc18, od18, .func (PySem.W.fnOf "is_like" "OtherAim.is_like" (defArgs (inClass (top 7) 2)) (defBody (inClass (top 7) 2)) (defScope (inClass (top 7) 2)) .none kV18 dc18 pm18 an18 cd18 ct18), sl18⟩)
    (c18 : PySem.W.codeIn K cd18 "OtherAim.is_like" = true)
    (k18 : PySem.W.keepIn K (.ref f18) = true)
    (a19 : PySem.W.nsIn K mainGlobals "can_be_come_to" = some (some (.ref f19)))
    (l19 : K.lookup f19 = some ⟨oc19, od19, .func (PySem.W.fnOf "can_be_come_to" "can_be_come_to" (defArgs (top 8)) (defBody (top 8)) (defScope (top 8)) .none kV19 dc19 pm19 an19 cd19 ct19), sl19⟩)
    (c19 : PySem.W.codeIn K cd19 "can_be_come_to" = true)
    (k19 : PySem.W.keepIn K (.ref f19) = true)
    (a20 : PySem.W.findIn K (.ref CChances) "__init__" = some (some (.ref f20)))
    (i20 : PySem.W.isFn K (.ref f20) = true)
    (l20 : K.lookup f20 = some ⟨oc20, od20, .func (PySem.W.fnOf "__init__" "Chances.__init__" (defArgs (inClass (top 9) 0)) (defBody (inClass (top 9) 0)) (defScope (inClass (top 9) 0)) .none kV20 dc20 pm20 an20 cd20 ct20), sl20⟩)
    (c20 : PySem.W.codeIn K cd20 "Chances.__init__" = true)
    (k20 : PySem.W.keepIn K (.ref f20) = true)
    (a21 : PySem.W.findIn K (.ref CChances) "possible" = some (some (.ref f21)))
    (i21 : PySem.W.isFn K (.ref f21) = true)
    (l21 : K.lookup f21 = some ⟨oc21, od21, .func (PySem.W.fnOf "possible" "Chances.possible" (defArgs (inClass (top 9) 1)) (defBody (inClass (top 9) 1)) (defScope (inClass (top 9) 1)) .none kV21 dc21 pm21 an21 cd21 ct21), sl21⟩)
    (c21 : PySem.W.codeIn K cd21 "Chances.possible" = true)
    (k21 : PySem.W.keepIn K (.ref f21) = true)
    (a22 : PySem.W.findIn K (.ref CChances) "worth_of" = some (some (.ref f22)))
    (i22 : PySem.W.isFn K (.ref f22) = true)
    (l22 : K.lookup f22 = some ⟨oc22, od22, .func (PySem.W.fnOf "worth_of" "Chances.worth_of" (defArgs (inClass (top 9) 2)) (defBody (inClass (top 9) 2)) (defScope (inClass (top 9) 2)) .none kV22 dc22 pm22 an22 cd22 ct22), sl22⟩)
    (c22 : PySem.W.codeIn K cd22 "Chances.worth_of" = true)
    (k22 : PySem.W.keepIn K (.ref f22) = true)
    (a23 : PySem.W.findIn K (.ref CChances) "kept" = some (some (.ref f23)))
    (i23 : PySem.W.isFn K (.ref f23) = true)
    (l23 : K.lookup f23 = some ⟨oc23, od23, .func (PySem.W.fnOf "kept" "Chances.kept" (defArgs (inClass (top 9) 3)) (defBody (inClass (top 9) 3)) (defScope (inClass (top 9) 3)) .none kV23 dc23 pm23 an23 cd23 ct23), sl23⟩)
    (c23 : PySem.W.codeIn K cd23 "Chances.kept" = true)
    (k23 : PySem.W.keepIn K (.ref f23) = true)
    (a24 : PySem.W.findIn K (.ref CChances) "lost" = some (some (.ref f24)))
    (i24 : PySem.W.isFn K (.ref f24) = true)
    (l24 : K.lookup f24 = some ⟨oc24, od24, .func (PySem.W.fnOf "lost" "Chances.lost" (defArgs (inClass (top 9) 4)) (defBody (inClass (top 9) 4)) (defScope (inClass (top 9) 4)) .none kV24 dc24 pm24 an24 cd24 ct24), sl24⟩)
    (c24 : PySem.W.codeIn K cd24 "Chances.lost" = true)
    (k24 : PySem.W.keepIn K (.ref f24) = true)
    (a25 : PySem.W.findIn K (.ref CChances) "loss" = some (some (.ref f25)))
    (i25 : PySem.W.isFn K (.ref f25) = true)
    (l25 : K.lookup f25 = some ⟨oc25, od25, .func (PySem.W.fnOf "loss" "Chances.loss" (defArgs (inClass (top 9) 5)) (defBody (inClass (top 9) 5)) (defScope (inClass (top 9) 5)) .none kV25 dc25 pm25 an25 cd25 ct25), sl25⟩)
    (c25 : PySem.W.codeIn K cd25 "Chances.loss" = true)
    (k25 : PySem.W.keepIn K (.ref f25) = true)
    (a26 : PySem.W.findIn K (.ref CRefused) "__init__" = some (some (.ref f26)))
    (i26 : PySem.W.typeIn K (.ref f26) = some (.type "function"))
    (l26 : K.lookup f26 = some ⟨oc26, od26, .func (PySem.W.fnOf "__init__" "Refused.__init__" (defArgs (inClass (top 11) 0)) (defBody (inClass (top 11) 0)) (defScope (inClass (top 11) 0)) .none kV26 dc26 pm26 an26 cd26 ct26), sl26⟩)
    (c26 : PySem.W.codeIn K cd26 "Refused.__init__" = true)
    (k26 : PySem.W.keepIn K (.ref f26) = true)
    (a27 : PySem.W.nsIn K mainGlobals "refuse_if" = some (some (.ref f27)))
    (l27 : K.lookup f27 = some ⟨oc27, od27, .func (PySem.W.fnOf "refuse_if" "refuse_if" (defArgs (top 12)) (defBody (top 12)) (defScope (top 12)) .none kV27 dc27 pm27 an27 cd27 ct27), sl27⟩)
    (c27 : PySem.W.codeIn K cd27 "refuse_if" = true)
    (k27 : PySem.W.keepIn K (.ref f27) = true)
    (a28 : PySem.W.nsIn K mainGlobals "next_rows" = some (some (.ref f28)))
    (l28 : K.lookup f28 = some ⟨oc28, od28, .func (PySem.W.fnOf "next_rows" "next_rows" (defArgs (top 14)) (defBody (top 14)) (defScope (top 14)) .none kV28 dc28 pm28 an28 cd28 ct28), sl28⟩)
    (c28 : PySem.W.codeIn K cd28 "next_rows" = true)
    (k28 : PySem.W.keepIn K (.ref f28) = true)
    (a29 : PySem.W.nsIn K mainGlobals "all_ends" = some (some (.ref f29)))
    (l29 : K.lookup f29 = some ⟨oc29, od29, .func (PySem.W.fnOf "all_ends" "all_ends" (defArgs (top 15)) (defBody (top 15)) (defScope (top 15)) .none kV29 dc29 pm29 an29 cd29 ct29), sl29⟩)
    (c29 : PySem.W.codeIn K cd29 "all_ends" = true)
    (k29 : PySem.W.keepIn K (.ref f29) = true)
    (a30 : PySem.W.nsIn K mainGlobals "first_of" = some (some (.ref f30)))
    (l30 : K.lookup f30 = some ⟨oc30, od30, .func (PySem.W.fnOf "first_of" "first_of" (defArgs (top 16)) (defBody (top 16)) (defScope (top 16)) .none kV30 dc30 pm30 an30 cd30 ct30), sl30⟩)
    (c30 : PySem.W.codeIn K cd30 "first_of" = true)
    (k30 : PySem.W.keepIn K (.ref f30) = true)
    (a31 : PySem.W.nsIn K mainGlobals "least_lost" = some (some (.ref f31)))
    (l31 : K.lookup f31 = some ⟨oc31, od31, .func (PySem.W.fnOf "least_lost" "least_lost" (defArgs (top 17)) (defBody (top 17)) (defScope (top 17)) .none kV31 dc31 pm31 an31 cd31 ct31), sl31⟩)
    (c31 : PySem.W.codeIn K cd31 "least_lost" = true)
    (k31 : PySem.W.keepIn K (.ref f31) = true)
    (a32 : PySem.W.nsIn K mainGlobals "most_kept" = some (some (.ref f32)))
    (l32 : K.lookup f32 = some ⟨oc32, od32, .func (PySem.W.fnOf "most_kept" "most_kept" (defArgs (top 18)) (defBody (top 18)) (defScope (top 18)) .none kV32 dc32 pm32 an32 cd32 ct32), sl32⟩)
    (c32 : PySem.W.codeIn K cd32 "most_kept" = true)
    (k32 : PySem.W.keepIn K (.ref f32) = true)
    (a33 : PySem.W.nsIn K mainGlobals "tidied" = some (some (.ref f33)))
    (l33 : K.lookup f33 = some ⟨oc33, od33, .func (PySem.W.fnOf "tidied" "tidied" (defArgs (top 19)) (defBody (top 19)) (defScope (top 19)) .none kV33 dc33 pm33 an33 cd33 ct33), sl33⟩)
    (c33 : PySem.W.codeIn K cd33 "tidied" = true)
    (k33 : PySem.W.keepIn K (.ref f33) = true)
    (a34 : PySem.W.nsIn K mainGlobals "counted" = some (some (.ref f34)))
    (l34 : K.lookup f34 = some ⟨oc34, od34, .func (PySem.W.fnOf "counted" "counted" (defArgs (top 38)) (defBody (top 38)) (defScope (top 38)) .none kV34 dc34 pm34 an34 cd34 ct34), sl34⟩)
    (c34 : PySem.W.codeIn K cd34 "counted" = true)
    (k34 : PySem.W.keepIn K (.ref f34) = true)
    (a35 : PySem.W.findIn K (.ref CLine) "__init__" = some (some (.ref f35)))
    (i35 : PySem.W.isFn K (.ref f35) = true)
    (l35 : K.lookup f35 = some ⟨oc35, od35, .func (PySem.W.fnOf "__init__" "Line.__init__" (defArgs (inClass (top 39) 0)) (defBody (inClass (top 39) 0)) (defScope (inClass (top 39) 0)) .none kV35 dc35 pm35 an35 cd35 ct35), sl35⟩)
    (c35 : PySem.W.codeIn K cd35 "Line.__init__" = true)
    (k35 : PySem.W.keepIn K (.ref f35) = true)
    (a36 : PySem.W.findIn K (.ref CLine) "chances" = some (some (.ref f36)))
    (i36 : PySem.W.isFn K (.ref f36) = true)
    (l36 : K.lookup f36 = some ⟨oc36, od36, .func (PySem.W.fnOf "chances" "Line.chances" (defArgs (inClass (top 39) 1)) (defBody (inClass (top 39) 1)) (defScope (inClass (top 39) 1)) .none kV36 dc36 pm36 an36 cd36 ct36), sl36⟩)
    (c36 : PySem.W.codeIn K cd36 "Line.chances" = true)
    (k36 : PySem.W.keepIn K (.ref f36) = true)
    (a37 : PySem.W.findIn K (.ref CLine) "look_there" = some (some (.ref f37)))
    (i37 : PySem.W.isFn K (.ref f37) = true)
    (l37 : K.lookup f37 = some ⟨oc37, od37, .func (PySem.W.fnOf "look_there" "Line.look_there" (defArgs (inClass (top 39) 2)) (defBody (inClass (top 39) 2)) (defScope (inClass (top 39) 2)) .none kV37 dc37 pm37 an37 cd37 ct37), sl37⟩)
    (c37 : PySem.W.codeIn K cd37 "Line.look_there" = true)
    (k37 : PySem.W.keepIn K (.ref f37) = true)
    (a38 : PySem.W.findIn K (.ref CLine) "look_state" = some (some (.ref f38)))
    (i38 : PySem.W.isFn K (.ref f38) = true)
    (l38 : K.lookup f38 = some ⟨oc38, od38, .func (PySem.W.fnOf "look_state" "Line.look_state" (defArgs (inClass (top 39) 3)) (defBody (inClass (top 39) 3)) (defScope (inClass (top 39) 3)) .none kV38 dc38 pm38 an38 cd38 ct38), sl38⟩)
    (c38 : PySem.W.codeIn K cd38 "Line.look_state" = true)
    (k38 : PySem.W.keepIn K (.ref f38) = true)
    (a39 : PySem.W.findIn K (.ref CLine) "add_change" = some (some (.ref f39)))
    (i39 : PySem.W.isFn K (.ref f39) = true)
    (l39 : K.lookup f39 = some ⟨oc39, od39, .func (PySem.W.fnOf "add_change" "Line.add_change" (defArgs (inClass (top 39) 4)) (defBody (inClass (top 39) 4)) (defScope (inClass (top 39) 4)) .none kV39 dc39 pm39 an39 cd39 ct39), sl39⟩)
    (c39 : PySem.W.codeIn K cd39 "Line.add_change" = true)
    (k39 : PySem.W.keepIn K (.ref f39) = true)
    (a40 : PySem.W.findIn K (.ref CLine) "take_out" = some (some (.ref f40)))
    (i40 : PySem.W.isFn K (.ref f40) = true)
    (l40 : K.lookup f40 = some ⟨oc40, od40, .func (PySem.W.fnOf "take_out" "Line.take_out" (defArgs (inClass (top 39) 5)) (defBody (inClass (top 39) 5)) (defScope (inClass (top 39) 5)) .none kV40 dc40 pm40 an40 cd40 ct40), sl40⟩)
    (c40 : PySem.W.codeIn K cd40 "Line.take_out" = true)
    (k40 : PySem.W.keepIn K (.ref f40) = true)
    (a41 : PySem.W.findIn K (.ref CLine) "set_state" = some (some (.ref f41)))
    (i41 : PySem.W.isFn K (.ref f41) = true)
    (l41 : K.lookup f41 = some ⟨oc41, od41, .func (PySem.W.fnOf "set_state" "Line.set_state" (defArgs (inClass (top 39) 6)) (defBody (inClass (top 39) 6)) (defScope (inClass (top 39) 6)) .none kV41 dc41 pm41 an41 cd41 ct41), sl41⟩)
    (c41 : PySem.W.codeIn K cd41 "Line.set_state" = true)
    (k41 : PySem.W.keepIn K (.ref f41) = true)
    (a42 : PySem.W.findIn K (.ref CLine) "do_deed" = some (some (.ref f42)))
    (i42 : PySem.W.isFn K (.ref f42) = true)
    (l42 : K.lookup f42 = some ⟨oc42, od42, .func (PySem.W.fnOf "do_deed" "Line.do_deed" (defArgs (inClass (top 39) 7)) (defBody (inClass (top 39) 7)) (defScope (inClass (top 39) 7)) .none kV42 dc42 pm42 an42 cd42 ct42), sl42⟩)
    (c42 : PySem.W.codeIn K cd42 "Line.do_deed" = true)
    (k42 : PySem.W.keepIn K (.ref f42) = true)
    (a43 : PySem.W.findIn K (.ref CLine) "add_aim" = some (some (.ref f43)))
    (i43 : PySem.W.isFn K (.ref f43) = true)
    (l43 : K.lookup f43 = some ⟨oc43, od43, .func (PySem.W.fnOf "add_aim" "Line.add_aim" (defArgs (inClass (top 39) 8)) (defBody (inClass (top 39) 8)) (defScope (inClass (top 39) 8)) .none kV43 dc43 pm43 an43 cd43 ct43), sl43⟩)
    (c43 : PySem.W.codeIn K cd43 "Line.add_aim" = true)
    (k43 : PySem.W.keepIn K (.ref f43) = true)
    (a44 : PySem.W.findIn K (.ref CLine) "told_aim" = some (some (.ref f44)))
    (i44 : PySem.W.isFn K (.ref f44) = true)
    (l44 : K.lookup f44 = some ⟨oc44, od44, .func (PySem.W.fnOf "told_aim" "Line.told_aim" (defArgs (inClass (top 39) 9)) (defBody (inClass (top 39) 9)) (defScope (inClass (top 39) 9)) .none kV44 dc44 pm44 an44 cd44 ct44), sl44⟩)
    (c44 : PySem.W.codeIn K cd44 "Line.told_aim" = true)
    (k44 : PySem.W.keepIn K (.ref f44) = true)
    (a45 : PySem.W.findIn K (.ref CLine) "open_at" = some (some (.ref f45)))
    (i45 : PySem.W.isFn K (.ref f45) = true)
    (l45 : K.lookup f45 = some ⟨oc45, od45, .func (PySem.W.fnOf "open_at" "Line.open_at" (defArgs (inClass (top 39) 10)) (defBody (inClass (top 39) 10)) (defScope (inClass (top 39) 10)) .none kV45 dc45 pm45 an45 cd45 ct45), sl45⟩)
    (c45 : PySem.W.codeIn K cd45 "Line.open_at" = true)
    (k45 : PySem.W.keepIn K (.ref f45) = true)
    (a46 : PySem.W.findIn K (.ref CLine) "keeps" = some (some (.ref f46)))
    (i46 : PySem.W.isFn K (.ref f46) = true)
    (l46 : K.lookup f46 = some ⟨oc46, od46, .func (PySem.W.fnOf "keeps" "Line.keeps" (defArgs (inClass (top 39) 11)) (defBody (inClass (top 39) 11)) (defScope (inClass (top 39) 11)) .none kV46 dc46 pm46 an46 cd46 ct46), sl46⟩)
    (c46 : PySem.W.codeIn K cd46 "Line.keeps" = true)
    (k46 : PySem.W.keepIn K (.ref f46) = true)
    (a47 : PySem.W.findIn K (.ref CLine) "costs" = some (some (.ref f47)))
    (i47 : PySem.W.isFn K (.ref f47) = true)
    (l47 : K.lookup f47 = some ⟨oc47, od47, .func (PySem.W.fnOf "costs" "Line.costs" (defArgs (inClass (top 39) 12)) (defBody (inClass (top 39) 12)) (defScope (inClass (top 39) 12)) .none kV47 dc47 pm47 an47 cd47 ct47), sl47⟩)
    (c47 : PySem.W.codeIn K cd47 "Line.costs" = true)
    (k47 : PySem.W.keepIn K (.ref f47) = true)
    (a48 : PySem.W.findIn K (.ref CLine) "own_aim" = some (some (.ref f48)))
    (i48 : PySem.W.isFn K (.ref f48) = true)
    (l48 : K.lookup f48 = some ⟨oc48, od48, .func (PySem.W.fnOf "own_aim" "Line.own_aim" (defArgs (inClass (top 39) 13)) (defBody (inClass (top 39) 13)) (defScope (inClass (top 39) 13)) .none kV48 dc48 pm48 an48 cd48 ct48), sl48⟩)
    (c48 : PySem.W.codeIn K cd48 "Line.own_aim" = true)
    (k48 : PySem.W.keepIn K (.ref f48) = true)
    (a49 : PySem.W.findIn K (.ref CLine) "least" = some (some (.ref f49)))
    (i49 : PySem.W.isFn K (.ref f49) = true)
    (l49 : K.lookup f49 = some ⟨oc49, od49, .func (PySem.W.fnOf "least" "Line.least" (defArgs (inClass (top 39) 14)) (defBody (inClass (top 39) 14)) (defScope (inClass (top 39) 14)) .none kV49 dc49 pm49 an49 cd49 ct49), sl49⟩)
    (c49 : PySem.W.codeIn K cd49 "Line.least" = true)
    (k49 : PySem.W.keepIn K (.ref f49) = true)
    (a50 : PySem.W.findIn K (.ref CLine) "most" = some (some (.ref f50)))
    (i50 : PySem.W.isFn K (.ref f50) = true)
    (l50 : K.lookup f50 = some ⟨oc50, od50, .func (PySem.W.fnOf "most" "Line.most" (defArgs (inClass (top 39) 15)) (defBody (inClass (top 39) 15)) (defScope (inClass (top 39) 15)) .none kV50 dc50 pm50 an50 cd50 ct50), sl50⟩)
    (c50 : PySem.W.codeIn K cd50 "Line.most" = true)
    (k50 : PySem.W.keepIn K (.ref f50) = true)
    (a51 : PySem.W.findIn K (.ref CLine) "tidy" = some (some (.ref f51)))
    (i51 : PySem.W.isFn K (.ref f51) = true)
    (l51 : K.lookup f51 = some ⟨oc51, od51, .func (PySem.W.fnOf "tidy" "Line.tidy" (defArgs (inClass (top 39) 16)) (defBody (inClass (top 39) 16)) (defScope (inClass (top 39) 16)) .none kV51 dc51 pm51 an51 cd51 ct51), sl51⟩)
    (c51 : PySem.W.codeIn K cd51 "Line.tidy" = true)
    (k51 : PySem.W.keepIn K (.ref f51) = true)
    (a52 : PySem.W.findIn K (.ref CLine) "harmless" = some (some (.ref f52)))
    (i52 : PySem.W.isFn K (.ref f52) = true)
    (l52 : K.lookup f52 = some ⟨oc52, od52, .func (PySem.W.fnOf "harmless" "Line.harmless" (defArgs (inClass (top 39) 17)) (defBody (inClass (top 39) 17)) (defScope (inClass (top 39) 17)) .none kV52 dc52 pm52 an52 cd52 ct52), sl52⟩)
    (c52 : PySem.W.codeIn K cd52 "Line.harmless" = true)
    (k52 : PySem.W.keepIn K (.ref f52) = true)
    (a53 : PySem.W.findIn K (.ref CLine) "last_chance" = some (some (.ref f53)))
    (i53 : PySem.W.isFn K (.ref f53) = true)
    (l53 : K.lookup f53 = some ⟨oc53, od53, .func (PySem.W.fnOf "last_chance" "Line.last_chance" (defArgs (inClass (top 39) 18)) (defBody (inClass (top 39) 18)) (defScope (inClass (top 39) 18)) .none kV53 dc53 pm53 an53 cd53 ct53), sl53⟩)
    (c53 : PySem.W.codeIn K cd53 "Line.last_chance" = true)
    (k53 : PySem.W.keepIn K (.ref f53) = true)
    (a54 : PySem.W.nsIn K mainGlobals "told_deed" = some (some (.ref f54)))
    (l54 : K.lookup f54 = some ⟨oc54, od54, .func (PySem.W.fnOf "told_deed" "told_deed" (defArgs (top 40)) (defBody (top 40)) (defScope (top 40)) .none kV54 dc54 pm54 an54 cd54 ct54), sl54⟩)
    (c54 : PySem.W.codeIn K cd54 "told_deed" = true)
    (k54 : PySem.W.keepIn K (.ref f54) = true)
    (a55 : PySem.W.nsIn K mainGlobals "told_state" = some (some (.ref f55)))
    (l55 : K.lookup f55 = some ⟨oc55, od55, .func (PySem.W.fnOf "told_state" "told_state" (defArgs (top 41)) (defBody (top 41)) (defScope (top 41)) .none kV55 dc55 pm55 an55 cd55 ct55), sl55⟩)
    (c55 : PySem.W.codeIn K cd55 "told_state" = true)
    (k55 : PySem.W.keepIn K (.ref f55) = true)
    (a56 : PySem.W.nsIn K mainGlobals "told_row" = some (some (.ref f56)))
    (l56 : K.lookup f56 = some ⟨oc56, od56, .func (PySem.W.fnOf "told_row" "told_row" (defArgs (top 42)) (defBody (top 42)) (defScope (top 42)) .none kV56 dc56 pm56 an56 cd56 ct56), sl56⟩)
    (c56 : PySem.W.codeIn K cd56 "told_row" = true)
    (k56 : PySem.W.keepIn K (.ref f56) = true)
    (a57 : PySem.W.nsIn K mainGlobals "answered" = some (some (.ref f57)))
    (l57 : K.lookup f57 = some ⟨oc57, od57, .func (PySem.W.fnOf "answered" "answered" (defArgs (top 43)) (defBody (top 43)) (defScope (top 43)) .none kV57 dc57 pm57 an57 cd57 ct57), sl57⟩)
    (c57 : PySem.W.codeIn K cd57 "answered" = true)
    (k57 : PySem.W.keepIn K (.ref f57) = true)
    (a58 : PySem.W.nsIn K mainGlobals "begun" = some (some (.ref f58)))
    (l58 : K.lookup f58 = some ⟨oc58, od58, .func (PySem.W.fnOf "begun" "begun" (defArgs (top 44)) (defBody (top 44)) (defScope (top 44)) .none kV58 dc58 pm58 an58 cd58 ct58), sl58⟩)
    (c58 : PySem.W.codeIn K cd58 "begun" = true)
    (k58 : PySem.W.keepIn K (.ref f58) = true)
    (a59 : PySem.W.nsIn K mainGlobals "told_by" = some (some (.ref f59)))
    (l59 : K.lookup f59 = some ⟨oc59, od59, .func (PySem.W.fnOf "told_by" "told_by" (defArgs (top 45)) (defBody (top 45)) (defScope (top 45)) .none kV59 dc59 pm59 an59 cd59 ct59), sl59⟩)
    (c59 : PySem.W.codeIn K cd59 "told_by" = true)
    (k59 : PySem.W.keepIn K (.ref f59) = true)
    (a60 : PySem.W.nsIn K mainGlobals "answers" = some (some (.ref f60)))
    (l60 : K.lookup f60 = some ⟨oc60, od60, .func (PySem.W.fnOf "answers" "answers" (defArgs (top 46)) (defBody (top 46)) (defScope (top 46)) .none kV60 dc60 pm60 an60 cd60 ct60), sl60⟩)
    (c60 : PySem.W.codeIn K cd60 "answers" = true)
    (k60 : PySem.W.keepIn K (.ref f60) = true)
    (pgChange : PySem.W.plainGet K CChange Str.empty = true)
    (hdChange : PySem.W.hasDictIn K CChange = true)
    (poChange : PySem.W.plainOver K CChange = true)
    (saChange : PySem.W.findIn K (.ref CChange) "__setattr__" = some (some (.builtin "object.__setattr__")))
    (mkChange : PySem.W.makesIn K CChange = true)
    (kcChange : PySem.W.keepIn K (.ref CChange) = true)
    (nChangeasked : PySem.W.findIn K (.ref CChange) "asked" = some none)
    (nChangeso : PySem.W.findIn K (.ref CChange) "so" = some none)
    (nChangetouched : PySem.W.findIn K (.ref CChange) "touched" = some none)
    (nChangemade : PySem.W.findIn K (.ref CChange) "made" = some none)
    (pgWorld : PySem.W.plainGet K CWorld Str.empty = true)
    (hdWorld : PySem.W.hasDictIn K CWorld = true)
    (poWorld : PySem.W.plainOver K CWorld = true)
    (saWorld : PySem.W.findIn K (.ref CWorld) "__setattr__" = some (some (.builtin "object.__setattr__")))
    (mkWorld : PySem.W.makesIn K CWorld = true)
    (kcWorld : PySem.W.keepIn K (.ref CWorld) = true)
    (nWorldevery : PySem.W.findIn K (.ref CWorld) "every" = some none)
    (nWorlddeeds : PySem.W.findIn K (.ref CWorld) "deeds" = some none)
    (nWorldevents : PySem.W.findIn K (.ref CWorld) "events" = some none)
    (nWorldstate : PySem.W.findIn K (.ref CWorld) "state" = some none)
    (pgAim : PySem.W.plainGet K CAim Str.empty = true)
    (hdAim : PySem.W.hasDictIn K CAim = true)
    (poAim : PySem.W.plainOver K CAim = true)
    (saAim : PySem.W.findIn K (.ref CAim) "__setattr__" = some (some (.builtin "object.__setattr__")))
    (mkAim : PySem.W.makesIn K CAim = true)
    (kcAim : PySem.W.keepIn K (.ref CAim) = true)
    (nAimfacts : PySem.W.findIn K (.ref CAim) "facts" = some none)
    (nAimso : PySem.W.findIn K (.ref CAim) "so" = some none)
    (pgOther : PySem.W.plainGet K COther Str.empty = true)
    (hdOther : PySem.W.hasDictIn K COther = true)
    (poOther : PySem.W.plainOver K COther = true)
    (saOther : PySem.W.findIn K (.ref COther) "__setattr__" = some (some (.builtin "object.__setattr__")))
    (mkOther : PySem.W.makesIn K COther = true)
    (kcOther : PySem.W.keepIn K (.ref COther) = true)
    (nOtheraim : PySem.W.findIn K (.ref COther) "aim" = some none)
    (nOtherworth : PySem.W.findIn K (.ref COther) "worth" = some none)
    (nOthersteps : PySem.W.findIn K (.ref COther) "steps" = some none)
    (pgChances : PySem.W.plainGet K CChances Str.empty = true)
    (hdChances : PySem.W.hasDictIn K CChances = true)
    (poChances : PySem.W.plainOver K CChances = true)
    (saChances : PySem.W.findIn K (.ref CChances) "__setattr__" = some (some (.builtin "object.__setattr__")))
    (mkChances : PySem.W.makesIn K CChances = true)
    (kcChances : PySem.W.keepIn K (.ref CChances) = true)
    (nChancesworld : PySem.W.findIn K (.ref CChances) "world" = some none)
    (nChancesothers : PySem.W.findIn K (.ref CChances) "others" = some none)
    (nChancesknown : PySem.W.findIn K (.ref CChances) "known" = some none)
    (pgLine : PySem.W.plainGet K CLine Str.empty = true)
    (hdLine : PySem.W.hasDictIn K CLine = true)
    (poLine : PySem.W.plainOver K CLine = true)
    (saLine : PySem.W.findIn K (.ref CLine) "__setattr__" = some (some (.builtin "object.__setattr__")))
    (mkLine : PySem.W.makesIn K CLine = true)
    (kcLine : PySem.W.keepIn K (.ref CLine) = true)
    (nLineworld : PySem.W.findIn K (.ref CLine) "world" = some none)
    (nLineothers : PySem.W.findIn K (.ref CLine) "others" = some none)
    (xR : K.lookup CRefused = some (excClassObj nmR qR CRefused NR bsR [.type "ValueError", .type "Exception", .type "BaseException", .type "object"] true snR subR abR colR ddR m0 m1 m2 m3 m5 "ValueError.__new__"))
    (saR : PySem.W.findIn K (.ref CRefused) "__setattr__" = some (some (.builtin "object.__setattr__")))
    (gaR : PySem.W.findIn K (.ref CRefused) "__getattribute__" = some (some (.builtin "BaseException.__getattribute__")))
    (ggR : PySem.W.findIn K (.ref CRefused) "__getattr__" = some none)
    (nbR : PySem.W.findIn K (.ref CRefused) "number" = some none)
    (kcR : PySem.W.keepIn K (.ref CRefused) = true)
    (exR : PySem.W.subIn K (.ref CRefused) (.type "BaseException") = some true)
    (tyR : PySem.W.typeIn K (.ref CRefused) = some (.type "type"))
    (hdR : PySem.W.hasDictIn K CRefused = true)
    (icR : PySem.W.isClsIn K CRefused = true)
    (scR : PySem.W.subIn K (.ref CRefused) (.ref CRefused) = some true)
    (vV : PySem.W.findCls K (.type "ValueError") (.type "type") "__init__" = some (.val (.builtin "ValueError.__init__"))) :
    Txt K mg { CChange := CChange, CWorld := CWorld, CAim := CAim, COther := COther, CChances := CChances, CRefused := CRefused, CLine := CLine, tEVERY := tEVERY, tSIZES := tSIZES, f_is_within := f0, d_is_within := PySem.W.fnOf "is_within" "is_within" (defArgs (top 2)) (defBody (top 2)) (defScope (top 2)) .none kV0 dc0 pm0 an0 cd0 ct0, f_Change_init := f1, d_Change_init := PySem.W.fnOf "__init__" "Change.__init__" (defArgs (inClass (top 3) 0)) (defBody (inClass (top 3) 0)) (defScope (inClass (top 3) 0)) .none kV1 dc1 pm1 an1 cd1 ct1, f_Change_is_one := f2, d_Change_is_one := PySem.W.fnOf "is_one" "Change.is_one" (defArgs (inClass (top 3) 1)) (defBody (inClass (top 3) 1)) (defScope (inClass (top 3) 1)) .none kV2 dc2 pm2 an2 cd2 ct2, f_Change_is_let := f3, d_Change_is_let := PySem.W.fnOf "is_let" "Change.is_let" (defArgs (inClass (top 3) 2)) (defBody (inClass (top 3) 2)) (defScope (inClass (top 3) 2)) .none kV3 dc3 pm3 an3 cd3 ct3, f_Change_done := f4, d_Change_done := PySem.W.fnOf "done" "Change.done" (defArgs (inClass (top 3) 3)) (defBody (inClass (top 3) 3)) (defScope (inClass (top 3) 3)) .none kV4 dc4 pm4 an4 cd4 ct4, f_World_init := f5, d_World_init := PySem.W.fnOf "__init__" "World.__init__" (defArgs (inClass (top 4) 0)) (defBody (inClass (top 4) 0)) (defScope (inClass (top 4) 0)) .none kV5 dc5 pm5 an5 cd5 ct5, f_World_waiting := f6, d_World_waiting := PySem.W.fnOf "waiting" "World.waiting" (defArgs (inClass (top 4) 1)) (defBody (inClass (top 4) 1)) (defScope (inClass (top 4) 1)) .none kV6 dc6 pm6 an6 cd6 ct6, f_World_choices := f7, d_World_choices := PySem.W.fnOf "choices" "World.choices" (defArgs (inClass (top 4) 2)) (defBody (inClass (top 4) 2)) (defScope (inClass (top 4) 2)) .none kV7 dc7 pm7 an7 cd7 ct7, f_World_is_state := f8, d_World_is_state := PySem.W.fnOf "is_state" "World.is_state" (defArgs (inClass (top 4) 3)) (defBody (inClass (top 4) 3)) (defScope (inClass (top 4) 3)) .none kV8 dc8 pm8 an8 cd8 ct8, f_World_is_let := f9, d_World_is_let := PySem.W.fnOf "is_let" "World.is_let" (defArgs (inClass (top 4) 4)) (defBody (inClass (top 4) 4)) (defScope (inClass (top 4) 4)) .none kV9 dc9 pm9 an9 cd9 ct9, f_World_behind := f10, d_World_behind := PySem.W.fnOf "behind" "World.behind" (defArgs (inClass (top 4) 5)) (defBody (inClass (top 4) 5)) (defScope (inClass (top 4) 5)) .none kV10 dc10 pm10 an10 cd10 ct10, f_World_followers := f11, d_World_followers := PySem.W.fnOf "followers" "World.followers" (defArgs (inClass (top 4) 6)) (defBody (inClass (top 4) 6)) (defScope (inClass (top 4) 6)) .none kV11 dc11 pm11 an11 cd11 ct11, f_World_waited := f12, d_World_waited := PySem.W.fnOf "waited" "World.waited" (defArgs (inClass (top 4) 7)) (defBody (inClass (top 4) 7)) (defScope (inClass (top 4) 7)) .none kV12 dc12 pm12 an12 cd12 ct12, f_Aim_init := f13, d_Aim_init := PySem.W.fnOf "__init__" "Aim.__init__" (defArgs (inClass (top 6) 0)) (defBody (inClass (top 6) 0)) (defScope (inClass (top 6) 0)) .none kV13 dc13 pm13 an13 cd13 ct13, f_Aim_is_one := f14, d_Aim_is_one := PySem.W.fnOf "is_one" "Aim.is_one" (defArgs (inClass (top 6) 1)) (defBody (inClass (top 6) 1)) (defScope (inClass (top 6) 1)) .none kV14 dc14 pm14 an14 cd14 ct14, f_Aim_is_so := f15, d_Aim_is_so := PySem.W.fnOf "is_so" "Aim.is_so" (defArgs (inClass (top 6) 2)) (defBody (inClass (top 6) 2)) (defScope (inClass (top 6) 2)) .none kV15 dc15 pm15 an15 cd15 ct15, f_Other_init := f16, d_Other_init := PySem.W.fnOf "__init__" "OtherAim.__init__" (defArgs (inClass (top 7) 0)) (defBody (inClass (top 7) 0)) (defScope (inClass (top 7) 0)) .none kV16 dc16 pm16 an16 cd16 ct16, f_Other_told := f17, d_Other_told := PySem.W.fnOf "told" "OtherAim.told" (defArgs (inClass (top 7) 1)) (defBody (inClass (top 7) 1)) (defScope (inClass (top 7) 1)) .none kV17 dc17 pm17 an17 cd17 ct17, f_Other_is_like := f18, d_Other_is_like := PySem.W.fnOf "is_like" "OtherAim.is_like" (defArgs (inClass (top 7) 2)) (defBody (inClass (top 7) 2)) (defScope (inClass (top 7) 2)) .none kV18 dc18 pm18 an18 cd18 ct18, f_can_be_come_to := f19, d_can_be_come_to := PySem.W.fnOf "can_be_come_to" "can_be_come_to" (defArgs (top 8)) (defBody (top 8)) (defScope (top 8)) .none kV19 dc19 pm19 an19 cd19 ct19, f_Chances_init := f20, d_Chances_init := PySem.W.fnOf "__init__" "Chances.__init__" (defArgs (inClass (top 9) 0)) (defBody (inClass (top 9) 0)) (defScope (inClass (top 9) 0)) .none kV20 dc20 pm20 an20 cd20 ct20, f_Chances_possible := f21, d_Chances_possible := PySem.W.fnOf "possible" "Chances.possible" (defArgs (inClass (top 9) 1)) (defBody (inClass (top 9) 1)) (defScope (inClass (top 9) 1)) .none kV21 dc21 pm21 an21 cd21 ct21, f_Chances_worth_of := f22, d_Chances_worth_of := PySem.W.fnOf "worth_of" "Chances.worth_of" (defArgs (inClass (top 9) 2)) (defBody (inClass (top 9) 2)) (defScope (inClass (top 9) 2)) .none kV22 dc22 pm22 an22 cd22 ct22, f_Chances_kept := f23, d_Chances_kept := PySem.W.fnOf "kept" "Chances.kept" (defArgs (inClass (top 9) 3)) (defBody (inClass (top 9) 3)) (defScope (inClass (top 9) 3)) .none kV23 dc23 pm23 an23 cd23 ct23, f_Chances_lost := f24, d_Chances_lost := PySem.W.fnOf "lost" "Chances.lost" (defArgs (inClass (top 9) 4)) (defBody (inClass (top 9) 4)) (defScope (inClass (top 9) 4)) .none kV24 dc24 pm24 an24 cd24 ct24, f_Chances_loss := f25, d_Chances_loss := PySem.W.fnOf "loss" "Chances.loss" (defArgs (inClass (top 9) 5)) (defBody (inClass (top 9) 5)) (defScope (inClass (top 9) 5)) .none kV25 dc25 pm25 an25 cd25 ct25, f_Refused_init := f26, d_Refused_init := PySem.W.fnOf "__init__" "Refused.__init__" (defArgs (inClass (top 11) 0)) (defBody (inClass (top 11) 0)) (defScope (inClass (top 11) 0)) .none kV26 dc26 pm26 an26 cd26 ct26, f_refuse_if := f27, d_refuse_if := PySem.W.fnOf "refuse_if" "refuse_if" (defArgs (top 12)) (defBody (top 12)) (defScope (top 12)) .none kV27 dc27 pm27 an27 cd27 ct27, f_next_rows := f28, d_next_rows := PySem.W.fnOf "next_rows" "next_rows" (defArgs (top 14)) (defBody (top 14)) (defScope (top 14)) .none kV28 dc28 pm28 an28 cd28 ct28, f_all_ends := f29, d_all_ends := PySem.W.fnOf "all_ends" "all_ends" (defArgs (top 15)) (defBody (top 15)) (defScope (top 15)) .none kV29 dc29 pm29 an29 cd29 ct29, f_first_of := f30, d_first_of := PySem.W.fnOf "first_of" "first_of" (defArgs (top 16)) (defBody (top 16)) (defScope (top 16)) .none kV30 dc30 pm30 an30 cd30 ct30, f_least_lost := f31, d_least_lost := PySem.W.fnOf "least_lost" "least_lost" (defArgs (top 17)) (defBody (top 17)) (defScope (top 17)) .none kV31 dc31 pm31 an31 cd31 ct31, f_most_kept := f32, d_most_kept := PySem.W.fnOf "most_kept" "most_kept" (defArgs (top 18)) (defBody (top 18)) (defScope (top 18)) .none kV32 dc32 pm32 an32 cd32 ct32, f_tidied := f33, d_tidied := PySem.W.fnOf "tidied" "tidied" (defArgs (top 19)) (defBody (top 19)) (defScope (top 19)) .none kV33 dc33 pm33 an33 cd33 ct33, f_counted := f34, d_counted := PySem.W.fnOf "counted" "counted" (defArgs (top 38)) (defBody (top 38)) (defScope (top 38)) .none kV34 dc34 pm34 an34 cd34 ct34, f_Line_init := f35, d_Line_init := PySem.W.fnOf "__init__" "Line.__init__" (defArgs (inClass (top 39) 0)) (defBody (inClass (top 39) 0)) (defScope (inClass (top 39) 0)) .none kV35 dc35 pm35 an35 cd35 ct35, f_Line_chances := f36, d_Line_chances := PySem.W.fnOf "chances" "Line.chances" (defArgs (inClass (top 39) 1)) (defBody (inClass (top 39) 1)) (defScope (inClass (top 39) 1)) .none kV36 dc36 pm36 an36 cd36 ct36, f_Line_look_there := f37, d_Line_look_there := PySem.W.fnOf "look_there" "Line.look_there" (defArgs (inClass (top 39) 2)) (defBody (inClass (top 39) 2)) (defScope (inClass (top 39) 2)) .none kV37 dc37 pm37 an37 cd37 ct37, f_Line_look_state := f38, d_Line_look_state := PySem.W.fnOf "look_state" "Line.look_state" (defArgs (inClass (top 39) 3)) (defBody (inClass (top 39) 3)) (defScope (inClass (top 39) 3)) .none kV38 dc38 pm38 an38 cd38 ct38, f_Line_add_change := f39, d_Line_add_change := PySem.W.fnOf "add_change" "Line.add_change" (defArgs (inClass (top 39) 4)) (defBody (inClass (top 39) 4)) (defScope (inClass (top 39) 4)) .none kV39 dc39 pm39 an39 cd39 ct39, f_Line_take_out := f40, d_Line_take_out := PySem.W.fnOf "take_out" "Line.take_out" (defArgs (inClass (top 39) 5)) (defBody (inClass (top 39) 5)) (defScope (inClass (top 39) 5)) .none kV40 dc40 pm40 an40 cd40 ct40, f_Line_set_state := f41, d_Line_set_state := PySem.W.fnOf "set_state" "Line.set_state" (defArgs (inClass (top 39) 6)) (defBody (inClass (top 39) 6)) (defScope (inClass (top 39) 6)) .none kV41 dc41 pm41 an41 cd41 ct41, f_Line_do_deed := f42, d_Line_do_deed := PySem.W.fnOf "do_deed" "Line.do_deed" (defArgs (inClass (top 39) 7)) (defBody (inClass (top 39) 7)) (defScope (inClass (top 39) 7)) .none kV42 dc42 pm42 an42 cd42 ct42, f_Line_add_aim := f43, d_Line_add_aim := PySem.W.fnOf "add_aim" "Line.add_aim" (defArgs (inClass (top 39) 8)) (defBody (inClass (top 39) 8)) (defScope (inClass (top 39) 8)) .none kV43 dc43 pm43 an43 cd43 ct43, f_Line_told_aim := f44, d_Line_told_aim := PySem.W.fnOf "told_aim" "Line.told_aim" (defArgs (inClass (top 39) 9)) (defBody (inClass (top 39) 9)) (defScope (inClass (top 39) 9)) .none kV44 dc44 pm44 an44 cd44 ct44, f_Line_open_at := f45, d_Line_open_at := PySem.W.fnOf "open_at" "Line.open_at" (defArgs (inClass (top 39) 10)) (defBody (inClass (top 39) 10)) (defScope (inClass (top 39) 10)) .none kV45 dc45 pm45 an45 cd45 ct45, f_Line_keeps := f46, d_Line_keeps := PySem.W.fnOf "keeps" "Line.keeps" (defArgs (inClass (top 39) 11)) (defBody (inClass (top 39) 11)) (defScope (inClass (top 39) 11)) .none kV46 dc46 pm46 an46 cd46 ct46, f_Line_costs := f47, d_Line_costs := PySem.W.fnOf "costs" "Line.costs" (defArgs (inClass (top 39) 12)) (defBody (inClass (top 39) 12)) (defScope (inClass (top 39) 12)) .none kV47 dc47 pm47 an47 cd47 ct47, f_Line_own_aim := f48, d_Line_own_aim := PySem.W.fnOf "own_aim" "Line.own_aim" (defArgs (inClass (top 39) 13)) (defBody (inClass (top 39) 13)) (defScope (inClass (top 39) 13)) .none kV48 dc48 pm48 an48 cd48 ct48, f_Line_least := f49, d_Line_least := PySem.W.fnOf "least" "Line.least" (defArgs (inClass (top 39) 14)) (defBody (inClass (top 39) 14)) (defScope (inClass (top 39) 14)) .none kV49 dc49 pm49 an49 cd49 ct49, f_Line_most := f50, d_Line_most := PySem.W.fnOf "most" "Line.most" (defArgs (inClass (top 39) 15)) (defBody (inClass (top 39) 15)) (defScope (inClass (top 39) 15)) .none kV50 dc50 pm50 an50 cd50 ct50, f_Line_tidy := f51, d_Line_tidy := PySem.W.fnOf "tidy" "Line.tidy" (defArgs (inClass (top 39) 16)) (defBody (inClass (top 39) 16)) (defScope (inClass (top 39) 16)) .none kV51 dc51 pm51 an51 cd51 ct51, f_Line_harmless := f52, d_Line_harmless := PySem.W.fnOf "harmless" "Line.harmless" (defArgs (inClass (top 39) 17)) (defBody (inClass (top 39) 17)) (defScope (inClass (top 39) 17)) .none kV52 dc52 pm52 an52 cd52 ct52, f_Line_last_chance := f53, d_Line_last_chance := PySem.W.fnOf "last_chance" "Line.last_chance" (defArgs (inClass (top 39) 18)) (defBody (inClass (top 39) 18)) (defScope (inClass (top 39) 18)) .none kV53 dc53 pm53 an53 cd53 ct53, f_told_deed := f54, d_told_deed := PySem.W.fnOf "told_deed" "told_deed" (defArgs (top 40)) (defBody (top 40)) (defScope (top 40)) .none kV54 dc54 pm54 an54 cd54 ct54, f_told_state := f55, d_told_state := PySem.W.fnOf "told_state" "told_state" (defArgs (top 41)) (defBody (top 41)) (defScope (top 41)) .none kV55 dc55 pm55 an55 cd55 ct55, f_told_row := f56, d_told_row := PySem.W.fnOf "told_row" "told_row" (defArgs (top 42)) (defBody (top 42)) (defScope (top 42)) .none kV56 dc56 pm56 an56 cd56 ct56, f_answered := f57, d_answered := PySem.W.fnOf "answered" "answered" (defArgs (top 43)) (defBody (top 43)) (defScope (top 43)) .none kV57 dc57 pm57 an57 cd57 ct57, f_begun := f58, d_begun := PySem.W.fnOf "begun" "begun" (defArgs (top 44)) (defBody (top 44)) (defScope (top 44)) .none kV58 dc58 pm58 an58 cd58 ct58, f_told_by := f59, d_told_by := PySem.W.fnOf "told_by" "told_by" (defArgs (top 45)) (defBody (top 45)) (defScope (top 45)) .none kV59 dc59 pm59 an59 cd59 ct59, f_answers := f60, d_answers := PySem.W.fnOf "answers" "answers" (defArgs (top 46)) (defBody (top 46)) (defScope (top 46)) .none kV60 dc60 pm60 an60 cd60 ct60 } := by
  have F0 := fun_mk (st := (top 2)) l0 c0 k0
  have F1 := fun_mk (st := (inClass (top 3) 0)) l1 c1 k1
  have F2 := fun_mk (st := (inClass (top 3) 1)) l2 c2 k2
  have F3 := fun_mk (st := (inClass (top 3) 2)) l3 c3 k3
  have F4 := fun_mk (st := (inClass (top 3) 3)) l4 c4 k4
  have F5 := fun_mk (st := (inClass (top 4) 0)) l5 c5 k5
  have F6 := fun_mk (st := (inClass (top 4) 1)) l6 c6 k6
  have F7 := fun_mk (st := (inClass (top 4) 2)) l7 c7 k7
  have F8 := fun_mk (st := (inClass (top 4) 3)) l8 c8 k8
  have F9 := fun_mk (st := (inClass (top 4) 4)) l9 c9 k9
  have F10 := fun_mk (st := (inClass (top 4) 5)) l10 c10 k10
  have F11 := fun_mk (st := (inClass (top 4) 6)) l11 c11 k11
  have F12 := fun_mk (st := (inClass (top 4) 7)) l12 c12 k12
  have F13 := fun_mk (st := (inClass (top 6) 0)) l13 c13 k13
  have F14 := fun_mk (st := (inClass (top 6) 1)) l14 c14 k14
  have F15 := fun_mk (st := (inClass (top 6) 2)) l15 c15 k15
  have F16 := fun_mk (st := (inClass (top 7) 0)) l16 c16 k16
  have F17 := fun_mk (st := (inClass (top 7) 1)) l17 c17 k17
  have F18 := fun_mk (st := (inClass (top 7) 2)) l18 c18 k18
  have F19 := fun_mk (st := (top 8)) l19 c19 k19
  have F20 := fun_mk (st := (inClass (top 9) 0)) l20 c20 k20
  have F21 := fun_mk (st := (inClass (top 9) 1)) l21 c21 k21
  have F22 := fun_mk (st := (inClass (top 9) 2)) l22 c22 k22
  have F23 := fun_mk (st := (inClass (top 9) 3)) l23 c23 k23
  have F24 := fun_mk (st := (inClass (top 9) 4)) l24 c24 k24
  have F25 := fun_mk (st := (inClass (top 9) 5)) l25 c25 k25
  have F26 := fun_mk (st := (inClass (top 11) 0)) l26 c26 k26
  have F27 := fun_mk (st := (top 12)) l27 c27 k27
  have F28 := fun_mk (st := (top 14)) l28 c28 k28
  have F29 := fun_mk (st := (top 15)) l29 c29 k29
  have F30 := fun_mk (st := (top 16)) l30 c30 k30
  have F31 := fun_mk (st := (top 17)) l31 c31 k31
  have F32 := fun_mk (st := (top 18)) l32 c32 k32
  have F33 := fun_mk (st := (top 19)) l33 c33 k33
  have F34 := fun_mk (st := (top 38)) l34 c34 k34
  have F35 := fun_mk (st := (inClass (top 39) 0)) l35 c35 k35
  have F36 := fun_mk (st := (inClass (top 39) 1)) l36 c36 k36
  have F37 := fun_mk (st := (inClass (top 39) 2)) l37 c37 k37
  have F38 := fun_mk (st := (inClass (top 39) 3)) l38 c38 k38
  have F39 := fun_mk (st := (inClass (top 39) 4)) l39 c39 k39
  have F40 := fun_mk (st := (inClass (top 39) 5)) l40 c40 k40
  have F41 := fun_mk (st := (inClass (top 39) 6)) l41 c41 k41
  have F42 := fun_mk (st := (inClass (top 39) 7)) l42 c42 k42
  have F43 := fun_mk (st := (inClass (top 39) 8)) l43 c43 k43
  have F44 := fun_mk (st := (inClass (top 39) 9)) l44 c44 k44
  have F45 := fun_mk (st := (inClass (top 39) 10)) l45 c45 k45
  have F46 := fun_mk (st := (inClass (top 39) 11)) l46 c46 k46
  have F47 := fun_mk (st := (inClass (top 39) 12)) l47 c47 k47
  have F48 := fun_mk (st := (inClass (top 39) 13)) l48 c48 k48
  have F49 := fun_mk (st := (inClass (top 39) 14)) l49 c49 k49
  have F50 := fun_mk (st := (inClass (top 39) 15)) l50 c50 k50
  have F51 := fun_mk (st := (inClass (top 39) 16)) l51 c51 k51
  have F52 := fun_mk (st := (inClass (top 39) 17)) l52 c52 k52
  have F53 := fun_mk (st := (inClass (top 39) 18)) l53 c53 k53
  have F54 := fun_mk (st := (top 40)) l54 c54 k54
  have F55 := fun_mk (st := (top 41)) l55 c55 k55
  have F56 := fun_mk (st := (top 42)) l56 c56 k56
  have F57 := fun_mk (st := (top 43)) l57 c57 k57
  have F58 := fun_mk (st := (top 44)) l58 c58 k58
  have F59 := fun_mk (st := (top 45)) l59 c59 k59
  have F60 := fun_mk (st := (top 46)) l60 c60 k60
  exact {
    gC_Change := PySem.W.mg_of X G aChange
    c_Change := ⟨pgChange, hdChange, poChange, saChange⟩
    mk_Change := ⟨mkChange, a1, i1, kcChange⟩
    n_Change_asked := nChangeasked
    n_Change_so := nChangeso
    n_Change_touched := nChangetouched
    n_Change_made := nChangemade
    gC_World := PySem.W.mg_of X G aWorld
    c_World := ⟨pgWorld, hdWorld, poWorld, saWorld⟩
    mk_World := ⟨mkWorld, a5, i5, kcWorld⟩
    n_World_every := nWorldevery
    n_World_deeds := nWorlddeeds
    n_World_events := nWorldevents
    n_World_state := nWorldstate
    gC_Aim := PySem.W.mg_of X G aAim
    c_Aim := ⟨pgAim, hdAim, poAim, saAim⟩
    mk_Aim := ⟨mkAim, a13, i13, kcAim⟩
    n_Aim_facts := nAimfacts
    n_Aim_so := nAimso
    gC_Other := PySem.W.mg_of X G aOther
    c_Other := ⟨pgOther, hdOther, poOther, saOther⟩
    mk_Other := ⟨mkOther, a16, i16, kcOther⟩
    n_Other_aim := nOtheraim
    n_Other_worth := nOtherworth
    n_Other_steps := nOthersteps
    gC_Chances := PySem.W.mg_of X G aChances
    c_Chances := ⟨pgChances, hdChances, poChances, saChances⟩
    mk_Chances := ⟨mkChances, a20, i20, kcChances⟩
    n_Chances_world := nChancesworld
    n_Chances_others := nChancesothers
    n_Chances_known := nChancesknown
    gC_Refused := PySem.W.mg_of X G aRefused
    gC_Line := PySem.W.mg_of X G aLine
    c_Line := ⟨pgLine, hdLine, poLine, saLine⟩
    mk_Line := ⟨mkLine, a35, i35, kcLine⟩
    n_Line_world := nLineworld
    n_Line_others := nLineothers
    oex := ⟨⟨_, _, _, _, _, _, _, _, _, _, _, _, _, _, _, xR, by decide +kernel⟩, saR, exR, tyR, kcR⟩
    xf := ⟨gaR, ggR, exR, hdR⟩
    iR := a26
    tyR := i26
    nR_number := nbR
    eR := exm_self exR icR tyR scR
    vV := vV
    g_BEGIN := ⟨_, PySem.W.mg_of X G gBEGIN⟩
    g_NOT_BEGUN := ⟨_, PySem.W.mg_of X G gNOT_BEGUN⟩
    g_ABSENT := ⟨_, PySem.W.mg_of X G gABSENT⟩
    g_OUT_OF_RANGE := ⟨_, PySem.W.mg_of X G gOUT_OF_RANGE⟩
    g_ALIKE := ⟨_, PySem.W.mg_of X G gALIKE⟩
    g_TOO_MANY := ⟨_, PySem.W.mg_of X G gTOO_MANY⟩
    g_NOT_LET := ⟨_, PySem.W.mg_of X G gNOT_LET⟩
    g_IN_VAIN := ⟨_, PySem.W.mg_of X G gIN_VAIN⟩
    g_LEAST_FACTS := ⟨_, PySem.W.mg_of X G gLEAST_FACTS⟩
    g_MOST_FACTS := ⟨_, PySem.W.mg_of X G gMOST_FACTS⟩
    g_MOST_DEEDS := ⟨_, PySem.W.mg_of X G gMOST_DEEDS⟩
    g_MOST_EVENTS := ⟨_, PySem.W.mg_of X G gMOST_EVENTS⟩
    g_MOST_AIMS := ⟨_, PySem.W.mg_of X G gMOST_AIMS⟩
    g_MOST_WORTH := ⟨_, PySem.W.mg_of X G gMOST_WORTH⟩
    g_MOST_TIME := ⟨_, PySem.W.mg_of X G gMOST_TIME⟩
    g_MOST_STEPS := ⟨_, PySem.W.mg_of X G gMOST_STEPS⟩
    g_EVERY := PySem.W.mg_of X G gEVERY
    q_EVERY := fun H => .inr ⟨_, _, _, lEVERY, rfl, rfl, (show 6 ≤ sizeLine by decide), .cons ⟨_, rfl⟩ (.cons ⟨_, rfl⟩ (.cons ⟨_, rfl⟩ (.cons ⟨_, rfl⟩ (.cons ⟨_, rfl⟩ (.cons ⟨_, rfl⟩ (.nil))))))⟩
    g_SIZES := PySem.W.mg_of X G gSIZES
    q_SIZES := fun H => .inr ⟨_, _, _, lSIZES, rfl, rfl, (show 22 ≤ sizeLine by decide), .cons ⟨_, rfl⟩ (.cons ⟨_, rfl⟩ (.cons ⟨_, rfl⟩ (.cons ⟨_, rfl⟩ (.cons ⟨_, rfl⟩ (.cons ⟨_, rfl⟩ (.cons ⟨_, rfl⟩ (.cons ⟨_, rfl⟩ (.cons ⟨_, rfl⟩ (.cons ⟨_, rfl⟩ (.cons ⟨_, rfl⟩ (.cons ⟨_, rfl⟩ (.cons ⟨_, rfl⟩ (.cons ⟨_, rfl⟩ (.cons ⟨_, rfl⟩ (.cons ⟨_, rfl⟩ (.cons ⟨_, rfl⟩ (.cons ⟨_, rfl⟩ (.cons ⟨_, rfl⟩ (.cons ⟨_, rfl⟩ (.cons ⟨_, rfl⟩ (.cons ⟨_, rfl⟩ (.nil))))))))))))))))))))))⟩
    len := PySem.W.mg_none_of X G blen
    any := PySem.W.mg_none_of X G bany
    sum := PySem.W.mg_none_of X G bsum
    min := PySem.W.mg_none_of X G bmin
    list := PySem.W.mg_none_of X G blist
    range := PySem.W.mg_none_of X G brange
    enumerate := PySem.W.mg_none_of X G benumerate
    ValueError := PySem.W.mg_none_of X G bValueError
    F_is_within := F0
    b_is_within := F0.binds (ps := ["part", "whole"]) fun _ _ _ _ _ _ us hl => match us, hl with | [_, _], _ => rfl
    g_is_within := PySem.W.mg_of X G a0
    F_Change_init := F1
    b_Change_init := F1.binds (ps := ["self", "asked", "so", "touched", "made"]) fun _ _ _ _ _ _ us hl => match us, hl with | [_, _, _, _, _], _ => rfl
    F_Change_is_one := F2
    b_Change_is_one := F2.binds (ps := ["self", "every"]) fun _ _ _ _ _ _ us hl => match us, hl with | [_, _], _ => rfl
    m_Change_is_one := ⟨a2, i2, k2⟩
    F_Change_is_let := F3
    b_Change_is_let := F3.binds (ps := ["self", "state"]) fun _ _ _ _ _ _ us hl => match us, hl with | [_, _], _ => rfl
    m_Change_is_let := ⟨a3, i3, k3⟩
    F_Change_done := F4
    b_Change_done := F4.binds (ps := ["self", "state"]) fun _ _ _ _ _ _ us hl => match us, hl with | [_, _], _ => rfl
    m_Change_done := ⟨a4, i4, k4⟩
    F_World_init := F5
    b_World_init := F5.binds (ps := ["self", "many"]) fun _ _ _ _ _ _ us hl => match us, hl with | [_, _], _ => rfl
    F_World_waiting := F6
    b_World_waiting := F6.binds (ps := ["self"]) fun _ _ _ _ _ _ us hl => match us, hl with | [_], _ => rfl
    m_World_waiting := ⟨a6, i6, k6⟩
    F_World_choices := F7
    b_World_choices := F7.binds (ps := ["self"]) fun _ _ _ _ _ _ us hl => match us, hl with | [_], _ => rfl
    m_World_choices := ⟨a7, i7, k7⟩
    F_World_is_state := F8
    b_World_is_state := F8.binds (ps := ["self", "number"]) fun _ _ _ _ _ _ us hl => match us, hl with | [_, _], _ => rfl
    m_World_is_state := ⟨a8, i8, k8⟩
    F_World_is_let := F9
    b_World_is_let := F9.binds (ps := ["self", "state", "choice"]) fun _ _ _ _ _ _ us hl => match us, hl with | [_, _, _], _ => rfl
    m_World_is_let := ⟨a9, i9, k9⟩
    F_World_behind := F10
    b_World_behind := F10.binds (ps := ["self", "state", "choice"]) fun _ _ _ _ _ _ us hl => match us, hl with | [_, _, _], _ => rfl
    m_World_behind := ⟨a10, i10, k10⟩
    F_World_followers := F11
    b_World_followers := F11.binds (ps := ["self", "state"]) fun _ _ _ _ _ _ us hl => match us, hl with | [_, _], _ => rfl
    m_World_followers := ⟨a11, i11, k11⟩
    F_World_waited := F12
    b_World_waited := F12.binds (ps := ["self", "state", "many"]) fun _ _ _ _ _ _ us hl => match us, hl with | [_, _, _], _ => rfl
    m_World_waited := ⟨a12, i12, k12⟩
    F_Aim_init := F13
    b_Aim_init := F13.binds (ps := ["self", "facts", "so"]) fun _ _ _ _ _ _ us hl => match us, hl with | [_, _, _], _ => rfl
    F_Aim_is_one := F14
    b_Aim_is_one := F14.binds (ps := ["self", "every"]) fun _ _ _ _ _ _ us hl => match us, hl with | [_, _], _ => rfl
    m_Aim_is_one := ⟨a14, i14, k14⟩
    F_Aim_is_so := F15
    b_Aim_is_so := F15.binds (ps := ["self", "state"]) fun _ _ _ _ _ _ us hl => match us, hl with | [_, _], _ => rfl
    m_Aim_is_so := ⟨a15, i15, k15⟩
    F_Other_init := F16
    b_Other_init := F16.binds (ps := ["self", "aim", "worth", "steps"]) fun _ _ _ _ _ _ us hl => match us, hl with | [_, _, _, _], _ => rfl
    F_Other_told := F17
    b_Other_told := F17.binds (ps := ["self"]) fun _ _ _ _ _ _ us hl => match us, hl with | [_], _ => rfl
    m_Other_told := ⟨a17, i17, k17⟩
    F_Other_is_like := F18
    b_Other_is_like := F18.binds (ps := ["self", "other"]) fun _ _ _ _ _ _ us hl => match us, hl with | [_, _], _ => rfl
    m_Other_is_like := ⟨a18, i18, k18⟩
    F_can_be_come_to := F19
    b_can_be_come_to := F19.binds (ps := ["world", "state", "aim", "many"]) fun _ _ _ _ _ _ us hl => match us, hl with | [_, _, _, _], _ => rfl
    g_can_be_come_to := PySem.W.mg_of X G a19
    F_Chances_init := F20
    b_Chances_init := F20.binds (ps := ["self", "world", "others"]) fun _ _ _ _ _ _ us hl => match us, hl with | [_, _, _], _ => rfl
    F_Chances_possible := F21
    b_Chances_possible := F21.binds (ps := ["self", "state"]) fun _ _ _ _ _ _ us hl => match us, hl with | [_, _], _ => rfl
    m_Chances_possible := ⟨a21, i21, k21⟩
    F_Chances_worth_of := F22
    b_Chances_worth_of := F22.binds (ps := ["self", "numbers"]) fun _ _ _ _ _ _ us hl => match us, hl with | [_, _], _ => rfl
    m_Chances_worth_of := ⟨a22, i22, k22⟩
    F_Chances_kept := F23
    b_Chances_kept := F23.binds (ps := ["self", "state"]) fun _ _ _ _ _ _ us hl => match us, hl with | [_, _], _ => rfl
    m_Chances_kept := ⟨a23, i23, k23⟩
    F_Chances_lost := F24
    b_Chances_lost := F24.binds (ps := ["self", "state", "steps"]) fun _ _ _ _ _ _ us hl => match us, hl with | [_, _, _], _ => rfl
    m_Chances_lost := ⟨a24, i24, k24⟩
    F_Chances_loss := F25
    b_Chances_loss := F25.binds (ps := ["self", "state", "steps"]) fun _ _ _ _ _ _ us hl => match us, hl with | [_, _, _], _ => rfl
    m_Chances_loss := ⟨a25, i25, k25⟩
    F_Refused_init := F26
    b_Refused_init := F26.binds (ps := ["self", "number"]) fun _ _ _ _ _ _ us hl => match us, hl with | [_, _], _ => rfl
    F_refuse_if := F27
    b_refuse_if := F27.binds (ps := ["is_so", "number"]) fun _ _ _ _ _ _ us hl => match us, hl with | [_, _], _ => rfl
    g_refuse_if := PySem.W.mg_of X G a27
    F_next_rows := F28
    b_next_rows := F28.binds (ps := ["world", "rows"]) fun _ _ _ _ _ _ us hl => match us, hl with | [_, _], _ => rfl
    g_next_rows := PySem.W.mg_of X G a28
    F_all_ends := F29
    b_all_ends := F29.binds (ps := ["world", "aim", "most"]) fun _ _ _ _ _ _ us hl => match us, hl with | [_, _, _], _ => rfl
    g_all_ends := PySem.W.mg_of X G a29
    F_first_of := F30
    b_first_of := F30.binds (ps := ["ends"]) fun _ _ _ _ _ _ us hl => match us, hl with | [_], _ => rfl
    g_first_of := PySem.W.mg_of X G a30
    F_least_lost := F31
    b_least_lost := F31.binds (ps := ["world", "chances", "aim", "most"]) fun _ _ _ _ _ _ us hl => match us, hl with | [_, _, _, _], _ => rfl
    g_least_lost := PySem.W.mg_of X G a31
    F_most_kept := F32
    b_most_kept := F32.binds (ps := ["world", "chances", "aim", "most"]) fun _ _ _ _ _ _ us hl => match us, hl with | [_, _, _, _], _ => rfl
    g_most_kept := PySem.W.mg_of X G a32
    F_tidied := F33
    b_tidied := F33.binds (ps := ["world", "chances", "aim", "most"]) fun _ _ _ _ _ _ us hl => match us, hl with | [_, _, _, _], _ => rfl
    g_tidied := PySem.W.mg_of X G a33
    F_counted := F34
    b_counted := F34.binds (ps := ["row"]) fun _ _ _ _ _ _ us hl => match us, hl with | [_], _ => rfl
    g_counted := PySem.W.mg_of X G a34
    F_Line_init := F35
    b_Line_init := F35.binds (ps := ["self", "many"]) fun _ _ _ _ _ _ us hl => match us, hl with | [_, _], _ => rfl
    F_Line_chances := F36
    b_Line_chances := F36.binds (ps := ["self"]) fun _ _ _ _ _ _ us hl => match us, hl with | [_], _ => rfl
    m_Line_chances := ⟨a36, i36, k36⟩
    F_Line_look_there := F37
    b_Line_look_there := F37.binds (ps := ["self", "number", "row"]) fun _ _ _ _ _ _ us hl => match us, hl with | [_, _, _], _ => rfl
    m_Line_look_there := ⟨a37, i37, k37⟩
    F_Line_look_state := F38
    b_Line_look_state := F38.binds (ps := ["self", "state"]) fun _ _ _ _ _ _ us hl => match us, hl with | [_, _], _ => rfl
    m_Line_look_state := ⟨a38, i38, k38⟩
    F_Line_add_change := F39
    b_Line_add_change := F39.binds (ps := ["self", "numbers", "row", "most"]) fun _ _ _ _ _ _ us hl => match us, hl with | [_, _, _, _], _ => rfl
    m_Line_add_change := ⟨a39, i39, k39⟩
    F_Line_take_out := F40
    b_Line_take_out := F40.binds (ps := ["self", "number", "row"]) fun _ _ _ _ _ _ us hl => match us, hl with | [_, _, _], _ => rfl
    m_Line_take_out := ⟨a40, i40, k40⟩
    F_Line_set_state := F41
    b_Line_set_state := F41.binds (ps := ["self", "state"]) fun _ _ _ _ _ _ us hl => match us, hl with | [_, _], _ => rfl
    m_Line_set_state := ⟨a41, i41, k41⟩
    F_Line_do_deed := F42
    b_Line_do_deed := F42.binds (ps := ["self", "number"]) fun _ _ _ _ _ _ us hl => match us, hl with | [_, _], _ => rfl
    m_Line_do_deed := ⟨a42, i42, k42⟩
    F_Line_add_aim := F43
    b_Line_add_aim := F43.binds (ps := ["self", "numbers"]) fun _ _ _ _ _ _ us hl => match us, hl with | [_, _], _ => rfl
    m_Line_add_aim := ⟨a43, i43, k43⟩
    F_Line_told_aim := F44
    b_Line_told_aim := F44.binds (ps := ["self", "number"]) fun _ _ _ _ _ _ us hl => match us, hl with | [_, _], _ => rfl
    m_Line_told_aim := ⟨a44, i44, k44⟩
    F_Line_open_at := F45
    b_Line_open_at := F45.binds (ps := ["self", "state"]) fun _ _ _ _ _ _ us hl => match us, hl with | [_, _], _ => rfl
    m_Line_open_at := ⟨a45, i45, k45⟩
    F_Line_keeps := F46
    b_Line_keeps := F46.binds (ps := ["self", "state"]) fun _ _ _ _ _ _ us hl => match us, hl with | [_, _], _ => rfl
    m_Line_keeps := ⟨a46, i46, k46⟩
    F_Line_costs := F47
    b_Line_costs := F47.binds (ps := ["self", "choice"]) fun _ _ _ _ _ _ us hl => match us, hl with | [_, _], _ => rfl
    m_Line_costs := ⟨a47, i47, k47⟩
    F_Line_own_aim := F48
    b_Line_own_aim := F48.binds (ps := ["self", "numbers"]) fun _ _ _ _ _ _ us hl => match us, hl with | [_, _], _ => rfl
    m_Line_own_aim := ⟨a48, i48, k48⟩
    F_Line_least := F49
    b_Line_least := F49.binds (ps := ["self", "numbers"]) fun _ _ _ _ _ _ us hl => match us, hl with | [_, _], _ => rfl
    m_Line_least := ⟨a49, i49, k49⟩
    F_Line_most := F50
    b_Line_most := F50.binds (ps := ["self", "numbers"]) fun _ _ _ _ _ _ us hl => match us, hl with | [_, _], _ => rfl
    m_Line_most := ⟨a50, i50, k50⟩
    F_Line_tidy := F51
    b_Line_tidy := F51.binds (ps := ["self", "numbers"]) fun _ _ _ _ _ _ us hl => match us, hl with | [_, _], _ => rfl
    m_Line_tidy := ⟨a51, i51, k51⟩
    F_Line_harmless := F52
    b_Line_harmless := F52.binds (ps := ["self"]) fun _ _ _ _ _ _ us hl => match us, hl with | [_], _ => rfl
    m_Line_harmless := ⟨a52, i52, k52⟩
    F_Line_last_chance := F53
    b_Line_last_chance := F53.binds (ps := ["self", "most"]) fun _ _ _ _ _ _ us hl => match us, hl with | [_, _], _ => rfl
    m_Line_last_chance := ⟨a53, i53, k53⟩
    F_told_deed := F54
    b_told_deed := F54.binds (ps := ["line", "call", "numbers"]) fun _ _ _ _ _ _ us hl => match us, hl with | [_, _, _], _ => rfl
    g_told_deed := PySem.W.mg_of X G a54
    F_told_state := F55
    b_told_state := F55.binds (ps := ["line", "call", "numbers"]) fun _ _ _ _ _ _ us hl => match us, hl with | [_, _, _], _ => rfl
    g_told_state := PySem.W.mg_of X G a55
    F_told_row := F56
    b_told_row := F56.binds (ps := ["line", "call", "numbers"]) fun _ _ _ _ _ _ us hl => match us, hl with | [_, _, _], _ => rfl
    g_told_row := PySem.W.mg_of X G a56
    F_answered := F57
    b_answered := F57.binds (ps := ["line", "call", "numbers"]) fun _ _ _ _ _ _ us hl => match us, hl with | [_, _, _], _ => rfl
    g_answered := PySem.W.mg_of X G a57
    F_begun := F58
    b_begun := F58.binds (ps := ["numbers"]) fun _ _ _ _ _ _ us hl => match us, hl with | [_], _ => rfl
    g_begun := PySem.W.mg_of X G a58
    F_told_by := F59
    b_told_by := F59.binds (ps := ["line", "call", "numbers"]) fun _ _ _ _ _ _ us hl => match us, hl with | [_, _, _], _ => rfl
    g_told_by := PySem.W.mg_of X G a59
    F_answers := F60
    b_answers := F60.binds (ps := ["calls"]) fun _ _ _ _ _ _ us hl => match us, hl with | [_], _ => rfl
    g_answers := PySem.W.mg_of X G a60 }
/-- the promise of answers, by the written part alone -/
def spAns (K : PySem.W.Frag) : Sp := Sp1 fun a H Q E => ∃ (p : Addr) (l : List Int), a = .ref p ∧ SqL K H p (l.map V.int) ∧ l.length ≤ 320 ∧ PyKp373.answers_asked l = true ∧ ∀ q H', H' q = some (.lst ((PyKp373.answers l).map V.int)) → Q (.ref q) H'
theorem all_mk {P : Program} {w : World} {K : PySem.W.Frag} {h : Heap} {mg : Str → Option Value} {fa : Addr} {A : Ad} (X : K.In h) (G : h.Ns mainGlobals mg) (hfa : mg "answers" = some (.ref fa)) (T : Txt K mg A)
    (hd : ∀ (s : Shared) (us : List Value), us.length = (["calls"] : List Str).length → BindsTo s A.d_answers ⟨us, []⟩ ((["calls"] : List Str).zip us)) :
    ∃ fd : FuncData, (∀ (s : Shared) (us : List Value), us.length = (["calls"] : List Str).length → BindsTo s fd ⟨us, []⟩ ((["calls"] : List Str).zip us)) ∧ ∀ base : Heap, K.In base → base.Ns mainGlobals mg → FnOk P w K mg base CX0 13 fa fd ["calls"] (spAns K) := by
  have e := hfa.symm.trans T.g_answers
  cases e
  exact ⟨A.d_answers, hd, fun base _ _ => ok_answers T⟩
end Kw
open PySem PySem.W PyProof.Rows
set_option maxRecDepth 100000 in
set_option maxHeartbeats 8000000 in
theorem PySem.Challenge.cw_keptpossible_s01_answers_holds : PySem.Challenge.rw_keptpossible_s01_answers.Holds := by
  w_on; k_headS; (case hw => exact ⟨[.list [.int 6]], by decide +kernel, by decide +kernel⟩)
  k_fillS
  refine L2.walk_specK (r := PySem.Challenge.rw_keptpossible_s01_answers) (k := 13) (CX := L2.CX0) (ps := ["calls"]) (sp := Kw.spAns) (by decide +kernel) rfl rfl ⟨rfl, by decide, by decide⟩ (fun w h Y => PySem.W.kIn_of Y) ?F ?S (fun _ _ _ _ z => z)
  case F =>
    intro w mg fa h Y KX G hmg
    refine' Kw.all_mk KX G hmg (Kw.txt_mk KX G ?aChange ?aWorld ?aAim ?aOther ?aChances ?aLine ?aRefused ?gBEGIN ?gNOT_BEGUN ?gABSENT ?gOUT_OF_RANGE ?gALIKE ?gTOO_MANY ?gNOT_LET ?gIN_VAIN ?gLEAST_FACTS ?gMOST_FACTS ?gMOST_DEEDS ?gMOST_EVENTS ?gMOST_AIMS ?gMOST_WORTH ?gMOST_TIME ?gMOST_STEPS ?gEVERY ?lEVERY ?gSIZES ?lSIZES ?blen ?bany ?bsum ?bmin ?blist ?brange ?benumerate ?bValueError ?a0 ?l0 ?c0 ?k0 ?a1 ?i1 ?l1 ?c1 ?k1 ?a2 ?i2 ?l2 ?c2 ?k2 ?a3 ?i3 ?l3 ?c3 ?k3 ?a4 ?i4 ?l4 ?c4 ?k4 ?a5 ?i5 ?l5 ?c5 ?k5 ?a6 ?i6 ?l6 ?c6 ?k6 ?a7 ?i7 ?l7 ?c7 ?k7 ?a8 ?i8 ?l8 ?c8 ?k8 ?a9 ?i9 ?l9 ?c9 ?k9 ?a10 ?i10 ?l10 ?c10 ?k10 ?a11 ?i11 ?l11 ?c11 ?k11 ?a12 ?i12 ?l12 ?c12 ?k12 ?a13 ?i13 ?l13 ?c13 ?k13 ?a14 ?i14 ?l14 ?c14 ?k14 ?a15 ?i15 ?l15 ?c15 ?k15 ?a16 ?i16 ?l16 ?c16 ?k16 ?a17 ?i17 ?l17 ?c17 ?k17 ?a18 ?i18 ?l18 ?c18 ?k18 ?a19 ?l19 ?c19 ?k19 ?a20 ?i20 ?l20 ?c20 ?k20 ?a21 ?i21 ?l21 ?c21 ?k21 ?a22 ?i22 ?l22 ?c22 ?k22 ?a23 ?i23 ?l23 ?c23 ?k23 ?a24 ?i24 ?l24 ?c24 ?k24 ?a25 ?i25 ?l25 ?c25 ?k25 ?a26 ?i26 ?l26 ?c26 ?k26 ?a27 ?l27 ?c27 ?k27 ?a28 ?l28 ?c28 ?k28 ?a29 ?l29 ?c29 ?k29 ?a30 ?l30 ?c30 ?k30 ?a31 ?l31 ?c31 ?k31 ?a32 ?l32 ?c32 ?k32 ?a33 ?l33 ?c33 ?k33 ?a34 ?l34 ?c34 ?k34 ?a35 ?i35 ?l35 ?c35 ?k35 ?a36 ?i36 ?l36 ?c36 ?k36 ?a37 ?i37 ?l37 ?c37 ?k37 ?a38 ?i38 ?l38 ?c38 ?k38 ?a39 ?i39 ?l39 ?c39 ?k39 ?a40 ?i40 ?l40 ?c40 ?k40 ?a41 ?i41 ?l41 ?c41 ?k41 ?a42 ?i42 ?l42 ?c42 ?k42 ?a43 ?i43 ?l43 ?c43 ?k43 ?a44 ?i44 ?l44 ?c44 ?k44 ?a45 ?i45 ?l45 ?c45 ?k45 ?a46 ?i46 ?l46 ?c46 ?k46 ?a47 ?i47 ?l47 ?c47 ?k47 ?a48 ?i48 ?l48 ?c48 ?k48 ?a49 ?i49 ?l49 ?c49 ?k49 ?a50 ?i50 ?l50 ?c50 ?k50 ?a51 ?i51 ?l51 ?c51 ?k51 ?a52 ?i52 ?l52 ?c52 ?k52 ?a53 ?i53 ?l53 ?c53 ?k53 ?a54 ?l54 ?c54 ?k54 ?a55 ?l55 ?c55 ?k55 ?a56 ?l56 ?c56 ?k56 ?a57 ?l57 ?c57 ?k57 ?a58 ?l58 ?c58 ?k58 ?a59 ?l59 ?c59 ?k59 ?a60 ?l60 ?c60 ?k60 ?pgChange ?hdChange ?poChange ?saChange ?mkChange ?kcChange ?nChangeasked ?nChangeso ?nChangetouched ?nChangemade ?pgWorld ?hdWorld ?poWorld ?saWorld ?mkWorld ?kcWorld ?nWorldevery ?nWorlddeeds ?nWorldevents ?nWorldstate ?pgAim ?hdAim ?poAim ?saAim ?mkAim ?kcAim ?nAimfacts ?nAimso ?pgOther ?hdOther ?poOther ?saOther ?mkOther ?kcOther ?nOtheraim ?nOtherworth ?nOthersteps ?pgChances ?hdChances ?poChances ?saChances ?mkChances ?kcChances ?nChancesworld ?nChancesothers ?nChancesknown ?pgLine ?hdLine ?poLine ?saLine ?mkLine ?kcLine ?nLineworld ?nLineothers ?xR ?saR ?gaR ?ggR ?nbR ?kcR ?exR ?tyR ?hdR ?icR ?scR ?vV) (fun s us hu => match us, hu with | [_], _ => .of_eq rfl)
    (case aChange => k_is)
    (case aWorld => k_is)
    (case aAim => k_is)
    (case aOther => k_is)
    (case aChances => k_is)
    (case aLine => k_is)
    (case aRefused => k_is)
    (case gBEGIN => k_is)
    (case gNOT_BEGUN => k_is)
    (case gABSENT => k_is)
    (case gOUT_OF_RANGE => k_is)
    (case gALIKE => k_is)
    (case gTOO_MANY => k_is)
    (case gNOT_LET => k_is)
    (case gIN_VAIN => k_is)
    (case gLEAST_FACTS => k_is)
    (case gMOST_FACTS => k_is)
    (case gMOST_DEEDS => k_is)
    (case gMOST_EVENTS => k_is)
    (case gMOST_AIMS => k_is)
    (case gMOST_WORTH => k_is)
    (case gMOST_TIME => k_is)
    (case gMOST_STEPS => k_is)
    (case gEVERY => k_is)
    (case lEVERY => k_is)
    (case gSIZES => k_is)
    (case lSIZES => k_is)
    (case blen => k_is)
    (case bany => k_is)
    (case bsum => k_is)
    (case bmin => k_is)
    (case blist => k_is)
    (case brange => k_is)
    (case benumerate => k_is)
    (case bValueError => k_is)
    (case a0 => k_is)
    (case l0 => k_is)
    (case c0 => k_is)
    (case k0 => k_is)
    (case a1 => k_is)
    (case i1 => k_is)
    (case l1 => k_is)
    (case c1 => k_is)
    (case k1 => k_is)
    (case a2 => k_is)
    (case i2 => k_is)
    (case l2 => k_is)
    (case c2 => k_is)
    (case k2 => k_is)
    (case a3 => k_is)
    (case i3 => k_is)
    (case l3 => k_is)
    (case c3 => k_is)
    (case k3 => k_is)
    (case a4 => k_is)
    (case i4 => k_is)
    (case l4 => k_is)
    (case c4 => k_is)
    (case k4 => k_is)
    (case a5 => k_is)
    (case i5 => k_is)
    (case l5 => k_is)
    (case c5 => k_is)
    (case k5 => k_is)
    (case a6 => k_is)
    (case i6 => k_is)
    (case l6 => k_is)
    (case c6 => k_is)
    (case k6 => k_is)
    (case a7 => k_is)
    (case i7 => k_is)
    (case l7 => k_is)
    (case c7 => k_is)
    (case k7 => k_is)
    (case a8 => k_is)
    (case i8 => k_is)
    (case l8 => k_is)
    (case c8 => k_is)
    (case k8 => k_is)
    (case a9 => k_is)
    (case i9 => k_is)
    (case l9 => k_is)
    (case c9 => k_is)
    (case k9 => k_is)
    (case a10 => k_is)
    (case i10 => k_is)
    (case l10 => k_is)
    (case c10 => k_is)
    (case k10 => k_is)
    (case a11 => k_is)
    (case i11 => k_is)
    (case l11 => k_is)
    (case c11 => k_is)
    (case k11 => k_is)
    (case a12 => k_is)
    (case i12 => k_is)
    (case l12 => k_is)
    (case c12 => k_is)
    (case k12 => k_is)
    (case a13 => k_is)
    (case i13 => k_is)
    (case l13 => k_is)
    (case c13 => k_is)
    (case k13 => k_is)
    (case a14 => k_is)
    (case i14 => k_is)
    (case l14 => k_is)
    (case c14 => k_is)
    (case k14 => k_is)
    (case a15 => k_is)
    (case i15 => k_is)
    (case l15 => k_is)
    (case c15 => k_is)
    (case k15 => k_is)
    (case a16 => k_is)
    (case i16 => k_is)
    (case l16 => k_is)
    (case c16 => k_is)
    (case k16 => k_is)
    (case a17 => k_is)
    (case i17 => k_is)
    (case l17 => k_is)
    (case c17 => k_is)
    (case k17 => k_is)
    (case a18 => k_is)
    (case i18 => k_is)
    (case l18 => k_is)
    (case c18 => k_is)
    (case k18 => k_is)
    (case a19 => k_is)
    (case l19 => k_is)
    (case c19 => k_is)
    (case k19 => k_is)
    (case a20 => k_is)
    (case i20 => k_is)
    (case l20 => k_is)
    (case c20 => k_is)
    (case k20 => k_is)
    (case a21 => k_is)
    (case i21 => k_is)
    (case l21 => k_is)
    (case c21 => k_is)
    (case k21 => k_is)
    (case a22 => k_is)
    (case i22 => k_is)
    (case l22 => k_is)
    (case c22 => k_is)
    (case k22 => k_is)
    (case a23 => k_is)
    (case i23 => k_is)
    (case l23 => k_is)
    (case c23 => k_is)
    (case k23 => k_is)
    (case a24 => k_is)
    (case i24 => k_is)
    (case l24 => k_is)
    (case c24 => k_is)
    (case k24 => k_is)
    (case a25 => k_is)
    (case i25 => k_is)
    (case l25 => k_is)
    (case c25 => k_is)
    (case k25 => k_is)
    (case a26 => k_is)
    (case i26 => k_is)
    (case l26 => k_is)
    (case c26 => k_is)
    (case k26 => k_is)
    (case a27 => k_is)
    (case l27 => k_is)
    (case c27 => k_is)
    (case k27 => k_is)
    (case a28 => k_is)
    (case l28 => k_is)
    (case c28 => k_is)
    (case k28 => k_is)
    (case a29 => k_is)
    (case l29 => k_is)
    (case c29 => k_is)
    (case k29 => k_is)
    (case a30 => k_is)
    (case l30 => k_is)
    (case c30 => k_is)
    (case k30 => k_is)
    (case a31 => k_is)
    (case l31 => k_is)
    (case c31 => k_is)
    (case k31 => k_is)
    (case a32 => k_is)
    (case l32 => k_is)
    (case c32 => k_is)
    (case k32 => k_is)
    (case a33 => k_is)
    (case l33 => k_is)
    (case c33 => k_is)
    (case k33 => k_is)
    (case a34 => k_is)
    (case l34 => k_is)
    (case c34 => k_is)
    (case k34 => k_is)
    (case a35 => k_is)
    (case i35 => k_is)
    (case l35 => k_is)
    (case c35 => k_is)
    (case k35 => k_is)
    (case a36 => k_is)
    (case i36 => k_is)
    (case l36 => k_is)
    (case c36 => k_is)
    (case k36 => k_is)
    (case a37 => k_is)
    (case i37 => k_is)
    (case l37 => k_is)
    (case c37 => k_is)
    (case k37 => k_is)
    (case a38 => k_is)
    (case i38 => k_is)
    (case l38 => k_is)
    (case c38 => k_is)
    (case k38 => k_is)
    (case a39 => k_is)
    (case i39 => k_is)
    (case l39 => k_is)
    (case c39 => k_is)
    (case k39 => k_is)
    (case a40 => k_is)
    (case i40 => k_is)
    (case l40 => k_is)
    (case c40 => k_is)
    (case k40 => k_is)
    (case a41 => k_is)
    (case i41 => k_is)
    (case l41 => k_is)
    (case c41 => k_is)
    (case k41 => k_is)
    (case a42 => k_is)
    (case i42 => k_is)
    (case l42 => k_is)
    (case c42 => k_is)
    (case k42 => k_is)
    (case a43 => k_is)
    (case i43 => k_is)
    (case l43 => k_is)
    (case c43 => k_is)
    (case k43 => k_is)
    (case a44 => k_is)
    (case i44 => k_is)
    (case l44 => k_is)
    (case c44 => k_is)
    (case k44 => k_is)
    (case a45 => k_is)
    (case i45 => k_is)
    (case l45 => k_is)
    (case c45 => k_is)
    (case k45 => k_is)
    (case a46 => k_is)
    (case i46 => k_is)
    (case l46 => k_is)
    (case c46 => k_is)
    (case k46 => k_is)
    (case a47 => k_is)
    (case i47 => k_is)
    (case l47 => k_is)
    (case c47 => k_is)
    (case k47 => k_is)
    (case a48 => k_is)
    (case i48 => k_is)
    (case l48 => k_is)
    (case c48 => k_is)
    (case k48 => k_is)
    (case a49 => k_is)
    (case i49 => k_is)
    (case l49 => k_is)
    (case c49 => k_is)
    (case k49 => k_is)
    (case a50 => k_is)
    (case i50 => k_is)
    (case l50 => k_is)
    (case c50 => k_is)
    (case k50 => k_is)
    (case a51 => k_is)
    (case i51 => k_is)
    (case l51 => k_is)
    (case c51 => k_is)
    (case k51 => k_is)
    (case a52 => k_is)
    (case i52 => k_is)
    (case l52 => k_is)
    (case c52 => k_is)
    (case k52 => k_is)
    (case a53 => k_is)
    (case i53 => k_is)
    (case l53 => k_is)
    (case c53 => k_is)
    (case k53 => k_is)
    (case a54 => k_is)
    (case l54 => k_is)
    (case c54 => k_is)
    (case k54 => k_is)
    (case a55 => k_is)
    (case l55 => k_is)
    (case c55 => k_is)
    (case k55 => k_is)
    (case a56 => k_is)
    (case l56 => k_is)
    (case c56 => k_is)
    (case k56 => k_is)
    (case a57 => k_is)
    (case l57 => k_is)
    (case c57 => k_is)
    (case k57 => k_is)
    (case a58 => k_is)
    (case l58 => k_is)
    (case c58 => k_is)
    (case k58 => k_is)
    (case a59 => k_is)
    (case l59 => k_is)
    (case c59 => k_is)
    (case k59 => k_is)
    (case a60 => k_is)
    (case l60 => k_is)
    (case c60 => k_is)
    (case k60 => k_is)
    (case pgChange => k_is)
    (case hdChange => k_is)
    (case poChange => k_is)
    (case saChange => k_is)
    (case mkChange => k_is)
    (case kcChange => k_is)
    (case nChangeasked => k_is)
    (case nChangeso => k_is)
    (case nChangetouched => k_is)
    (case nChangemade => k_is)
    (case pgWorld => k_is)
    (case hdWorld => k_is)
    (case poWorld => k_is)
    (case saWorld => k_is)
    (case mkWorld => k_is)
    (case kcWorld => k_is)
    (case nWorldevery => k_is)
    (case nWorlddeeds => k_is)
    (case nWorldevents => k_is)
    (case nWorldstate => k_is)
    (case pgAim => k_is)
    (case hdAim => k_is)
    (case poAim => k_is)
    (case saAim => k_is)
    (case mkAim => k_is)
    (case kcAim => k_is)
    (case nAimfacts => k_is)
    (case nAimso => k_is)
    (case pgOther => k_is)
    (case hdOther => k_is)
    (case poOther => k_is)
    (case saOther => k_is)
    (case mkOther => k_is)
    (case kcOther => k_is)
    (case nOtheraim => k_is)
    (case nOtherworth => k_is)
    (case nOthersteps => k_is)
    (case pgChances => k_is)
    (case hdChances => k_is)
    (case poChances => k_is)
    (case saChances => k_is)
    (case mkChances => k_is)
    (case kcChances => k_is)
    (case nChancesworld => k_is)
    (case nChancesothers => k_is)
    (case nChancesknown => k_is)
    (case pgLine => k_is)
    (case hdLine => k_is)
    (case poLine => k_is)
    (case saLine => k_is)
    (case mkLine => k_is)
    (case kcLine => k_is)
    (case nLineworld => k_is)
    (case nLineothers => k_is)
    (case xR => k_is)
    (case saR => k_is)
    (case gaR => k_is)
    (case ggR => k_is)
    (case nbR => k_is)
    (case kcR => k_is)
    (case exR => k_is)
    (case tyR => k_is)
    (case hdR => k_is)
    (case icR => k_is)
    (case scR => first | rfl | k_is)
    (case vV => first | rfl | k_is)
  case S =>
    intro K H xs a hO hwi hask hx
    cases hx with
    | cons h1 h2 =>
      cases h2
      cases h1 with
      | lst hs ha =>
        have e := L2.ints_dw a.1 _ ha
        subst e
        have q : ((Codec.inLen 0 320 a.1 && a.1.all (Codec.inInt 0 4294967295)) && true) = true := hwi
        rw [Bool.and_eq_true, Bool.and_eq_true] at q
        exact ⟨_, rfl, _, a.1, rfl, hs, (Codec.inNat_iff.mp q.1.1).2, hask, fun q H' hp => .lst (L2.SqL.of hp) (L2.dw_ints _)⟩
