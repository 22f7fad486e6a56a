import PyProof.Rows.All
import Wide.All
import OpenK.AllK
import Wide.FinOn
import Open.SpecLaws
import KE.OsGo
import HandS.ForSpec
import HandS.Comp
import HandS.Dict
import HandS.Iter
import HandS.Conv
import HandS.WordsDict
import HandS.SortInts
import HandS.TupAny
import HandS.Zip
import PySem.Challenge.RW_chessends_s01_answers
section
set_option Elab.async false
/- Levels: wins, loses by moves; how they follow one another. Plain Lean. -/
namespace Ch
open Sn80

theorem pos_ext {p q : Pos} (h1 : p.wk = q.wk) (h2 : p.bk = q.bk) (h3 : p.a = q.a) (h4 : p.b = q.b) : p = q := by
  cases p; cases q; simp at *; exact ⟨h1, h2, h3, h4⟩
instance decPos : DecidableEq Pos := fun p q =>
  if h : p.wk = q.wk ∧ p.bk = q.bk ∧ p.a = q.a ∧ p.b = q.b then isTrue (pos_ext h.1 h.2.1 h.2.2.1 h.2.2.2)
  else isFalse fun e => h (by subst e; exact ⟨rfl, rfl, rfl, rfl⟩)

/-! ## what stands -/
structure St (g : Game) (p : Pos) : Prop where
  wk : p.wk < g.cells
  bk : p.bk < g.cells
  ne : p.wk ≠ p.bk
  nn : near g.s p.wk p.bk = false
  a : p.a ≤ g.cells
  b : p.b ≤ g.cells
  aa : p.a < g.cells → p.a ≠ p.wk ∧ p.a ≠ p.bk ∧ p.a ≠ p.b
  bb : p.b < g.cells → p.b ≠ p.wk ∧ p.b ≠ p.bk
  no : g.b = 0 → p.b = g.cells

theorem stands_iff {g : Game} {p : Pos} : stands g p = true ↔ St g p := by
  unfold stands on
  constructor
  · intro h
    simp only [Bool.and_eq_true, Bool.or_eq_true, decide_eq_true_eq, bne_iff_ne, beq_iff_eq, Bool.not_eq_true', decide_eq_false_iff_not] at h
    obtain ⟨h1, h2, h3, h4, h5, h6, h7, h8, h9⟩ := h
    refine ⟨h1, h2, h3, h4, h5, h6, fun q => ?_, fun q => ?_, fun q => ?_⟩
    · rcases h7 with z | z
      · exact absurd q z
      · exact z
    · rcases h8 with z | z
      · exact absurd q z
      · exact z
    · rcases h9 with z | z
      · exact absurd q z
      · exact z
  · intro h
    simp only [Bool.and_eq_true, Bool.or_eq_true, decide_eq_true_eq, bne_iff_ne, beq_iff_eq, Bool.not_eq_true', decide_eq_false_iff_not]
    refine ⟨h.wk, h.bk, h.ne, h.nn, h.a, h.b, ?_, ?_, ?_⟩
    · by_cases q : p.a < g.cells
      · exact Or.inr (h.aa q)
      · exact Or.inl q
    · by_cases q : p.b < g.cells
      · exact Or.inr (h.bb q)
      · exact Or.inl q
    · by_cases q : g.b = 0
      · exact Or.inr (h.no q)
      · exact Or.inl q

theorem fair_iff {g : Game} {p : Pos} : fair g p = true ↔ St g p ∧ check g p = false := by
  unfold fair
  rw [Bool.and_eq_true, stands_iff, Bool.not_eq_true']

theorem mem_whites {g : Game} {p q : Pos} : q ∈ whites g p ↔
    (∃ y, y < g.cells ∧ near g.s p.wk y = true ∧ y ≠ p.a ∧ y ≠ p.b ∧ y ≠ p.bk ∧ near g.s y p.bk = false ∧ q = { p with wk := y }) ∨
    (∃ y, y < g.cells ∧ p.a < g.cells ∧ y ≠ p.wk ∧ y ≠ p.bk ∧ y ≠ p.b ∧ aims g.a g.s [p.wk, p.bk, p.b] p.a y = true ∧ q = { p with a := y }) ∨
    (∃ y, y < g.cells ∧ p.b < g.cells ∧ y ≠ p.wk ∧ y ≠ p.bk ∧ y ≠ p.a ∧ aims g.b g.s [p.wk, p.bk, p.a] p.b y = true ∧ q = { p with b := y }) := by
  unfold whites all on
  simp only [List.mem_append, List.mem_map, List.mem_filter, List.mem_range, Bool.and_eq_true, bne_iff_ne, Bool.not_eq_true', decide_eq_true_eq]
  constructor
  · rintro (⟨y, ⟨h1, h2, h3, h4, h5, h6⟩, e⟩ | ⟨y, ⟨h1, h2, h3, h4, h5, h6⟩, e⟩ | ⟨y, ⟨h1, h2, h3, h4, h5, h6⟩, e⟩)
    · exact .inl ⟨y, h1, h2, h3, h4, h5, h6, e.symm⟩
    · exact .inr (.inl ⟨y, h1, h2, h3, h4, h5, h6, e.symm⟩)
    · exact .inr (.inr ⟨y, h1, h2, h3, h4, h5, h6, e.symm⟩)
  · rintro (⟨y, h1, h2, h3, h4, h5, h6, e⟩ | ⟨y, h1, h2, h3, h4, h5, h6, e⟩ | ⟨y, h1, h2, h3, h4, h5, h6, e⟩)
    · exact .inl ⟨y, ⟨h1, h2, h3, h4, h5, h6⟩, e.symm⟩
    · exact .inr (.inl ⟨y, ⟨h1, h2, h3, h4, h5, h6⟩, e.symm⟩)
    · exact .inr (.inr ⟨y, ⟨h1, h2, h3, h4, h5, h6⟩, e.symm⟩)

/-- black's king at y -/
def bmove (g : Game) (p : Pos) (y : Nat) : Pos := { p with bk := y, a := if p.a = y then g.cells else p.a, b := if p.b = y then g.cells else p.b }
theorem mem_blacks {g : Game} {p q : Pos} : q ∈ blacks g p ↔ ∃ y, y < g.cells ∧ near g.s p.bk y = true ∧ q = bmove g p y ∧ y ≠ p.wk ∧ check g q = false := by
  unfold blacks all
  simp only [List.mem_map, List.mem_filter, List.mem_range, Bool.and_eq_true, bne_iff_ne, Bool.not_eq_true']
  constructor
  · rintro ⟨⟨y, ⟨h1, h2⟩, e⟩, h3, h4⟩
    refine ⟨y, h1, h2, e.symm, ?_, h4⟩
    subst e
    exact h3
  · rintro ⟨y, h1, h2, e, h3, h4⟩
    refine ⟨⟨y, ⟨h1, h2⟩, e.symm⟩, ?_, h4⟩
    subst e
    exact h3

theorem whites_stand {g : Game} {p q : Pos} (h : St g p) (m : q ∈ whites g p) : St g q := by
  rcases mem_whites.mp m with ⟨y, h1, h2, h3, h4, h5, h6, e⟩ | ⟨y, h1, h2, h3, h4, h5, h6, e⟩ | ⟨y, h1, h2, h3, h4, h5, h6, e⟩
  · subst e
    exact ⟨h1, h.bk, h5, h6, h.a, h.b, fun z => ⟨fun e => h3 e.symm, (h.aa z).2⟩, fun z => ⟨fun e => h4 e.symm, (h.bb z).2⟩, h.no⟩
  · subst e
    exact ⟨h.wk, h.bk, h.ne, h.nn, Nat.le_of_lt h1, h.b, fun z => ⟨h3, h4, h5⟩, h.bb, h.no⟩
  · subst e
    refine ⟨h.wk, h.bk, h.ne, h.nn, h.a, Nat.le_of_lt h1, fun z => ⟨(h.aa z).1, (h.aa z).2.1, fun e => h5 e.symm⟩, fun z => ⟨h3, h4⟩, fun z => ?_⟩
    have := h.no z
    omega

theorem check_near {g : Game} {p : Pos} (h : check g p = false) : near g.s p.wk p.bk = false := by
  unfold check aimed at h
  simp only [Bool.or_eq_false_iff] at h
  exact h.1

theorem blacks_fair {g : Game} {p q : Pos} (h : St g p) (m : q ∈ blacks g p) : fair g q = true := by
  obtain ⟨y, h1, h2, e, h3, h4⟩ := mem_blacks.mp m
  refine fair_iff.mpr ⟨?_, h4⟩
  have hn := check_near h4
  subst e
  refine ⟨h.wk, h1, fun e => h3 e.symm, hn, ?_, ?_, ?_, ?_, ?_⟩
  · show (if p.a = y then g.cells else p.a) ≤ _
    have := h.a
    split <;> omega
  · show (if p.b = y then g.cells else p.b) ≤ _
    have := h.b
    split <;> omega
  · show (if p.a = y then g.cells else p.a) < g.cells → (if p.a = y then g.cells else p.a) ≠ p.wk ∧ (if p.a = y then g.cells else p.a) ≠ y ∧ (if p.a = y then g.cells else p.a) ≠ (if p.b = y then g.cells else p.b)
    by_cases e : p.a = y
    · rw [if_pos e]
      intro z
      omega
    · rw [if_neg e]
      intro z
      obtain ⟨z1, z2, z3⟩ := h.aa z
      refine ⟨z1, e, ?_⟩
      split
      · omega
      · exact z3
  · show (if p.b = y then g.cells else p.b) < g.cells → (if p.b = y then g.cells else p.b) ≠ p.wk ∧ (if p.b = y then g.cells else p.b) ≠ y
    by_cases e : p.b = y
    · rw [if_pos e]
      intro z
      omega
    · rw [if_neg e]
      intro z
      exact ⟨(h.bb z).1, e⟩
  · intro z
    show (if p.b = y then g.cells else p.b) = g.cells
    have := h.no z
    split <;> omega

theorem bmove_inj {g : Game} {p : Pos} {y z : Nat} (h : bmove g p y = bmove g p z) : y = z := congrArg Pos.bk h
theorem nodup_map_inj {α β : Type} {f : α → β} (hf : ∀ x y, f x = f y → x = y) : ∀ {l : List α}, l.Nodup → (l.map f).Nodup
  | [], _ => List.nodup_nil
  | x :: r, h => by
    obtain ⟨h1, h2⟩ := List.nodup_cons.mp h
    refine List.nodup_cons.mpr ⟨fun m => ?_, nodup_map_inj hf h2⟩
    obtain ⟨z, hz, e⟩ := List.mem_map.mp m
    exact h1 (hf _ _ e ▸ hz)
theorem nodup_filter {α : Type} {f : α → Bool} {l : List α} (h : l.Nodup) : (l.filter f).Nodup := List.Pairwise.filter _ h
theorem blacks_nodup {g : Game} {p : Pos} : (blacks g p).Nodup := by
  unfold blacks all
  exact nodup_filter (nodup_map_inj (f := bmove g p) (fun x y e => bmove_inj e) (nodup_filter List.nodup_range))

/-! ## levels -/
theorem wins_zero (g : Game) (p : Pos) : wins g 0 p = false := by unfold wins; rfl
theorem wins_succ (g : Game) (k : Nat) (p : Pos) : wins g (k + 1) p = (whites g p).any fun q => loses g k q := by
  rw [wins]; rfl
theorem wins_succ_iff {g : Game} {k : Nat} {p : Pos} : wins g (k + 1) p = true ↔ ∃ q, q ∈ whites g p ∧ loses g k q = true := by
  rw [wins_succ, List.any_eq_true]
theorem loses_iff {g : Game} {k : Nat} {p : Pos} : loses g k p = true ↔ mate g p = true ∨ (blacks g p ≠ [] ∧ ∀ r, r ∈ blacks g p → wins g k r = true) := by
  unfold loses
  rw [Bool.or_eq_true, Bool.and_eq_true, List.all_eq_true, Bool.not_eq_true', ← Bool.not_eq_true, List.isEmpty_iff]
theorem mono_step (g : Game) : ∀ k : Nat, (∀ p, wins g k p = true → wins g (k + 1) p = true) ∧ (∀ p, loses g k p = true → loses g (k + 1) p = true)
  | 0 => by
    refine ⟨fun p h => ?_, fun p h => ?_⟩
    · rw [wins_zero] at h; cases h
    · rcases loses_iff.mp h with m | ⟨h1, h2⟩
      · exact loses_iff.mpr (.inl m)
      · obtain ⟨x, r, e⟩ := List.exists_cons_of_ne_nil h1
        have := h2 x (by rw [e]; exact List.mem_cons_self)
        rw [wins_zero] at this; cases this
  | k + 1 => by
    have ih := mono_step g k
    have w : ∀ p, wins g (k + 1) p = true → wins g (k + 1 + 1) p = true := fun p h => by
      obtain ⟨q, hq, l⟩ := wins_succ_iff.mp h
      exact wins_succ_iff.mpr ⟨q, hq, ih.2 q l⟩
    refine ⟨w, fun p h => ?_⟩
    rcases loses_iff.mp h with m | ⟨h1, h2⟩
    · exact loses_iff.mpr (.inl m)
    · exact loses_iff.mpr (.inr ⟨h1, fun r hr => w r (h2 r hr)⟩)
theorem wins_mono {g : Game} {p : Pos} {j k : Nat} (h : j ≤ k) (w : wins g j p = true) : wins g k p = true := by
  induction h with
  | refl => exact w
  | step _ ih => exact (mono_step g _).1 p ih
theorem loses_mono {g : Game} {p : Pos} {j k : Nat} (h : j ≤ k) (w : loses g j p = true) : loses g k p = true := by
  induction h with
  | refl => exact w
  | step _ ih => exact (mono_step g _).2 p ih
theorem no_Wins_zero {g : Game} {p : Pos} : ¬ Wins g p 0 := fun h => by
  have := h.1
  rw [wins_zero] at this; cases this
theorem Wins_succ {g : Game} {p : Pos} {k : Nat} : Wins g p (k + 1) ↔ wins g (k + 1) p = true ∧ wins g k p = false := by
  constructor
  · intro h
    exact ⟨h.1, h.2 k (Nat.lt_succ_self k)⟩
  · rintro ⟨h1, h2⟩
    refine ⟨h1, fun j hj => ?_⟩
    cases e : wins g j p with
    | false => rfl
    | true =>
      rw [wins_mono (Nat.le_of_lt_succ hj) e] at h2
      cases h2
theorem Loses_zero {g : Game} {p : Pos} : Loses g p 0 ↔ mate g p = true := by
  constructor
  · intro h
    rcases loses_iff.mp h.1 with m | ⟨h1, h2⟩
    · exact m
    · obtain ⟨x, r, e⟩ := List.exists_cons_of_ne_nil h1
      have := h2 x (by rw [e]; exact List.mem_cons_self)
      rw [wins_zero] at this; cases this
  · intro h
    exact ⟨loses_iff.mpr (.inl h), fun j hj => absurd hj (Nat.not_lt_zero j)⟩
theorem Loses_succ {g : Game} {p : Pos} {k : Nat} : Loses g p (k + 1) ↔ loses g (k + 1) p = true ∧ loses g k p = false := by
  constructor
  · intro h
    exact ⟨h.1, h.2 k (Nat.lt_succ_self k)⟩
  · rintro ⟨h1, h2⟩
    refine ⟨h1, fun j hj => ?_⟩
    cases e : loses g j p with
    | false => rfl
    | true =>
      rw [loses_mono (Nat.le_of_lt_succ hj) e] at h2
      cases h2
theorem Wins_unique {g : Game} {p : Pos} {j k : Nat} (h : Wins g p j) (h' : Wins g p k) : j = k := by
  rcases Nat.lt_trichotomy j k with l | l | l
  · have := h'.2 j l
    rw [h.1] at this; cases this
  · exact l
  · have := h.2 k l
    rw [h'.1] at this; cases this
theorem Loses_unique {g : Game} {p : Pos} {j k : Nat} (h : Loses g p j) (h' : Loses g p k) : j = k := by
  rcases Nat.lt_trichotomy j k with l | l | l
  · have := h'.2 j l
    rw [h.1] at this; cases this
  · exact l
  · have := h.2 k l
    rw [h'.1] at this; cases this
theorem wins_exact {g : Game} {p : Pos} : ∀ {k : Nat}, wins g k p = true ↔ ∃ j, j ≤ k ∧ Wins g p j
  | 0 => by
    constructor
    · intro h
      rw [wins_zero] at h; cases h
    · rintro ⟨j, h, w⟩
      exact wins_mono h w.1
  | k + 1 => by
    constructor
    · intro h
      cases e : wins g k p with
      | true =>
        obtain ⟨j, hj, w⟩ := (wins_exact (k := k)).mp e
        exact ⟨j, Nat.le_succ_of_le hj, w⟩
      | false => exact ⟨k + 1, Nat.le_refl _, Wins_succ.mpr ⟨h, e⟩⟩
    · rintro ⟨j, h, w⟩
      exact wins_mono h w.1
theorem loses_exact {g : Game} {p : Pos} : ∀ {k : Nat}, loses g k p = true ↔ ∃ j, j ≤ k ∧ Loses g p j
  | 0 => by
    constructor
    · intro h
      exact ⟨0, Nat.le_refl _, h, fun j hj => absurd hj (Nat.not_lt_zero j)⟩
    · rintro ⟨j, h, w⟩
      exact loses_mono h w.1
  | k + 1 => by
    constructor
    · intro h
      cases e : loses g k p with
      | true =>
        obtain ⟨j, hj, w⟩ := (loses_exact (k := k)).mp e
        exact ⟨j, Nat.le_succ_of_le hj, w⟩
      | false => exact ⟨k + 1, Nat.le_refl _, Loses_succ.mpr ⟨h, e⟩⟩
    · rintro ⟨j, h, w⟩
      exact loses_mono h w.1
/-- white wins in one more than some of its moves loses in, and none loses in fewer -/
theorem Wins_move {g : Game} {p : Pos} {k : Nat} : Wins g p (k + 1) ↔ (∃ q, q ∈ whites g p ∧ Loses g q k) ∧ wins g k p = false := by
  rw [Wins_succ]
  constructor
  · rintro ⟨h1, h2⟩
    refine ⟨?_, h2⟩
    obtain ⟨q, hq, l⟩ := wins_succ_iff.mp h1
    refine ⟨q, hq, l, fun j hj => ?_⟩
    cases e : loses g j q with
    | false => rfl
    | true =>
      have : wins g (j + 1) p = true := wins_succ_iff.mpr ⟨q, hq, e⟩
      rw [wins_mono hj this] at h2
      cases h2
  · rintro ⟨⟨q, hq, l⟩, h2⟩
    exact ⟨wins_succ_iff.mpr ⟨q, hq, l.1⟩, h2⟩
theorem mate_empty {g : Game} {p : Pos} (h : mate g p = true) : blacks g p = [] := by
  unfold mate at h
  rw [Bool.and_eq_true] at h
  exact List.isEmpty_iff.mp h.2
theorem Loses_move {g : Game} {p : Pos} {k : Nat} : Loses g p (k + 1) ↔ (∃ r, r ∈ blacks g p ∧ Wins g r (k + 1)) ∧ ∀ r, r ∈ blacks g p → wins g (k + 1) r = true := by
  rw [Loses_succ]
  constructor
  · rintro ⟨h1, h2⟩
    rcases loses_iff.mp h1 with m | ⟨h3, h4⟩
    · rw [loses_iff.mpr (.inl m)] at h2; cases h2
    · refine ⟨?_, h4⟩
      refine Classical.byContradiction fun no => ?_
      have : loses g k p = true := loses_iff.mpr (.inr ⟨h3, fun r hr => ?_⟩)
      · rw [this] at h2; cases h2
      · cases e : wins g k r with
        | true => rfl
        | false => exact absurd ⟨r, hr, Wins_succ.mpr ⟨h4 r hr, e⟩⟩ no
  · rintro ⟨⟨r, hr, w⟩, h⟩
    refine ⟨loses_iff.mpr (.inr ⟨fun e => (by rw [e] at hr; cases hr), h⟩), ?_⟩
    cases e : loses g k p with
    | false => rfl
    | true =>
      rcases loses_iff.mp e with m | ⟨h3, h4⟩
      · rw [mate_empty m] at hr; cases hr
      · have := (Wins_succ.mp w).2
        rw [h4 r hr] at this; cases this
/-- once nothing new is lost, nothing new comes -/
theorem none_after {g : Game} {k : Nat} (h : ∀ q, St g q → ¬ Loses g q k) : ∀ d : Nat, (∀ q, St g q → ¬ Loses g q (k + d)) ∧ (∀ p, St g p → ¬ Wins g p (k + d + 1))
  | 0 => by
    refine ⟨h, fun p hp w => ?_⟩
    obtain ⟨⟨q, hq, l⟩, _⟩ := Wins_move.mp w
    exact h q (whites_stand hp hq) l
  | d + 1 => by
    have ih := none_after h d
    have l : ∀ q, St g q → ¬ Loses g q (k + (d + 1)) := fun q hq l => by
      obtain ⟨⟨r, hr, w⟩, _⟩ := Loses_move.mp (show Loses g q (k + d + 1) from l)
      exact ih.2 r (fair_iff.mp (blacks_fair hq hr)).1 w
    refine ⟨l, fun p hp w => ?_⟩
    obtain ⟨⟨q, hq, lq⟩, _⟩ := Wins_move.mp w
    exact l q (whites_stand hp hq) lq
/-- .. nor once nothing new is won -/
theorem none_after_w {g : Game} {k : Nat} (h : ∀ p, fair g p = true → ¬ Wins g p (k + 1)) : (∀ j q, k < j → St g q → ¬ Loses g q j) ∧ (∀ j p, k < j → fair g p = true → ¬ Wins g p j) := by
  have l0 : ∀ q, St g q → ¬ Loses g q (k + 1) := fun q hq l => by
    obtain ⟨⟨r, hr, w⟩, _⟩ := Loses_move.mp l
    exact h r (blacks_fair hq hr) w
  have A := none_after l0
  refine ⟨fun j q hj hq l => ?_, fun j p hj hp w => ?_⟩
  · have e : j = k + 1 + (j - (k + 1)) := by omega
    rw [e] at l
    exact (A _).1 q hq l
  · by_cases e : j = k + 1
    · subst e
      exact h p hp w
    · have e : j = k + 1 + (j - (k + 2)) + 1 := by omega
      rw [e] at w
      exact (A _).2 p (fair_iff.mp hp).1 w
end Ch
end

section
set_option Elab.async false
/- The specification's tables tell wins and loses, level by level. Plain Lean. -/
namespace Ch
open Sn80

theorem div_of {x m b : Nat} (h : b < m) : (x * m + b) / m = x := by
  rw [Nat.add_comm, Nat.add_mul_div_right _ _ (by omega), Nat.div_eq_of_lt h, Nat.zero_add]
theorem mod_of {x m b : Nat} (h : b < m) : (x * m + b) % m = b := by
  rw [Nat.add_comm, Nat.add_mul_mod_self_right, Nat.mod_eq_of_lt h]
theorem lt_of {x m b n : Nat} (hx : x < n) (h : b < m) : x * m + b < n * m := by
  have : (x + 1) * m ≤ n * m := Nat.mul_le_mul_right m hx
  rw [Nat.add_mul, Nat.one_mul] at this
  omega
structure In (g : Game) (p : Pos) : Prop where
  wk : p.wk < g.cells
  bk : p.bk < g.cells
  a : p.a ≤ g.cells
  b : p.b ≤ g.cells
theorem St.inb {g : Game} {p : Pos} (h : St g p) : In g p := ⟨h.wk, h.bk, h.a, h.b⟩
theorem number_lt {g : Game} {p : Pos} (h : In g p) : number g p < many g := by
  unfold number many
  rw [← Nat.mul_assoc]
  exact lt_of (lt_of (lt_of h.wk h.bk) (Nat.lt_succ_of_le h.a)) (Nat.lt_succ_of_le h.b)
theorem position_number {g : Game} {p : Pos} (h : In g p) : position g (number g p) = p := by
  have ha := Nat.lt_succ_of_le h.a
  have hb := Nat.lt_succ_of_le h.b
  have e1 : number g p / (g.cells + 1) = (p.wk * g.cells + p.bk) * (g.cells + 1) + p.a := div_of hb
  have e2 : number g p / ((g.cells + 1) * (g.cells + 1)) = p.wk * g.cells + p.bk := by
    rw [← Nat.div_div_eq_div_mul, e1]
    exact div_of ha
  apply pos_ext
  · show number g p / ((g.cells + 1) * (g.cells + 1) * g.cells) = p.wk
    rw [← Nat.div_div_eq_div_mul, e2]
    exact div_of h.bk
  · show number g p / ((g.cells + 1) * (g.cells + 1)) % g.cells = p.bk
    rw [e2]
    exact mod_of h.bk
  · show number g p / (g.cells + 1) % (g.cells + 1) = p.a
    rw [e1]
    exact mod_of ha
  · show number g p % (g.cells + 1) = p.b
    exact mod_of hb

theorem getD_set {x : Array Nat} {i j v : Nat} : (x.setIfInBounds i v).getD j 0 = if i = j ∧ i < x.size then v else x.getD j 0 := by
  simp only [Array.getD_eq_getD_getElem?, Array.getElem?_setIfInBounds]
  by_cases h : i = j
  · subst h
    by_cases h2 : i < x.size
    · simp [h2]
    · simp [h2]
  · simp [h]
theorem fold_set (c : Nat → Prop) [DecidablePred c] (v : Nat) (x : Array Nat) : ∀ n : Nat,
    ((List.range n).foldl (fun (x : Array Nat) i => if c i then x.setIfInBounds i v else x) x).size = x.size ∧
    ∀ j, ((List.range n).foldl (fun (x : Array Nat) i => if c i then x.setIfInBounds i v else x) x).getD j 0 = if j < n ∧ j < x.size ∧ c j then v else x.getD j 0
  | 0 => ⟨rfl, fun j => by rw [if_neg (fun h => absurd h.1 (Nat.not_lt_zero j))]; rfl⟩
  | n + 1 => by
    obtain ⟨ih1, ih2⟩ := fold_set c v x n
    rw [List.range_succ, List.foldl_append]
    simp only [List.foldl_cons, List.foldl_nil]
    by_cases h : c n
    · rw [if_pos h]
      refine ⟨by rw [Array.size_setIfInBounds]; exact ih1, fun j => ?_⟩
      rw [getD_set, ih1, ih2 j]
      by_cases e : n = j
      · subst e
        by_cases h2 : n < x.size
        · rw [if_pos ⟨rfl, h2⟩, if_pos ⟨Nat.lt_succ_self n, h2, h⟩]
        · rw [if_neg (fun z => h2 z.2), if_neg (fun z => h2 z.2.1), if_neg (fun z => h2 z.2.1)]
      · rw [if_neg (fun z => e z.1)]
        by_cases h3 : j < n ∧ j < x.size ∧ c j
        · rw [if_pos h3, if_pos ⟨Nat.lt_succ_of_lt h3.1, h3.2⟩]
        · rw [if_neg h3, if_neg (fun z => h3 ⟨by omega, z.2⟩)]
    · rw [if_neg h]
      refine ⟨ih1, fun j => ?_⟩
      rw [ih2 j]
      by_cases h3 : j < n ∧ j < x.size ∧ c j
      · rw [if_pos h3, if_pos ⟨Nat.lt_succ_of_lt h3.1, h3.2⟩]
      · rw [if_neg h3, if_neg]
        intro z
        by_cases e : j = n
        · subst e; exact h z.2.2
        · exact h3 ⟨by omega, z.2⟩

/-! ## how many are won -/
def cnt : List Nat → Nat
  | [] => 0
  | x :: r => (if x = 0 then 0 else 1) + cnt r
theorem cnt_fold : ∀ (l : List Nat) (n : Nat), l.foldl (fun n x => if x = 0 then n else n + 1) n = n + cnt l
  | [], n => rfl
  | x :: r, n => by
    rw [List.foldl_cons, cnt_fold r]
    show (if x = 0 then n else n + 1) + cnt r = n + ((if x = 0 then 0 else 1) + cnt r)
    split <;> omega
theorem won_cnt (t : Table) : won t = cnt t.wins.toList := by
  unfold won
  rw [← Array.foldl_toList, cnt_fold, Nat.zero_add]
theorem cnt_le : ∀ l : List Nat, cnt l ≤ l.length
  | [] => Nat.le_refl _
  | x :: r => by
    have := cnt_le r
    unfold cnt
    rw [List.length_cons]
    split <;> omega
theorem cnt_grow : ∀ {l m : List Nat}, l.length = m.length → (∀ i, l.getD i 0 ≠ 0 → m.getD i 0 ≠ 0) → cnt l ≤ cnt m ∧ (cnt m = cnt l → ∀ i, m.getD i 0 ≠ 0 → l.getD i 0 ≠ 0)
  | [], [], _, _ => ⟨Nat.le_refl _, fun _ i h => h⟩
  | x :: l, y :: m, hl, h => by
    have hl' : l.length = m.length := Nat.succ.inj hl
    have ih := cnt_grow hl' fun i q => by
      have := h (i + 1)
      rw [List.getD_cons_succ, List.getD_cons_succ] at this
      exact this q
    have h0 := h 0
    rw [List.getD_cons_zero, List.getD_cons_zero] at h0
    unfold cnt
    refine ⟨?_, fun e i q => ?_⟩
    · have := ih.1
      by_cases hx : x = 0
      · rw [if_pos hx]; omega
      · rw [if_neg hx, if_neg (h0 hx)]; omega
    · have i1 := ih.1
      by_cases hx : x = 0
      · rw [if_pos hx] at e
        by_cases hy : y = 0
        · rw [if_pos hy] at e
          cases i with
          | zero => exact absurd hy q
          | succ i =>
            rw [List.getD_cons_succ] at q ⊢
            exact ih.2 (by omega) i q
        · rw [if_neg hy] at e
          omega
      · rw [if_neg hx, if_neg (h0 hx)] at e
        cases i with
        | zero => exact hx
        | succ i =>
          rw [List.getD_cons_succ] at q ⊢
          exact ih.2 (by omega) i q
theorem getD_list (x : Array Nat) (i : Nat) : x.toList.getD i 0 = x.getD i 0 := by
  rw [Array.getD_eq_getD_getElem?, List.getD_eq_getElem?_getD, Array.getElem?_toList]

/-! ## the rounds -/
/-- what's known behind k rounds -/
structure TG (g : Game) (k : Nat) (t : Table) : Prop where
  sw : t.wins.size = many g
  sl : t.loses.size = many g
  w : ∀ i, i < many g → ∀ v, v ≠ 0 → (t.wins.getD i 0 = v ↔ fair g (position g i) = true ∧ Wins g (position g i) v ∧ v ≤ k)
  l : ∀ i, i < many g → ∀ v, (t.loses.getD i 0 = v + 1 ↔ St g (position g i) ∧ Loses g (position g i) v ∧ v ≤ k)
theorem TG.w0 {g : Game} {k : Nat} {t : Table} (h : TG g k t) {i : Nat} (hi : i < many g) (hf : fair g (position g i) = true) : t.wins.getD i 0 = 0 ↔ wins g k (position g i) = false := by
  constructor
  · intro e
    cases q : wins g k (position g i) with
    | false => rfl
    | true =>
      obtain ⟨j, hj, w⟩ := wins_exact.mp q
      by_cases z : j = 0
      · subst z; exact absurd w no_Wins_zero
      · have := (h.w i hi j z).mpr ⟨hf, w, hj⟩
        omega
  · intro e
    refine Classical.byContradiction fun z => ?_
    obtain ⟨_, w, hj⟩ := (h.w i hi _ z).mp rfl
    rw [wins_exact.mpr ⟨_, hj, w⟩] at e
    cases e
theorem TG.l0 {g : Game} {k : Nat} {t : Table} (h : TG g k t) {i : Nat} (hi : i < many g) (hf : St g (position g i)) : t.loses.getD i 0 = 0 ↔ loses g k (position g i) = false := by
  constructor
  · intro e
    cases q : loses g k (position g i) with
    | false => rfl
    | true =>
      obtain ⟨j, hj, w⟩ := loses_exact.mp q
      have := (h.l i hi j).mpr ⟨hf, w, hj⟩
      omega
  · intro e
    refine Classical.byContradiction fun z => ?_
    obtain ⟨v, hv⟩ : ∃ v, t.loses.getD i 0 = v + 1 := ⟨t.loses.getD i 0 - 1, by omega⟩
    obtain ⟨_, w, hj⟩ := (h.l i hi v).mp hv
    rw [loses_exact.mpr ⟨_, hj, w⟩] at e
    cases e
def wArr (g : Game) : Array (List Nat) := (((List.range (many g)).map (position g)).map fun p => if fair g p = true then (whites g p).map (number g) else []).toArray
def bArr (g : Game) : Array (List Nat) := (((List.range (many g)).map (position g)).map fun p => if stands g p = true then (blacks g p).map (number g) else []).toArray
def lArr (g : Game) : Array Nat := (((List.range (many g)).map (position g)).map fun p => if stands g p = true ∧ mate g p = true then 1 else 0).toArray
theorem tableOf_eq (g : Game) : tableOf g = rounds (wArr g) (bArr g) (many g + 1) 1 ⟨Array.replicate (many g) 0, lArr g⟩ := rfl
theorem wArr_get {g : Game} {i : Nat} (h : i < many g) : (wArr g).getD i [] = if fair g (position g i) = true then (whites g (position g i)).map (number g) else [] := by
  unfold wArr
  simp [Array.getD_eq_getD_getElem?, h]
theorem bArr_get {g : Game} {i : Nat} (h : i < many g) : (bArr g).getD i [] = if stands g (position g i) = true then (blacks g (position g i)).map (number g) else [] := by
  unfold bArr
  simp [Array.getD_eq_getD_getElem?, h]
theorem lArr_get {g : Game} {i : Nat} (h : i < many g) : (lArr g).getD i 0 = if stands g (position g i) = true ∧ mate g (position g i) = true then 1 else 0 := by
  unfold lArr
  simp [Array.getD_eq_getD_getElem?, h]
theorem lArr_size (g : Game) : (lArr g).size = many g := by
  unfold lArr
  simp
theorem TG_zero (g : Game) : TG g 0 ⟨Array.replicate (many g) 0, lArr g⟩ := by
  refine ⟨Array.size_replicate, lArr_size g, fun i hi v hv => ?_, fun i hi v => ?_⟩
  · constructor
    · intro e
      have : (Array.replicate (many g) 0).getD i 0 = v := e
      rw [Array.getD_eq_getD_getElem?, Array.getElem?_replicate] at this
      rw [if_pos hi] at this
      exact absurd this.symm hv
    · rintro ⟨_, _, z⟩
      exact absurd (Nat.le_zero.mp z) hv
  · show (lArr g).getD i 0 = v + 1 ↔ _
    rw [lArr_get hi]
    constructor
    · intro e
      split at e
      · rename_i h
        have : v = 0 := by omega
        subst this
        exact ⟨stands_iff.mp h.1, Loses_zero.mpr h.2, Nat.le_refl _⟩
      · cases e
    · rintro ⟨h1, h2, h3⟩
      have : v = 0 := Nat.le_zero.mp h3
      subst this
      rw [if_pos ⟨stands_iff.mpr h1, Loses_zero.mp h2⟩]

open Classical in
theorem round_wins {g : Game} {k : Nat} {t : Table} (h : TG g k t) : (roundOf (wArr g) (bArr g) (k + 1) t).wins.size = many g ∧
    ∀ i, i < many g → (roundOf (wArr g) (bArr g) (k + 1) t).wins.getD i 0 = if fair g (position g i) = true ∧ Wins g (position g i) (k + 1) then k + 1 else t.wins.getD i 0 := by
  have F := fold_set (fun i => t.wins.getD i 0 = 0 ∧ ((wArr g).getD i []).any (fun q => t.loses.getD q 0 != 0) = true) (k + 1) t.wins t.wins.size
  have e : (roundOf (wArr g) (bArr g) (k + 1) t).wins = (List.range t.wins.size).foldl (fun (x : Array Nat) i => if t.wins.getD i 0 = 0 ∧ ((wArr g).getD i []).any (fun q => t.loses.getD q 0 != 0) = true then x.setIfInBounds i (k + 1) else x) t.wins := rfl
  rw [e]
  refine ⟨F.1.trans h.sw, fun i hi => ?_⟩
  rw [F.2 i]
  have hi' : i < t.wins.size := by rw [h.sw]; exact hi
  have key : (t.wins.getD i 0 = 0 ∧ ((wArr g).getD i []).any (fun q => t.loses.getD q 0 != 0) = true) ↔ (fair g (position g i) = true ∧ Wins g (position g i) (k + 1)) := by
    rw [wArr_get hi]
    by_cases hf : fair g (position g i) = true
    · rw [if_pos hf, Wins_succ, wins_succ_iff, h.w0 hi hf, List.any_eq_true]
      have hs := (fair_iff.mp hf).1
      constructor
      · rintro ⟨h0, n, hn, z⟩
        obtain ⟨q, hq, rfl⟩ := List.mem_map.mp hn
        refine ⟨hf, ⟨q, hq, ?_⟩, h0⟩
        have sq := whites_stand hs hq
        have z' : t.loses.getD (number g q) 0 ≠ 0 := by simpa using z
        have := h.l0 (number_lt sq.inb) (by rw [position_number sq.inb]; exact sq)
        rw [position_number sq.inb] at this
        cases e : loses g k q with
        | true => rfl
        | false => exact absurd (this.mpr e) z'
      · rintro ⟨_, ⟨q, hq, l⟩, h0⟩
        have sq := whites_stand hs hq
        refine ⟨h0, number g q, List.mem_map.mpr ⟨q, hq, rfl⟩, ?_⟩
        have := h.l0 (number_lt sq.inb) (by rw [position_number sq.inb]; exact sq)
        rw [position_number sq.inb, l] at this
        have z : ¬ t.loses.getD (number g q) 0 = 0 := fun z => by cases this.mp z
        simpa using z
    · rw [if_neg hf]
      constructor
      · rintro ⟨_, z⟩
        cases z
      · rintro ⟨z, _⟩
        exact absurd z hf
  by_cases c : fair g (position g i) = true ∧ Wins g (position g i) (k + 1)
  · rw [if_pos c, if_pos ⟨hi', hi', key.mpr c⟩]
  · rw [if_neg c, if_neg fun z => c (key.mp z.2.2)]
open Classical in
theorem TG_round {g : Game} {k : Nat} {t : Table} (h : TG g k t) : TG g (k + 1) (roundOf (wArr g) (bArr g) (k + 1) t) := by
  obtain ⟨sw, hw⟩ := round_wins h
  generalize hu : roundOf (wArr g) (bArr g) (k + 1) t = u at sw hw
  have W : ∀ i, i < many g → ∀ v, v ≠ 0 → (u.wins.getD i 0 = v ↔ fair g (position g i) = true ∧ Wins g (position g i) v ∧ v ≤ k + 1) := fun i hi v hv => by
    rw [hw i hi]
    by_cases c : fair g (position g i) = true ∧ Wins g (position g i) (k + 1)
    · rw [if_pos c]
      constructor
      · intro e
        subst e
        exact ⟨c.1, c.2, Nat.le_refl _⟩
      · rintro ⟨_, w, _⟩
        exact Wins_unique c.2 w
    · rw [if_neg c, h.w i hi v hv]
      constructor
      · rintro ⟨h1, h2, h3⟩
        exact ⟨h1, h2, Nat.le_succ_of_le h3⟩
      · rintro ⟨h1, h2, h3⟩
        refine ⟨h1, h2, ?_⟩
        by_cases e : v = k + 1
        · subst e; exact absurd ⟨h1, h2⟩ c
        · omega
  have W0 : ∀ i, i < many g → fair g (position g i) = true → (u.wins.getD i 0 = 0 ↔ wins g (k + 1) (position g i) = false) := fun i hi hf => by
    constructor
    · intro e
      cases q : wins g (k + 1) (position g i) with
      | false => rfl
      | true =>
        obtain ⟨j, hj, w⟩ := wins_exact.mp q
        by_cases z : j = 0
        · subst z; exact absurd w no_Wins_zero
        · have := (W i hi j z).mpr ⟨hf, w, hj⟩
          omega
    · intro e
      refine Classical.byContradiction fun z => ?_
      obtain ⟨_, w, hj⟩ := (W i hi _ z).mp rfl
      rw [wins_exact.mpr ⟨_, hj, w⟩] at e
      cases e
  have F := fold_set (fun i => t.loses.getD i 0 = 0 ∧ ((bArr g).getD i []).isEmpty = false ∧ ((bArr g).getD i []).all (fun r => u.wins.getD r 0 != 0) = true) (k + 1 + 1) t.loses t.loses.size
  have e : u.loses = (List.range t.loses.size).foldl (fun (x : Array Nat) i => if t.loses.getD i 0 = 0 ∧ ((bArr g).getD i []).isEmpty = false ∧ ((bArr g).getD i []).all (fun r => u.wins.getD r 0 != 0) = true then x.setIfInBounds i (k + 1 + 1) else x) t.loses := by
    rw [← hu]; rfl
  have L : ∀ i, i < many g → u.loses.getD i 0 = if St g (position g i) ∧ Loses g (position g i) (k + 1) then k + 1 + 1 else t.loses.getD i 0 := fun i hi => by
    rw [e, F.2 i]
    have hi' : i < t.loses.size := by rw [h.sl]; exact hi
    have key : (t.loses.getD i 0 = 0 ∧ ((bArr g).getD i []).isEmpty = false ∧ ((bArr g).getD i []).all (fun r => u.wins.getD r 0 != 0) = true) ↔ (St g (position g i) ∧ Loses g (position g i) (k + 1)) := by
      rw [bArr_get hi]
      by_cases hs : stands g (position g i) = true
      · have hS := stands_iff.mp hs
        rw [if_pos hs, h.l0 hi hS, Loses_succ, loses_iff, List.all_eq_true]
        have wr : ∀ r, r ∈ blacks g (position g i) → (u.wins.getD (number g r) 0 ≠ 0 ↔ wins g (k + 1) r = true) := fun r hr => by
          have fr := blacks_fair hS hr
          have ir := (fair_iff.mp fr).1.inb
          have := W0 _ (number_lt ir) (by rw [position_number ir]; exact fr)
          rw [position_number ir] at this
          cases q : wins g (k + 1) r with
          | true =>
            rw [q] at this
            constructor
            · intro _; rfl
            · intro _ z; cases this.mp z
          | false =>
            rw [q] at this
            constructor
            · intro z; exact absurd (this.mpr rfl) z
            · intro z; cases z
        constructor
        · rintro ⟨h0, h1, h2⟩
          refine ⟨hS, .inr ⟨fun z => ?_, fun r hr => ?_⟩, h0⟩
          · rw [z] at h1; cases h1
          · have := h2 (number g r) (List.mem_map.mpr ⟨r, hr, rfl⟩)
            exact (wr r hr).mp (by simpa using this)
        · rintro ⟨_, h1, h0⟩
          refine ⟨h0, ?_, ?_⟩
          · rcases h1 with m | ⟨h1, _⟩
            · rw [loses_iff.mpr (.inl m)] at h0; cases h0
            · cases q : blacks g (position g i) with
              | nil => exact absurd q h1
              | cons x r => rfl
          · rcases h1 with m | ⟨_, h1⟩
            · rw [loses_iff.mpr (.inl m)] at h0; cases h0
            · intro n hn
              obtain ⟨r, hr, rfl⟩ := List.mem_map.mp hn
              have := (wr r hr).mpr (h1 r hr)
              simpa using this
      · rw [if_neg hs]
        constructor
        · rintro ⟨_, z, _⟩
          cases z
        · rintro ⟨z, _⟩
          exact absurd (stands_iff.mpr z) hs
    by_cases c : St g (position g i) ∧ Loses g (position g i) (k + 1)
    · rw [if_pos c, if_pos ⟨hi', hi', key.mpr c⟩]
    · rw [if_neg c, if_neg fun z => c (key.mp z.2.2)]
  refine ⟨sw, ?_, W, fun i hi v => ?_⟩
  · rw [e]; exact F.1.trans h.sl
  · rw [L i hi]
    by_cases c : St g (position g i) ∧ Loses g (position g i) (k + 1)
    · rw [if_pos c]
      constructor
      · intro e
        have : v = k + 1 := by omega
        subst this
        exact ⟨c.1, c.2, Nat.le_refl _⟩
      · rintro ⟨_, w, _⟩
        rw [Loses_unique c.2 w]
    · rw [if_neg c, h.l i hi v]
      constructor
      · rintro ⟨h1, h2, h3⟩
        exact ⟨h1, h2, Nat.le_succ_of_le h3⟩
      · rintro ⟨h1, h2, h3⟩
        refine ⟨h1, h2, ?_⟩
        by_cases e : v = k + 1
        · subst e; exact absurd ⟨h1, h2⟩ c
        · omega

/-- the whole: what's told is all that is so -/
structure TT (g : Game) (t : Table) : Prop where
  sw : t.wins.size = many g
  w : ∀ i, i < many g → ∀ v, v ≠ 0 → (t.wins.getD i 0 = v ↔ fair g (position g i) = true ∧ Wins g (position g i) v)
  l : ∀ i, i < many g → ∀ v, (t.loses.getD i 0 = v + 1 ↔ St g (position g i) ∧ Loses g (position g i) v)
theorem rounds_total {g : Game} : ∀ (f k : Nat) (t : Table), TG g k t → many g + 1 ≤ f + won t → TT g (rounds (wArr g) (bArr g) f (k + 1) t)
  | 0, k, t, h, hf => by
    have := cnt_le t.wins.toList
    rw [won_cnt] at hf
    rw [Array.length_toList, h.sw] at this
    omega
  | f + 1, k, t, h, hf => by
    have hr := TG_round h
    obtain ⟨sw, hw⟩ := round_wins h
    have ln : t.wins.toList.length = (roundOf (wArr g) (bArr g) (k + 1) t).wins.toList.length := by
      rw [Array.length_toList, Array.length_toList, h.sw, sw]
    have grow := cnt_grow ln fun i hi => by
      rw [getD_list] at hi ⊢
      by_cases hm : i < many g
      · rw [hw i hm]
        split
        · omega
        · exact hi
      · rw [Array.getD_eq_getD_getElem?, Array.getElem?_eq_none (by rw [h.sw]; omega)] at hi
        exact absurd rfl hi
    show TT g (if won (roundOf (wArr g) (bArr g) (k + 1) t) = won t then roundOf (wArr g) (bArr g) (k + 1) t else rounds (wArr g) (bArr g) f (k + 1 + 1) (roundOf (wArr g) (bArr g) (k + 1) t))
    by_cases c : won (roundOf (wArr g) (bArr g) (k + 1) t) = won t
    · rw [if_pos c]
      have none : ∀ p, fair g p = true → ¬ Wins g p (k + 1) := fun p hp w => by
        have ip := (fair_iff.mp hp).1.inb
        have q := (hr.w _ (number_lt ip) (k + 1) (by omega)).mpr (by rw [position_number ip]; exact ⟨hp, w, Nat.le_refl _⟩)
        have := grow.2 (by rw [← won_cnt, ← won_cnt]; exact c) (number g p) (by rw [getD_list, q]; omega)
        rw [getD_list] at this
        have z := (h.w _ (number_lt ip) _ this).mp rfl
        rw [position_number ip] at z
        have := Wins_unique w z.2.1
        omega
      have A := none_after_w none
      refine ⟨hr.sw, fun i hi v hv => ?_, fun i hi v => ?_⟩
      · rw [hr.w i hi v hv]
        constructor
        · rintro ⟨h1, h2, _⟩
          exact ⟨h1, h2⟩
        · rintro ⟨h1, h2⟩
          refine ⟨h1, h2, ?_⟩
          by_cases z : k < v
          · exact absurd h2 (A.2 v _ z h1)
          · omega
      · rw [hr.l i hi v]
        constructor
        · rintro ⟨h1, h2, _⟩
          exact ⟨h1, h2⟩
        · rintro ⟨h1, h2⟩
          refine ⟨h1, h2, ?_⟩
          by_cases z : k < v
          · exact absurd h2 (A.1 v _ z h1)
          · omega
    · rw [if_neg c]
      refine rounds_total f (k + 1) _ hr ?_
      have g1 := grow.1
      rw [← won_cnt, ← won_cnt] at g1
      omega
theorem table_total (g : Game) : TT g (tableOf g) := by
  rw [tableOf_eq]
  exact rounds_total (many g + 1) 0 _ (TG_zero g) (by omega)

/-! ## what the answers are told by -/
theorem winsOf_iff {g : Game} {p : Pos} (hp : fair g p = true) {v : Nat} (hv : v ≠ 0) : winsOf g (tableOf g) p = v ↔ Wins g p v := by
  have ip := (fair_iff.mp hp).1.inb
  have := (table_total g).w _ (number_lt ip) v hv
  rw [position_number ip] at this
  exact this.trans ⟨fun h => h.2, fun h => ⟨hp, h⟩⟩
theorem losesOf_iff {g : Game} {p : Pos} (hp : St g p) {v : Nat} : losesOf g (tableOf g) p = some v ↔ Loses g p v := by
  have ip := hp.inb
  have := (table_total g).l _ (number_lt ip) v
  rw [position_number ip] at this
  unfold losesOf
  constructor
  · intro e
    split at e
    · cases e
    · rename_i k q
      cases e
      exact (this.mp q).2
  · intro e
    rw [this.mpr ⟨hp, e⟩]
theorem longest_is (g : Game) : (∀ p v, fair g p = true → Wins g p v → v ≤ longestOf (tableOf g)) ∧ (longestOf (tableOf g) = 0 ∨ ∃ p, fair g p = true ∧ Wins g p (longestOf (tableOf g))) := by
  have T := table_total g
  have fm : ∀ (l : List Nat) (n : Nat), n ≤ l.foldl max n ∧ (∀ x, x ∈ l → x ≤ l.foldl max n) ∧ (l.foldl max n = n ∨ l.foldl max n ∈ l) := by
    intro l
    induction l with
    | nil => intro n; exact ⟨Nat.le_refl _, fun x hx => (by cases hx), .inl rfl⟩
    | cons y r ih =>
      intro n
      rw [List.foldl_cons]
      obtain ⟨i1, i2, i3⟩ := ih (max n y)
      refine ⟨Nat.le_trans (Nat.le_max_left _ _) i1, fun x hx => ?_, ?_⟩
      · rcases List.mem_cons.mp hx with rfl | hx
        · exact Nat.le_trans (Nat.le_max_right _ _) i1
        · exact i2 x hx
      · rcases i3 with z | z
        · rw [z]
          by_cases h : n ≤ y
          · right; rw [Nat.max_eq_right h]; exact List.mem_cons_self
          · left; rw [Nat.max_eq_left (by omega)]
        · exact .inr (List.mem_cons_of_mem _ z)
  generalize tableOf g = t at T
  have e : longestOf t = t.wins.toList.foldl max 0 := by
    unfold longestOf
    rw [← Array.foldl_toList]
  obtain ⟨_, f2, f3⟩ := fm t.wins.toList 0
  rw [e]
  generalize t.wins.toList.foldl max 0 = M at f2 f3
  refine ⟨fun p v hp w => ?_, ?_⟩
  · have ip := (fair_iff.mp hp).1.inb
    by_cases hv : v = 0
    · subst hv; exact absurd w no_Wins_zero
    · have q := (T.w _ (number_lt ip) v hv).mpr (by rw [position_number ip]; exact ⟨hp, w⟩)
      refine f2 v ?_
      have lt : number g p < t.wins.toList.length := by rw [Array.length_toList, T.sw]; exact number_lt ip
      rw [← getD_list, List.getD_eq_getElem?_getD, List.getElem?_eq_getElem lt] at q
      have q' : t.wins.toList[number g p] = v := q
      rw [← q']
      exact List.getElem_mem lt
  · by_cases z : M = 0
    · exact .inl z
    · right
      have m := f3.resolve_left z
      obtain ⟨i, hi, ei⟩ := List.mem_iff_getElem.mp m
      have hi' : i < many g := by rw [Array.length_toList, T.sw] at hi; exact hi
      have q : t.wins.getD i 0 = M := by
        rw [← getD_list, List.getD_eq_getElem?_getD, List.getElem?_eq_getElem hi, ei]; rfl
      have := (T.w i hi' _ z).mp q
      exact ⟨_, this.1, this.2⟩
end Ch
end

section
set_option Elab.async false
/- The board: what the program's lists of cells are, against what the specification says of cells. Plain Lean. -/
namespace Ch
open Sn80

/-! ## sorted lists of ints -/
def insZ (x : Int) : List Int → List Int
  | [] => [x]
  | y :: r => if x ≤ y then x :: y :: r else y :: insZ x r
def isort : List Int → List Int
  | [] => []
  | x :: r => insZ x (isort r)
theorem insZ_perm (x : Int) : ∀ l : List Int, (insZ x l).Perm (x :: l)
  | [] => .refl _
  | y :: r => by
    unfold insZ
    split
    · exact .refl _
    · exact ((insZ_perm x r).cons y).trans (.swap x y r)
theorem isort_perm : ∀ l : List Int, (isort l).Perm l
  | [] => .refl _
  | x :: r => (insZ_perm x (isort r)).trans ((isort_perm r).cons x)
theorem insZ_sorted (x : Int) : ∀ {l : List Int}, l.Pairwise (· ≤ ·) → (insZ x l).Pairwise (· ≤ ·)
  | [], _ => List.pairwise_singleton _ _
  | y :: r, h => by
    obtain ⟨h1, h2⟩ := List.pairwise_cons.mp h
    unfold insZ
    split
    · rename_i c
      refine List.pairwise_cons.mpr ⟨fun z hz => ?_, h⟩
      rcases List.mem_cons.mp hz with rfl | hz
      · exact c
      · exact Int.le_trans c (h1 z hz)
    · rename_i c
      refine List.pairwise_cons.mpr ⟨fun z hz => ?_, insZ_sorted x h2⟩
      rcases List.mem_cons.mp ((insZ_perm x r).mem_iff.mp hz) with rfl | hz
      · omega
      · exact h1 z hz
theorem isort_sorted : ∀ l : List Int, (isort l).Pairwise (· ≤ ·)
  | [] => .nil
  | x :: r => insZ_sorted x (isort_sorted r)
theorem sorted_one : ∀ {a b : List Int}, a.Perm b → a.Pairwise (· ≤ ·) → b.Pairwise (· ≤ ·) → a = b
  | [], b, hp, _, _ => (List.nil_perm.mp hp).symm
  | x :: r, [], hp, _, _ => absurd hp.length_eq (by simp)
  | x :: r, y :: t, hp, ha, hb => by
    obtain ⟨h1, h2⟩ := List.pairwise_cons.mp ha
    obtain ⟨h3, h4⟩ := List.pairwise_cons.mp hb
    have e : x = y := by
      have m1 : x ∈ y :: t := hp.mem_iff.mp List.mem_cons_self
      have m2 : y ∈ x :: r := hp.mem_iff.mpr List.mem_cons_self
      rcases List.mem_cons.mp m1 with e | m1
      · exact e
      · rcases List.mem_cons.mp m2 with e | m2
        · exact e.symm
        · have := h1 y m2
          have := h3 x m1
          omega
    subst e
    rw [sorted_one hp.cons_inv h2 h4]
theorem isort_one {a b : List Int} (hp : a.Perm b) (ha : a.Pairwise (· ≤ ·)) : a = isort b :=
  sorted_one (hp.trans (isort_perm b).symm) ha (isort_sorted b)

/-! ## steps and lines, as the program has them -/
def stepFrom (s c : Int) (d : Int × Int) : Int :=
  if 0 ≤ c / s + d.1 ∧ c / s + d.1 < s ∧ 0 ≤ c % s + d.2 ∧ c % s + d.2 < s then (c / s + d.1) * s + (c % s + d.2) else -1
def straight : List (Int × Int) := [(-1, 0), (0, -1), (0, 1), (1, 0)]
def aslant : List (Int × Int) := [(-1, -1), (-1, 1), (1, -1), (1, 1)]
def leaps : List (Int × Int) := [(-2, -1), (-2, 1), (-1, -2), (-1, 2), (1, -2), (1, 2), (2, -1), (2, 1)]
def stepsFrom (s c : Int) (ds : List (Int × Int)) : List Int := isort ((ds.map (stepFrom s c)).filter fun z => decide (0 ≤ z))
/-- the cells from o on, step by step -/
def ray (s : Int) (d : Int × Int) : Nat → Int → List Int
  | 0, _ => []
  | f + 1, o => if 0 ≤ o then o :: ray s d f (stepFrom s o d) else []
/-- .. it ends within f cells -/
def rayOk (s : Int) (d : Int × Int) : Nat → Int → Bool
  | 0, o => decide (o < 0)
  | f + 1, o => decide (o < 0) || rayOk s d f (stepFrom s o d)
def lineFrom (s c : Int) (d : Int × Int) : List Int := ray s d 8 (stepFrom s c d)
def linesOf (s kind c : Int) : List (List Int) :=
  if kind = 2 then straight.map (lineFrom s c) else if kind = 3 then aslant.map (lineFrom s c) else if kind = 1 then (straight ++ aslant).map (lineFrom s c)
  else (stepsFrom s c leaps).map fun z => [z]
/-- up to the first cell on which something stands, that one too -/
def takeTo (st : Int → Bool) : List Int → List Int
  | [] => []
  | x :: r => x :: (if st x = true then [] else takeTo st r)
def aimedL (s kind c : Int) (st : Int → Bool) : List Int := (linesOf s kind c).flatMap (takeTo st)

theorem mem_takeTo {st : Int → Bool} {y : Int} : ∀ {l : List Int}, y ∈ takeTo st l ↔ ∃ j : Nat, l[j]? = some y ∧ ∀ (i : Nat) (z : Int), i < j → l[i]? = some z → st z = false
  | [] => by simp [takeTo]
  | x :: r => by
    unfold takeTo
    rw [List.mem_cons]
    constructor
    · rintro (rfl | h)
      · exact ⟨0, rfl, fun i z hi => absurd hi (Nat.not_lt_zero i)⟩
      · by_cases c : st x = true
        · rw [if_pos c] at h; cases h
        · rw [if_neg c] at h
          obtain ⟨j, hj, q⟩ := mem_takeTo.mp h
          refine ⟨j + 1, hj, fun i z hi hz => ?_⟩
          cases i with
          | zero =>
            have : x = z := by simpa using hz
            subst this
            simpa using c
          | succ i => exact q i z (by omega) (by simpa using hz)
    · rintro ⟨j, hj, q⟩
      cases j with
      | zero => exact .inl (by simpa using hj.symm)
      | succ j =>
        right
        have c := q 0 x (by omega) rfl
        rw [if_neg (by rw [c]; decide)]
        exact mem_takeTo.mpr ⟨j, by simpa using hj, fun i z hi hz => q (i + 1) z (by omega) (by simpa using hz)⟩
theorem takeTo_sub (st : Int → Bool) : ∀ l : List Int, (takeTo st l).Sublist l
  | [] => .slnil
  | x :: r => by
    unfold takeTo
    split
    · exact List.Sublist.cons_cons x (List.nil_sublist r)
    · exact List.Sublist.cons_cons x (takeTo_sub st r)
theorem aimed_sub (st : Int → Bool) : ∀ ls : List (List Int), (ls.flatMap (takeTo st)).Sublist ls.flatten
  | [] => .slnil
  | l :: r => by
    rw [List.flatMap_cons, List.flatten_cons]
    exact List.Sublist.append (takeTo_sub st l) (aimed_sub st r)

/-! ## what is looked at, cell by cell -/
def sizes : List Nat := [3, 4, 5]
def kinds : List Nat := [1, 2, 3, 4]
def lineChk (s kind c : Nat) (L : List Int) : Bool := (List.range L.length).all fun j =>
  decide (0 ≤ L.getD j (-1)) && (decide (L.getD j (-1) < ((s * s : Nat) : Int)) && (aims kind s [] c (L.getD j (-1)).toNat &&
    (if kind = 4 then j == 0 else (max (rows s c (L.getD j (-1)).toNat) (columns s c (L.getD j (-1)).toNat) == j + 1 && (List.range j).all fun i => L.getD i (-1) == ((toward s c (L.getD j (-1)).toNat (i + 1) : Nat) : Int)))))
def cellChk (s kind c : Nat) : Bool := (linesOf s kind c).all (lineChk s kind c) && ((List.range (s * s)).all (fun y => !aims kind s [] c y || (linesOf s kind c).any fun L => L.contains (y : Int)) &&
  (decide ((linesOf s kind c).flatten.Nodup) && decide ((linesOf s kind c).flatten.length ≤ 64)))
theorem cellChk_all : (sizes.all fun s => kinds.all fun kind => (List.range (s * s)).all fun c => cellChk s kind c) = true := by decide +kernel
def symChk (s kind x y : Nat) : Bool := (aims kind s [] x y == aims kind s [] y x) && (kind == 4 || (!aims kind s [] x y || (List.range (max (rows s x y) (columns s x y))).all fun i => i == 0 || toward s y x i == toward s x y (max (rows s x y) (columns s x y) - i)))
theorem symChk_all : (sizes.all fun s => kinds.all fun kind => (List.range (s * s)).all fun x => (List.range (s * s)).all fun y => symChk s kind x y) = true := by decide +kernel
def besideChk (s c : Nat) : Bool := stepsFrom s c (straight ++ aslant) == ((List.range (s * s)).filter fun y => near s c y).map Int.ofNat
theorem besideChk_all : (sizes.all fun s => (List.range (s * s)).all fun c => besideChk s c) = true := by decide +kernel
theorem rayChk_all : (sizes.all fun s => (List.range (s * s)).all fun c => (straight ++ aslant).all fun d => rayOk s d 8 (stepFrom s c d)) = true := by decide +kernel

theorem kinds_of {a : Nat} (h1 : 1 ≤ a) (h2 : a ≤ 4) : a ∈ kinds := by
  unfold kinds
  simp
  omega
theorem cell_chk {s kind c : Nat} (hs : s ∈ sizes) (hk : kind ∈ kinds) (hc : c < s * s) : cellChk s kind c = true := by
  have := List.all_eq_true.mp (List.all_eq_true.mp (List.all_eq_true.mp cellChk_all s hs) kind hk) c (List.mem_range.mpr hc)
  exact this
theorem sym_chk {s kind x y : Nat} (hs : s ∈ sizes) (hk : kind ∈ kinds) (hx : x < s * s) (hy : y < s * s) : symChk s kind x y = true :=
  List.all_eq_true.mp (List.all_eq_true.mp (List.all_eq_true.mp (List.all_eq_true.mp symChk_all s hs) kind hk) x (List.mem_range.mpr hx)) y (List.mem_range.mpr hy)
theorem beside_is {s c : Nat} (hs : s ∈ sizes) (hc : c < s * s) : stepsFrom s c (straight ++ aslant) = ((List.range (s * s)).filter fun y => near s c y).map Int.ofNat := by
  have := List.all_eq_true.mp (List.all_eq_true.mp besideChk_all s hs) c (List.mem_range.mpr hc)
  exact eq_of_beq this
theorem ray_ok {s c : Nat} {d : Int × Int} (hs : s ∈ sizes) (hc : c < s * s) (hd : d ∈ straight ++ aslant) : rayOk s d 8 (stepFrom s c d) = true :=
  List.all_eq_true.mp (List.all_eq_true.mp (List.all_eq_true.mp rayChk_all s hs) c (List.mem_range.mpr hc)) d hd

/-! ## aims -/
theorem clear_nil (s x y : Nat) : clear s [] x y = true := by
  unfold clear
  rw [List.all_eq_true]
  intro i _
  simp
theorem aims_split (kind s : Nat) (taken : List Nat) (x y : Nat) : aims kind s taken x y = (aims kind s [] x y && (kind == 4 || clear s taken x y)) := by
  unfold aims
  simp only [clear_nil, Bool.and_true]
  by_cases h1 : kind = 1
  · subst h1; simp
  · by_cases h2 : kind = 2
    · subst h2; simp
    · by_cases h3 : kind = 3
      · subst h3; simp
      · by_cases h4 : kind = 4
        · subst h4; simp
        · simp [h1, h2, h3, h4]
theorem apart_comm (x y : Nat) : apart x y = apart y x := by
  unfold apart
  split <;> split <;> omega
theorem rows_comm (s x y : Nat) : rows s x y = rows s y x := apart_comm _ _
theorem columns_comm (s x y : Nat) : columns s x y = columns s y x := apart_comm _ _
theorem near_comm (s x y : Nat) : near s x y = near s y x := by
  unfold near
  rw [rows_comm, columns_comm]
theorem apart_self (x : Nat) : apart x x = 0 := by
  unfold apart
  simp
theorem near_self (s x : Nat) : near s x x = false := by
  unfold near rows columns
  rw [apart_self, apart_self]
  rfl
theorem near_ne {s x y : Nat} (h : near s x y = true) : x ≠ y := fun e => by
  subst e
  rw [near_self] at h; cases h
theorem aims_self (kind s : Nat) (taken : List Nat) (x : Nat) : aims kind s taken x x = false := by
  unfold aims rows columns
  rw [apart_self, apart_self]
  simp
theorem aims_ne {kind s : Nat} {taken : List Nat} {x y : Nat} (h : aims kind s taken x y = true) : x ≠ y := fun e => by
  subst e
  rw [aims_self] at h; cases h
theorem clear_iff {s : Nat} {taken : List Nat} {x y : Nat} : clear s taken x y = true ↔ ∀ i, i < max (rows s x y) (columns s x y) → i ≠ 0 → toward s x y i ∉ taken := by
  unfold clear
  rw [List.all_eq_true]
  constructor
  · intro h i hi h0
    have := h i (List.mem_range.mpr hi)
    simpa [h0] using this
  · intro h i hi
    have := h i (List.mem_range.mp hi)
    by_cases h0 : i = 0
    · simp [h0]
    · simpa [h0] using this h0
theorem aims_sym {s kind x y : Nat} {t1 t2 : List Nat} (hs : s ∈ sizes) (hk : kind ∈ kinds) (hx : x < s * s) (hy : y < s * s) (ht : ∀ z, z ∈ t1 ↔ z ∈ t2) (h : aims kind s t1 x y = true) : aims kind s t2 y x = true := by
  have c := sym_chk hs hk hx hy
  unfold symChk at c
  rw [aims_split, Bool.and_eq_true] at h ⊢
  rw [Bool.and_eq_true] at c
  obtain ⟨c1, c2⟩ := c
  have e := eq_of_beq c1
  refine ⟨by rw [← e]; exact h.1, ?_⟩
  by_cases h4 : kind = 4
  · simp [h4]
  · have b4 : (kind == 4) = false := by simp [h4]
    rw [b4, Bool.false_or] at c2
    rw [b4, Bool.false_or]
    have hcl : clear s t1 x y = true := by
      have := h.2
      rw [b4, Bool.false_or] at this
      exact this
    rw [h.1, Bool.not_true, Bool.false_or, List.all_eq_true] at c2
    rw [clear_iff] at hcl ⊢
    intro i hi h0 m
    rw [rows_comm, columns_comm] at hi
    have q := c2 i (List.mem_range.mpr hi)
    have b0 : (i == 0) = false := by simp [h0]
    rw [b0, Bool.false_or] at q
    rw [eq_of_beq q] at m
    exact hcl _ (by omega) (by omega) ((ht _).mpr m)

/-- the program's list of cells aimed at has just what is aimed at -/
theorem aimed_iff {s kind c y : Nat} {st : Int → Bool} {taken : List Nat} (hs : s ∈ sizes) (hk : kind ∈ kinds) (hc : c < s * s) (hy : y < s * s)
    (ht : ∀ z : Nat, z < s * s → z ≠ c → z ≠ y → (st (z : Int) = true ↔ z ∈ taken)) : (y : Int) ∈ aimedL s kind c st ↔ aims kind s taken c y = true := by
  have ck := cell_chk hs hk hc
  unfold cellChk at ck
  simp only [Bool.and_eq_true, List.all_eq_true, List.mem_range, decide_eq_true_eq] at ck
  obtain ⟨k1, k2, k3, k4⟩ := ck
  -- a line's facts
  have line : ∀ L, L ∈ linesOf s kind c → ∀ (j : Nat) (z : Int), L[j]? = some z → ∃ n : Nat, z = (n : Int) ∧ n < s * s ∧ aims kind s [] c n = true ∧
      (kind = 4 → j = 0) ∧ (kind ≠ 4 → max (rows s c n) (columns s c n) = j + 1 ∧ ∀ (i : Nat) (u : Int), i < j → L[i]? = some u → u = ((toward s c n (i + 1) : Nat) : Int)) := by
    intro L hL j z hz
    have lt : j < L.length := (List.getElem?_eq_some_iff.mp hz).1
    have q := k1 L hL
    unfold lineChk at q
    rw [List.all_eq_true] at q
    have q := q j (List.mem_range.mpr lt)
    have eg : L.getD j (-1) = z := by rw [List.getD_eq_getElem?_getD, hz]; rfl
    rw [eg] at q
    simp only [Bool.and_eq_true, decide_eq_true_eq] at q
    obtain ⟨q1, q2, q3, q4⟩ := q
    have en : ((z.toNat : Nat) : Int) = z := Int.toNat_of_nonneg q1
    refine ⟨z.toNat, en.symm, by omega, q3, fun h4 => ?_, fun h4 => ?_⟩
    · rw [if_pos h4] at q4
      exact eq_of_beq q4
    · rw [if_neg h4] at q4
      simp only [Bool.and_eq_true, List.all_eq_true, List.mem_range] at q4
      refine ⟨eq_of_beq q4.1, fun i u hi hu => ?_⟩
      have := eq_of_beq (q4.2 i hi)
      rw [List.getD_eq_getElem?_getD, hu] at this
      exact this
  have nd : ∀ L, L ∈ linesOf s kind c → L.Nodup := fun L hL => List.Nodup.sublist (List.sublist_flatten_of_mem hL) k3
  have other : ∀ L, L ∈ linesOf s kind c → ∀ (i j : Nat) (u v : Int), L[i]? = some u → L[j]? = some v → i < j → u ≠ v := fun L hL i j u v hi hj l e => by
    subst e
    have n := nd L hL
    obtain ⟨l1, e1⟩ := List.getElem?_eq_some_iff.mp hi
    obtain ⟨l2, e2⟩ := List.getElem?_eq_some_iff.mp hj
    have := (List.getElem_inj n).mp (e1.trans e2.symm)
    omega
  have free : ∀ L, L ∈ linesOf s kind c → ∀ j, L[j]? = some (y : Int) → ((∀ (i : Nat) (z : Int), i < j → L[i]? = some z → st z = false) ↔ (∀ (i : Nat) (z : Nat), i < j → L[i]? = some (z : Int) → z ∉ taken)) := by
    intro L hL j hj
    constructor
    · intro h i z hi hz m
      obtain ⟨n, en, ln, an, _⟩ := line L hL i _ hz
      have : z = n := by omega
      subst this
      have := (ht z ln (fun e => aims_ne an e.symm) (fun e => other L hL i j _ _ hz hj hi (by rw [e]))).mpr m
      rw [h i _ hi hz] at this
      cases this
    · intro h i z hi hz
      obtain ⟨n, en, ln, an, _⟩ := line L hL i _ hz
      subst en
      have := ht n ln (fun e => aims_ne an e.symm) (fun e => other L hL i j _ _ hz hj hi (by rw [e]))
      cases q : st (n : Int) with
      | false => rfl
      | true => exact absurd (this.mp q) (h i n hi hz)
  unfold aimedL
  rw [List.mem_flatMap, aims_split, Bool.and_eq_true]
  constructor
  · rintro ⟨L, hL, m⟩
    obtain ⟨j, hj, hb⟩ := mem_takeTo.mp m
    obtain ⟨n, en, ln, an, l4, lo⟩ := line L hL j _ hj
    have : y = n := by omega
    subst this
    refine ⟨an, ?_⟩
    by_cases h4 : kind = 4
    · simp [h4]
    · obtain ⟨lm, lt⟩ := lo h4
      have : clear s taken c y = true := by
        rw [clear_iff]
        intro i hi h0
        have l2 : i - 1 < j := by omega
        obtain ⟨u, hu⟩ : ∃ u, L[i - 1]? = some u := ⟨L[i - 1]'(by have := (List.getElem?_eq_some_iff.mp hj).1; omega), List.getElem?_eq_getElem _⟩
        have e := lt (i - 1) u l2 hu
        rw [show i - 1 + 1 = i by omega] at e
        subst e
        exact (free L hL j hj).mp hb (i - 1) _ l2 hu
      simp [this]
  · rintro ⟨a0, hcl⟩
    have k := k2 y hy
    rw [a0, Bool.not_true, Bool.false_or, List.any_eq_true] at k
    obtain ⟨L, hL, cy⟩ := k
    have my : (y : Int) ∈ L := by simpa using cy
    obtain ⟨j, hj⟩ := List.mem_iff_getElem?.mp my
    refine ⟨L, hL, mem_takeTo.mpr ⟨j, hj, ?_⟩⟩
    obtain ⟨n, en, ln, an, l4, lo⟩ := line L hL j _ hj
    have : y = n := by omega
    subst this
    by_cases h4 : kind = 4
    · have := l4 h4
      subst this
      intro i z hi
      exact absurd hi (Nat.not_lt_zero i)
    · obtain ⟨lm, lt⟩ := lo h4
      have b4 : (kind == 4) = false := by simp [h4]
      rw [b4, Bool.false_or, clear_iff] at hcl
      refine (free L hL j hj).mpr fun i z hi hz m => ?_
      have e := lt i _ hi hz
      have e' : z = toward s c y (i + 1) := by omega
      subst e'
      exact hcl (i + 1) (by omega) (by omega) m
theorem aimed_in {s kind c : Nat} {st : Int → Bool} (hs : s ∈ sizes) (hk : kind ∈ kinds) (hc : c < s * s) {z : Int} (h : z ∈ aimedL s kind c st) : ∃ n : Nat, z = (n : Int) ∧ n < s * s := by
  have ck := cell_chk hs hk hc
  unfold cellChk at ck
  simp only [Bool.and_eq_true, List.all_eq_true] at ck
  obtain ⟨k1, _⟩ := ck
  obtain ⟨L, hL, m⟩ := List.mem_flatMap.mp h
  obtain ⟨j, hj, _⟩ := mem_takeTo.mp m
  have lt : j < L.length := (List.getElem?_eq_some_iff.mp hj).1
  have q := k1 L hL
  unfold lineChk at q
  rw [List.all_eq_true] at q
  have q := q j (List.mem_range.mpr lt)
  have eg : L.getD j (-1) = z := by rw [List.getD_eq_getElem?_getD, hj]; rfl
  rw [eg] at q
  simp only [Bool.and_eq_true, decide_eq_true_eq] at q
  obtain ⟨q1, q2, _⟩ := q
  exact ⟨z.toNat, (Int.toNat_of_nonneg q1).symm, by omega⟩
theorem aimed_nodup {s kind c : Nat} {st : Int → Bool} (hs : s ∈ sizes) (hk : kind ∈ kinds) (hc : c < s * s) : (aimedL s kind c st).Nodup ∧ (linesOf s kind c).flatten.length ≤ 64 := by
  have ck := cell_chk hs hk hc
  unfold cellChk at ck
  simp only [Bool.and_eq_true, decide_eq_true_eq] at ck
  exact ⟨List.Nodup.sublist (aimed_sub st _) ck.2.2.1, ck.2.2.2⟩
theorem range_map_sorted : ∀ (l : List Nat), l.Pairwise (· < ·) → (l.map Int.ofNat).Pairwise (· ≤ ·)
  | [], _ => .nil
  | x :: r, h => by
    obtain ⟨h1, h2⟩ := List.pairwise_cons.mp h
    refine List.pairwise_cons.mpr ⟨fun z hz => ?_, range_map_sorted r h2⟩
    obtain ⟨y, hy, rfl⟩ := List.mem_map.mp hz
    have := h1 y hy
    show ((x : Nat) : Int) ≤ ((y : Nat) : Int)
    omega
theorem nodup_perm {a b : List Int} (ha : a.Nodup) (hb : b.Nodup) (h : ∀ z, z ∈ a ↔ z ∈ b) : a.Perm b := (List.perm_ext_iff_of_nodup ha hb).mpr h
/-- .. and sorted they are the cells in order -/
theorem aimed_sorted {s kind c : Nat} {st : Int → Bool} {taken : List Nat} (hs : s ∈ sizes) (hk : kind ∈ kinds) (hc : c < s * s)
    (ht : ∀ z : Nat, z < s * s → z ≠ c → (st (z : Int) = true ↔ z ∈ taken)) : isort (aimedL s kind c st) = ((List.range (s * s)).filter fun y => aims kind s taken c y).map Int.ofNat := by
  have pr : ((List.range (s * s)).filter fun y => aims kind s taken c y).Pairwise (· < ·) := List.Pairwise.filter _ List.pairwise_lt_range
  refine (isort_one ?_ (range_map_sorted _ pr)).symm
  refine nodup_perm (nodup_map_inj (fun x y e => Int.ofNat.inj e) (nodup_filter List.nodup_range)) (aimed_nodup hs hk hc).1 fun z => ?_
  constructor
  · intro m
    obtain ⟨y, hy, rfl⟩ := List.mem_map.mp m
    obtain ⟨h1, h2⟩ := List.mem_filter.mp hy
    exact (aimed_iff hs hk hc (List.mem_range.mp h1) fun w w1 w2 _ => ht w w1 w2).mpr h2
  · intro m
    obtain ⟨n, rfl, hn⟩ := aimed_in hs hk hc m
    have := (aimed_iff hs hk hc hn fun w w1 w2 _ => ht w w1 w2).mp m
    exact List.mem_map.mpr ⟨n, List.mem_filter.mpr ⟨List.mem_range.mpr hn, this⟩, rfl⟩
end Ch
end

section
set_option Elab.async false
/- The game as the program works it out (a mirror of it), and that it tells wins and loses. Plain Lean. -/
namespace Ch
open Sn80

/-! ## tables by position -/
def look {α : Type} (l : List (Pos × α)) (p : Pos) : Option α := (l.find? fun e => decide (e.1 = p)).map (·.2)
def put {α : Type} (l : List (Pos × α)) (p : Pos) (v : α) : List (Pos × α) :=
  if (l.any fun e => decide (e.1 = p)) = true then l.map (fun e => if e.1 = p then (e.1, v) else e) else l ++ [(p, v)]
section
variable {α : Type}
theorem look_nil (p : Pos) : look ([] : List (Pos × α)) p = none := rfl
theorem look_pos {e : Pos × α} {r : List (Pos × α)} {p : Pos} (h : e.1 = p) : look (e :: r) p = some e.2 := by simp [look, h]
theorem look_neg {e : Pos × α} {r : List (Pos × α)} {p : Pos} (h : ¬ e.1 = p) : look (e :: r) p = look r p := by simp [look, h]
theorem look_none {p : Pos} : ∀ {l : List (Pos × α)}, look l p = none ↔ p ∉ l.map (·.1)
  | [] => by simp [look_nil]
  | e :: r => by
    rw [List.map_cons, List.mem_cons]
    by_cases h : e.1 = p
    · rw [look_pos h]
      constructor
      · intro z; cases z
      · intro z; exact absurd (Or.inl h.symm) z
    · rw [look_neg h, look_none]
      constructor
      · rintro z (y | y)
        · exact h y.symm
        · exact z y
      · intro z y; exact z (Or.inr y)
theorem look_any {p : Pos} (l : List (Pos × α)) : (l.any fun e => decide (e.1 = p)) = (look l p).isSome := by
  induction l with
  | nil => rfl
  | cons e r ih =>
    rw [List.any_cons]
    by_cases h : e.1 = p
    · simp only [look_pos h, decide_eq_true h, Bool.true_or, Option.isSome_some]
    · rw [look_neg h, decide_eq_false h, Bool.false_or, ih]
theorem look_map (p q : Pos) (v : α) : ∀ l : List (Pos × α), look (l.map fun e => if e.1 = p then (e.1, v) else e) q = (look l q).map fun x => if q = p then v else x
  | [] => rfl
  | e :: r => by
    have ih := look_map p q v r
    rw [List.map_cons]
    by_cases h : e.1 = p
    · rw [if_pos h]
      by_cases z : e.1 = q
      · rw [look_pos (e := (e.1, v)) z, look_pos z, Option.map_some, if_pos (z.symm.trans h)]
      · rw [look_neg (e := (e.1, v)) z, look_neg z, ih]
    · rw [if_neg h]
      by_cases z : e.1 = q
      · rw [look_pos z, look_pos z, Option.map_some, if_neg (fun y => h (z.trans y))]
      · rw [look_neg z, look_neg z, ih]
theorem look_snoc (p q : Pos) (v : α) : ∀ l : List (Pos × α), look l p = none → look (l ++ [(p, v)]) q = if q = p then some v else look l q
  | [], _ => by
    by_cases z : p = q
    · rw [if_pos z.symm]; exact look_pos z
    · rw [if_neg (fun y => z y.symm)]; exact look_neg z
  | e :: r, hn => by
    rw [List.cons_append]
    have hk : ¬ e.1 = p := fun z => by rw [look_pos z] at hn; cases hn
    rw [look_neg hk] at hn
    have ih := look_snoc p q v r hn
    by_cases z : e.1 = q
    · rw [look_pos z, look_pos z, if_neg (fun y => hk (z.trans y))]
    · rw [look_neg z, look_neg z, ih]
theorem look_put (l : List (Pos × α)) (p q : Pos) (v : α) : look (put l p v) q = if q = p then some v else look l q := by
  unfold put
  by_cases a : (l.any fun e => decide (e.1 = p)) = true
  · rw [if_pos a, look_map]
    rw [look_any] at a
    by_cases e : q = p
    · obtain ⟨x, hx⟩ := Option.isSome_iff_exists.mp a
      rw [if_pos e, e, hx, Option.map_some, if_pos rfl]
    · rw [if_neg e]
      cases look l q with
      | none => rfl
      | some x => rw [Option.map_some, if_neg e]
  · rw [if_neg a]
    refine look_snoc p q v l ?_
    rw [look_any] at a
    cases z : look l p with
    | none => rfl
    | some x => rw [z] at a; exact (a rfl).elim
theorem nodup_snoc {β : Type} {l : List β} {x : β} (h : l.Nodup) (hx : x ∉ l) : (l ++ [x]).Nodup :=
  List.nodup_append.mpr ⟨h, List.nodup_cons.mpr ⟨by simp, List.nodup_nil⟩, fun a ha b hb => by
    rw [List.mem_singleton] at hb
    subst hb
    exact fun e => hx (e ▸ ha)⟩
theorem keys_put {l : List (Pos × α)} {p : Pos} {v : α} (h : (l.map (·.1)).Nodup) : ((put l p v).map (·.1)).Nodup := by
  unfold put
  by_cases a : (l.any fun e => decide (e.1 = p)) = true
  · rw [if_pos a, List.map_map]
    have e : ((fun x : Pos × α => x.1) ∘ fun e => if e.1 = p then (e.1, v) else e) = fun x => x.1 := by
      funext x
      show (if x.1 = p then (x.1, v) else x).1 = x.1
      split <;> rfl
    rw [e]
    exact h
  · rw [if_neg a, List.map_append]
    rw [look_any] at a
    refine nodup_snoc h (look_none.mp ?_)
    cases z : look l p with
    | none => rfl
    | some x => rw [z] at a; exact (a rfl).elim
theorem look_some_mem {l : List (Pos × α)} {p : Pos} {v : α} (h : look l p = some v) : (p, v) ∈ l := by
  unfold look at h
  obtain ⟨e, he, rfl⟩ := Option.map_eq_some_iff.mp h
  have h1 := List.mem_of_find?_eq_some he
  have h2 := List.find?_some he
  have h3 : e.1 = p := of_decide_eq_true h2
  subst h3
  exact h1
theorem look_of_mem {l : List (Pos × α)} {p : Pos} {v : α} (nd : (l.map (·.1)).Nodup) (h : (p, v) ∈ l) : look l p = some v := by
  induction l with
  | nil => cases h
  | cons e r ih =>
    rw [List.map_cons] at nd
    obtain ⟨n1, n2⟩ := List.nodup_cons.mp nd
    rcases List.mem_cons.mp h with z | z
    · subst z; exact look_pos rfl
    · have : ¬ e.1 = p := fun y => n1 (y ▸ List.mem_map.mpr ⟨(p, v), z, rfl⟩)
      rw [look_neg this]
      exact ih n2 z
end

/-! ## how many positions there can be -/
structure Fits (g : Game) : Prop where
  s : g.s ∈ sizes
  a1 : 1 ≤ g.a
  a4 : g.a ≤ 4
  b4 : g.b ≤ 4
  sm : g.s = 3 ∨ g.b = 0
theorem length_sub : ∀ {l m : List Nat}, l.Nodup → (∀ x, x ∈ l → x ∈ m) → l.length ≤ m.length
  | [], _, _, _ => Nat.zero_le _
  | x :: r, m, nd, h => by
    obtain ⟨n1, n2⟩ := List.nodup_cons.mp nd
    have hx : x ∈ m := h x List.mem_cons_self
    have ih := length_sub (l := r) (m := m.erase x) n2 fun y hy => by
      have ne : y ≠ x := fun e => n1 (e ▸ hy)
      exact (List.mem_erase_of_ne ne).mpr (h y (List.mem_cons_of_mem _ hy))
    rw [List.length_erase_of_mem hx] at ih
    have : 0 < m.length := List.length_pos_of_mem hx
    rw [List.length_cons]
    omega
theorem length_below {l : List Nat} {n : Nat} (nd : l.Nodup) (h : ∀ x, x ∈ l → x < n) : l.length ≤ n := by
  have := length_sub nd (m := List.range n) fun x hx => List.mem_range.mpr (h x hx)
  rwa [List.length_range] at this
theorem nodup_map_on {α β : Type} {f : α → β} : ∀ {l : List α}, (∀ x, x ∈ l → ∀ y, y ∈ l → f x = f y → x = y) → l.Nodup → (l.map f).Nodup
  | [], _, _ => List.nodup_nil
  | x :: r, hf, h => by
    obtain ⟨h1, h2⟩ := List.nodup_cons.mp h
    refine List.nodup_cons.mpr ⟨fun m => ?_, nodup_map_on (fun y hy z hz => hf y (List.mem_cons_of_mem _ hy) z (List.mem_cons_of_mem _ hz)) h2⟩
    obtain ⟨z, hz, e⟩ := List.mem_map.mp m
    have := hf z (List.mem_cons_of_mem _ hz) x List.mem_cons_self e
    subst this
    exact h1 hz
theorem sizes_of {s : Nat} (h : s ∈ sizes) : s = 3 ∨ s = 4 ∨ s = 5 := by
  unfold sizes at h
  simpa using h
theorem cap {g : Game} (F : Fits g) {l : List Pos} (nd : l.Nodup) (h : ∀ p, p ∈ l → St g p) : l.length ≤ 20000 := by
  by_cases hb : g.b = 0
  · have inj : ∀ x, x ∈ l → ∀ y, y ∈ l → number g x = number g y → x = y := fun x hx y hy e => by
      have := congrArg (position g) e
      rwa [position_number (h x hx).inb, position_number (h y hy).inb] at this
    have nd2 := nodup_map_on inj nd
    have e1 : ∀ x, x ∈ l → number g x / (g.cells + 1) * (g.cells + 1) + g.cells = number g x := fun x hx => by
      have : x.b = g.cells := (h x hx).no hb
      unfold number
      rw [this, div_of (Nat.lt_succ_self _)]
    have nd3 : ((l.map (number g)).map (fun n => n / (g.cells + 1))).Nodup := by
      refine nodup_map_on (fun x hx y hy e => ?_) nd2
      obtain ⟨p, hp, rfl⟩ := List.mem_map.mp hx
      obtain ⟨q, hq, rfl⟩ := List.mem_map.mp hy
      rw [← e1 p hp, ← e1 q hq, e]
    have := length_below (n := g.cells * g.cells * (g.cells + 1)) nd3 fun x hx => by
      obtain ⟨n, hn, rfl⟩ := List.mem_map.mp hx
      obtain ⟨p, hp, rfl⟩ := List.mem_map.mp hn
      have ip := (h p hp).inb
      unfold number
      rw [div_of (Nat.lt_succ_of_le ip.b)]
      exact lt_of (lt_of ip.wk ip.bk) (Nat.lt_succ_of_le ip.a)
    rw [List.length_map, List.length_map] at this
    unfold Game.cells at this
    rcases sizes_of F.s with e | e | e <;> rw [e] at this <;> omega
  · have hs : g.s = 3 := F.sm.resolve_right hb
    have inj : ∀ x, x ∈ l → ∀ y, y ∈ l → number g x = number g y → x = y := fun x hx y hy e => by
      have := congrArg (position g) e
      rwa [position_number (h x hx).inb, position_number (h y hy).inb] at this
    have nd2 := nodup_map_on inj nd
    have := length_below (n := many g) nd2 fun x hx => by
      obtain ⟨p, hp, rfl⟩ := List.mem_map.mp hx
      exact number_lt (h p hp).inb
    rw [List.length_map] at this
    unfold many Game.cells at this
    rw [hs] at this
    omega
theorem cap_keys {g : Game} (F : Fits g) {α : Type} {l : List (Pos × α)} (nd : (l.map (·.1)).Nodup) (h : ∀ p v, look l p = some v → St g p) : l.length ≤ 20000 := by
  have := cap F nd fun p hp => by
    obtain ⟨⟨q, v⟩, hq, rfl⟩ := List.mem_map.mp hp
    exact h q v (look_of_mem nd hq)
  rwa [List.length_map] at this

/-! ## all positions -/
def placesL (g : Game) (kind : Nat) : List Nat := if kind = 0 then [g.cells] else List.range (g.cells + 1)
def stepP (g : Game) (cs : List (Pos × Bool)) (p : Pos) : List (Pos × Bool) := if stands g p = true then put cs p (check g p) else cs
def stepB (g : Game) (wk bk a : Nat) (cs : List (Pos × Bool)) (b : Nat) : List (Pos × Bool) := stepP g cs ⟨wk, bk, a, b⟩
def stepA (g : Game) (wk bk : Nat) (cs : List (Pos × Bool)) (a : Nat) : List (Pos × Bool) := (placesL g g.b).foldl (stepB g wk bk a) cs
def withKings (g : Game) (wk bk : Nat) (cs : List (Pos × Bool)) : List (Pos × Bool) := (placesL g g.a).foldl (stepA g wk bk) cs
def stepK (g : Game) (wk : Nat) (cs : List (Pos × Bool)) (bk : Nat) : List (Pos × Bool) := if wk ≠ bk ∧ near g.s wk bk = false then withKings g wk bk cs else cs
def stepW (g : Game) (cs : List (Pos × Bool)) (wk : Nat) : List (Pos × Bool) := (List.range g.cells).foldl (stepK g wk) cs
def checksM (g : Game) : List (Pos × Bool) := (List.range g.cells).foldl (stepW g) []

/-- of the positions in S just those that are are in the table, with what's so of each -/
structure Chk (g : Game) (cs : List (Pos × Bool)) (S : Pos → Prop) : Prop where
  at_ : ∀ p v, look cs p = some v ↔ S p ∧ St g p ∧ v = check g p
  nd : (cs.map (·.1)).Nodup
theorem Chk.iff {g : Game} {cs : List (Pos × Bool)} {S T : Pos → Prop} (h : Chk g cs S) (e : ∀ p, St g p → (S p ↔ T p)) : Chk g cs T :=
  ⟨fun p v => (h.at_ p v).trans ⟨fun z => ⟨(e p z.2.1).mp z.1, z.2⟩, fun z => ⟨(e p z.2.1).mpr z.1, z.2⟩⟩, h.nd⟩
theorem Chk.cap {g : Game} {cs : List (Pos × Bool)} {S : Pos → Prop} (F : Fits g) (h : Chk g cs S) : cs.length ≤ 20000 := cap_keys F h.nd fun p v e => ((h.at_ p v).mp e).2.1
theorem Chk_fold {β : Type} {g : Game} {f : List (Pos × Bool) → β → List (Pos × Bool)} {T : β → Pos → Prop} : ∀ (l : List β), (∀ x, x ∈ l → ∀ cs S, Chk g cs S → Chk g (f cs x) fun p => S p ∨ T x p) →
    ∀ cs S, Chk g cs S → Chk g (l.foldl f cs) fun p => S p ∨ ∃ x, x ∈ l ∧ T x p
  | [], _, cs, S, h => h.iff fun p _ => ⟨Or.inl, fun z => z.elim id fun ⟨x, hx, _⟩ => (by cases hx)⟩
  | y :: r, hf, cs, S, h => by
    rw [List.foldl_cons]
    refine (Chk_fold r (fun x hx => hf x (List.mem_cons_of_mem _ hx)) _ _ (hf y List.mem_cons_self cs S h)).iff fun p _ => ?_
    constructor
    · rintro ((z | z) | ⟨x, hx, z⟩)
      · exact .inl z
      · exact .inr ⟨y, List.mem_cons_self, z⟩
      · exact .inr ⟨x, List.mem_cons_of_mem _ hx, z⟩
    · rintro (z | ⟨x, hx, z⟩)
      · exact .inl (.inl z)
      · rcases List.mem_cons.mp hx with rfl | hx
        · exact .inl (.inr z)
        · exact .inr ⟨x, hx, z⟩
theorem Chk_P {g : Game} (q : Pos) (cs : List (Pos × Bool)) (S : Pos → Prop) (h : Chk g cs S) : Chk g (stepP g cs q) fun p => S p ∨ p = q := by
  unfold stepP
  by_cases c : stands g q = true
  · rw [if_pos c]
    refine ⟨fun p v => ?_, keys_put h.nd⟩
    rw [look_put]
    by_cases e : p = q
    · subst e
      rw [if_pos rfl]
      constructor
      · intro z
        cases z
        exact ⟨.inr rfl, stands_iff.mp c, rfl⟩
      · rintro ⟨_, _, z⟩
        rw [z]
    · rw [if_neg e, h.at_]
      constructor
      · rintro ⟨z, y⟩
        exact ⟨.inl z, y⟩
      · rintro ⟨z, y⟩
        exact ⟨z.resolve_right e, y⟩
  · rw [if_neg c]
    refine h.iff fun p hp => ⟨Or.inl, fun z => z.resolve_right fun e => ?_⟩
    subst e
    exact c (stands_iff.mpr hp)
def TB (wk bk a b : Nat) : Pos → Prop := fun p => p = ⟨wk, bk, a, b⟩
def TA (g : Game) (wk bk a : Nat) : Pos → Prop := fun p => ∃ b, b ∈ placesL g g.b ∧ TB wk bk a b p
def TK (g : Game) (wk bk : Nat) : Pos → Prop := fun p => ∃ a, a ∈ placesL g g.a ∧ TA g wk bk a p
def TW (g : Game) (wk : Nat) : Pos → Prop := fun p => ∃ bk, bk ∈ List.range g.cells ∧ TK g wk bk p
theorem Chk_B {g : Game} {wk bk a : Nat} (b : Nat) (cs : List (Pos × Bool)) (S : Pos → Prop) (h : Chk g cs S) : Chk g (stepB g wk bk a cs b) fun p => S p ∨ TB wk bk a b p := Chk_P _ cs S h
theorem Chk_A {g : Game} {wk bk : Nat} (a : Nat) (cs : List (Pos × Bool)) (S : Pos → Prop) (h : Chk g cs S) : Chk g (stepA g wk bk cs a) fun p => S p ∨ TA g wk bk a p :=
  Chk_fold _ (fun b _ cs S h => Chk_B b cs S h) cs S h
theorem Chk_kings {g : Game} {wk bk : Nat} (cs : List (Pos × Bool)) (S : Pos → Prop) (h : Chk g cs S) : Chk g (withKings g wk bk cs) fun p => S p ∨ TK g wk bk p :=
  Chk_fold _ (fun a _ cs S h => Chk_A a cs S h) cs S h
theorem TK_at {g : Game} {wk bk : Nat} {p : Pos} (h : TK g wk bk p) : p.wk = wk ∧ p.bk = bk := by
  obtain ⟨a, _, b, _, e⟩ := h
  unfold TB at e
  subst e
  exact ⟨rfl, rfl⟩
theorem Chk_K {g : Game} {wk : Nat} (bk : Nat) (cs : List (Pos × Bool)) (S : Pos → Prop) (h : Chk g cs S) : Chk g (stepK g wk cs bk) fun p => S p ∨ TK g wk bk p := by
  unfold stepK
  by_cases c : wk ≠ bk ∧ near g.s wk bk = false
  · rw [if_pos c]
    exact Chk_kings cs S h
  · rw [if_neg c]
    refine h.iff fun p hp => ⟨Or.inl, fun z => z.resolve_right fun e => ?_⟩
    obtain ⟨e1, e2⟩ := TK_at e
    refine c ⟨?_, ?_⟩
    · rw [← e1, ← e2]; exact hp.ne
    · rw [← e1, ← e2]; exact hp.nn
theorem Chk_W {g : Game} (wk : Nat) (cs : List (Pos × Bool)) (S : Pos → Prop) (h : Chk g cs S) : Chk g (stepW g cs wk) fun p => S p ∨ TW g wk p :=
  Chk_fold _ (fun bk _ cs S h => Chk_K bk cs S h) cs S h
theorem Chk_nil (g : Game) : Chk g [] fun _ => False := ⟨fun p v => ⟨fun z => (by cases z), fun z => z.1.elim⟩, List.nodup_nil⟩
theorem Chk_all {g : Game} (F : Fits g) : Chk g (checksM g) fun _ => True := by
  refine (Chk_fold (T := TW g) (List.range g.cells) (fun wk _ cs S h => Chk_W wk cs S h) [] _ (Chk_nil g)).iff fun p hp => ⟨fun _ => trivial, fun _ => .inr ?_⟩
  refine ⟨p.wk, List.mem_range.mpr hp.wk, p.bk, List.mem_range.mpr hp.bk, p.a, ?_, p.b, ?_, rfl⟩
  · unfold placesL
    rw [if_neg (by have := F.a1; omega)]
    exact List.mem_range.mpr (Nat.lt_succ_of_le hp.a)
  · unfold placesL
    by_cases c : g.b = 0
    · rw [if_pos c, hp.no c]
      exact List.mem_singleton.mpr rfl
    · rw [if_neg c]
      exact List.mem_range.mpr (Nat.lt_succ_of_le hp.b)
theorem checks_look {g : Game} (F : Fits g) {p : Pos} {v : Bool} : look (checksM g) p = some v ↔ St g p ∧ v = check g p := by
  rw [(Chk_all F).at_]
  exact ⟨fun z => z.2, fun z => ⟨trivial, z⟩⟩
theorem checks_some {g : Game} (F : Fits g) {p : Pos} : (look (checksM g) p).isSome = stands g p := by
  cases e : look (checksM g) p with
  | none =>
    cases q : stands g p with
    | false => rfl
    | true =>
      rw [(checks_look F).mpr ⟨stands_iff.mp q, rfl⟩] at e
      cases e
  | some v =>
    have := ((checks_look F).mp e).1
    rw [stands_iff.mpr this]
    rfl
/-! ## moves, as the program lists them -/
def besideN (s c : Nat) : List Nat := (List.range (s * s)).filter fun y => near s c y
def notIn (p : Pos) (y : Nat) : Bool := decide (y ≠ p.wk ∧ y ≠ p.bk ∧ y ≠ p.a ∧ y ≠ p.b)
def kingMoves (g : Game) (p : Pos) : List (Nat × Nat × Pos) := ((besideN g.s p.wk).filter (notIn p)).map fun y => (0, y, ({ p with wk := y } : Pos))
def aCells (g : Game) (p : Pos) : List Nat := if p.a = g.cells then [] else (List.range g.cells).filter fun y => aims g.a g.s [p.wk, p.bk, p.b] p.a y
def bCells (g : Game) (p : Pos) : List Nat := if p.b = g.cells then [] else (List.range g.cells).filter fun y => aims g.b g.s [p.wk, p.bk, p.a] p.b y
def aMoves (g : Game) (p : Pos) : List (Nat × Nat × Pos) := ((aCells g p).filter (notIn p)).map fun y => (1, y, ({ p with a := y } : Pos))
def bMoves (g : Game) (p : Pos) : List (Nat × Nat × Pos) := ((bCells g p).filter (notIn p)).map fun y => (2, y, ({ p with b := y } : Pos))
def wm0 (g : Game) (p : Pos) : List (Nat × Nat × Pos) := kingMoves g p ++ aMoves g p ++ bMoves g p
def wm (g : Game) (p : Pos) : List (Nat × Nat × Pos) := (wm0 g p).filter fun m => stands g m.2.2
theorem fmf {α β γ : Type} (f : α → Bool) (h : α → β) (k : β → Bool) (t : β → γ) (l : List α) : (((l.filter f).map h).filter k).map t = (l.filter fun x => f x && k (h x)).map fun x => t (h x) := by
  induction l with
  | nil => rfl
  | cons x r ih =>
    by_cases c : f x = true
    · rw [List.filter_cons_of_pos c, List.map_cons]
      by_cases d : k (h x) = true
      · rw [List.filter_cons_of_pos d, List.map_cons, ih, List.filter_cons_of_pos (by rw [c, d]; rfl), List.map_cons]
      · rw [List.filter_cons_of_neg d, ih, List.filter_cons_of_neg (by rw [c]; simpa using d)]
    · rw [List.filter_cons_of_neg c, ih, List.filter_cons_of_neg (by simp [c])]
theorem ff {α : Type} (f k : α → Bool) (l : List α) : (l.filter f).filter k = l.filter fun x => f x && k x := by
  rw [List.filter_filter]
  congr 1
  funext x
  rw [Bool.and_comm]
theorem b_eq {a b : Bool} (h : a = true ↔ b = true) : a = b := by
  cases a <;> cases b <;> simp_all
theorem notIn_iff {p : Pos} {y : Nat} : notIn p y = true ↔ y ≠ p.wk ∧ y ≠ p.bk ∧ y ≠ p.a ∧ y ≠ p.b := by
  unfold notIn
  rw [decide_eq_true_eq]
theorem wm_whites {g : Game} {p : Pos} (hp : St g p) : (wm g p).map (fun m => m.2.2) = whites g p := by
  unfold wm wm0 whites all
  rw [List.filter_append, List.filter_append, List.map_append, List.map_append, List.append_assoc]
  congr 1
  · unfold kingMoves besideN
    rw [ff, fmf]
    congr 1
    refine List.filter_congr fun y hy => b_eq ?_
    have hy := List.mem_range.mp hy
    simp only [Bool.and_eq_true, notIn_iff, bne_iff_ne, Bool.not_eq_true']
    constructor
    · rintro ⟨⟨h1, _, h2, h3, h4⟩, h5⟩
      exact ⟨h1, h3, h4, h2, (stands_iff.mp h5).nn⟩
    · rintro ⟨h1, h3, h4, h2, h5⟩
      refine ⟨⟨h1, (near_ne h1).symm, h2, h3, h4⟩, stands_iff.mpr ?_⟩
      exact whites_stand hp (mem_whites.mpr (.inl ⟨y, hy, h1, h3, h4, h2, h5, rfl⟩))
  congr 1
  · unfold aMoves aCells on
    by_cases c : p.a = g.cells
    · rw [if_pos c]
      have : (fun y => decide (p.a < g.cells) && (y != p.wk && (y != p.bk && (y != p.b && aims g.a g.s [p.wk, p.bk, p.b] p.a y)))) = fun _ => false := by
        funext y
        have : decide (p.a < g.cells) = false := decide_eq_false (by omega)
        rw [this, Bool.false_and]
      rw [this]
      simp
    · rw [if_neg c, ff, fmf]
      have la : p.a < g.cells := by have := hp.a; omega
      congr 1
      refine List.filter_congr fun y hy => b_eq ?_
      have hy := List.mem_range.mp hy
      simp only [Bool.and_eq_true, notIn_iff, bne_iff_ne, decide_eq_true_eq]
      constructor
      · rintro ⟨⟨h1, h2, h3, h4, h5⟩, h6⟩
        exact ⟨la, h2, h3, h5, h1⟩
      · rintro ⟨_, h2, h3, h5, h1⟩
        refine ⟨⟨h1, h2, h3, (aims_ne h1).symm, h5⟩, stands_iff.mpr ?_⟩
        exact whites_stand hp (mem_whites.mpr (.inr (.inl ⟨y, hy, la, h2, h3, h5, h1, rfl⟩)))
  · unfold bMoves bCells on
    by_cases c : p.b = g.cells
    · rw [if_pos c]
      have : (fun y => decide (p.b < g.cells) && (y != p.wk && (y != p.bk && (y != p.a && aims g.b g.s [p.wk, p.bk, p.a] p.b y)))) = fun _ => false := by
        funext y
        have : decide (p.b < g.cells) = false := decide_eq_false (by omega)
        rw [this, Bool.false_and]
      rw [this]
      simp
    · rw [if_neg c, ff, fmf]
      have la : p.b < g.cells := by have := hp.b; omega
      congr 1
      refine List.filter_congr fun y hy => b_eq ?_
      have hy := List.mem_range.mp hy
      simp only [Bool.and_eq_true, notIn_iff, bne_iff_ne, decide_eq_true_eq]
      constructor
      · rintro ⟨⟨h1, h2, h3, h4, h5⟩, h6⟩
        exact ⟨la, h2, h3, h4, h1⟩
      · rintro ⟨_, h2, h3, h5, h1⟩
        refine ⟨⟨h1, h2, h3, h5, (aims_ne h1).symm⟩, stands_iff.mpr ?_⟩
        exact whites_stand hp (mem_whites.mpr (.inr (.inr ⟨y, hy, la, h2, h3, h5, h1, rfl⟩)))
theorem wm_moved {g : Game} {p : Pos} {m : Nat × Nat × Pos} (h : m ∈ wm g p) : moved p m.2.2 = [m.1, m.2.1] := by
  have h0 := (List.mem_filter.mp h).1
  unfold wm0 at h0
  rw [List.mem_append, List.mem_append] at h0
  rcases h0 with (h0 | h0) | h0
  · obtain ⟨y, hy, rfl⟩ := List.mem_map.mp h0
    have := notIn_iff.mp (List.mem_filter.mp hy).2
    show (if y ≠ p.wk then [0, y] else _) = _
    rw [if_pos this.1]
  · obtain ⟨y, hy, rfl⟩ := List.mem_map.mp h0
    have := notIn_iff.mp (List.mem_filter.mp hy).2
    show (if p.wk ≠ p.wk then [0, p.wk] else if y ≠ p.a then [1, y] else _) = _
    rw [if_neg (fun z => z rfl), if_pos this.2.2.1]
  · obtain ⟨y, hy, rfl⟩ := List.mem_map.mp h0
    show (if p.wk ≠ p.wk then [0, p.wk] else if p.a ≠ p.a then [1, p.a] else [2, y]) = _
    rw [if_neg (fun z => z rfl), if_neg (fun z => z rfl)]

/-- a white move goes back as it comes -/
theorem whites_sym {g : Game} (F : Fits g) {p q : Pos} (hp : St g p) (m : q ∈ whites g p) : p ∈ whites g q := by
  have hq := whites_stand hp m
  rcases mem_whites.mp m with ⟨y, h1, h2, h3, h4, h5, h6, e⟩ | ⟨y, h1, h2, h3, h4, h5, h6, e⟩ | ⟨y, h1, h2, h3, h4, h5, h6, e⟩
  · subst e
    refine mem_whites.mpr (.inl ⟨p.wk, hp.wk, ?_, ?_, ?_, hp.ne, hp.nn, rfl⟩)
    · show near g.s y p.wk = true
      rw [near_comm]; exact h2
    · intro z
      have z : p.wk = p.a := z
      have := (hp.aa (by rw [← z]; exact hp.wk)).1
      exact this z.symm
    · intro z
      have z : p.wk = p.b := z
      have := (hp.bb (by rw [← z]; exact hp.wk)).1
      exact this z.symm
  · subst e
    obtain ⟨a1, a2, a3⟩ := hp.aa h2
    refine mem_whites.mpr (.inr (.inl ⟨p.a, h2, h1, a1, a2, a3, ?_, rfl⟩))
    exact aims_sym F.s (kinds_of F.a1 F.a4) h2 h1 (fun z => Iff.rfl) h6
  · subst e
    obtain ⟨b1, b2⟩ := hp.bb h2
    have hb : 1 ≤ g.b := by
      have := hp.no
      omega
    refine mem_whites.mpr (.inr (.inr ⟨p.b, h2, h1, b1, b2, ?_, ?_, rfl⟩))
    · intro z
      have z : p.b = p.a := z
      exact (hp.aa (by rw [← z]; exact h2)).2.2 z.symm
    · exact aims_sym F.s (kinds_of hb F.b4) h2 h1 (fun z => Iff.rfl) h6
def bw (g : Game) (p : Pos) : List Pos := (whites g p).filter fun q => fair g q
theorem mem_bw {g : Game} (F : Fits g) {p q : Pos} (hp : St g p) : q ∈ bw g p ↔ fair g q = true ∧ p ∈ whites g q := by
  unfold bw
  rw [List.mem_filter]
  constructor
  · rintro ⟨h1, h2⟩
    exact ⟨h2, whites_sym F hp h1⟩
  · rintro ⟨h1, h2⟩
    exact ⟨whites_sym F (fair_iff.mp h1).1 h2, h1⟩
def bb1 (g : Game) (p : Pos) (c : Nat) : List Pos := ⟨p.wk, c, p.a, p.b⟩ :: ((if p.a = g.cells then [⟨p.wk, c, p.bk, p.b⟩] else []) ++ (if p.b = g.cells then [⟨p.wk, c, p.a, p.bk⟩] else []))
def bb (g : Game) (p : Pos) : List Pos := ((besideN g.s p.bk).flatMap (bb1 g p)).filter fun q => stands g q
theorem bb1_bk {g : Game} {p q : Pos} {c : Nat} (h : q ∈ bb1 g p c) : q.bk = c := by
  unfold bb1 at h
  rw [List.mem_cons, List.mem_append] at h
  rcases h with rfl | h | h
  · rfl
  · split at h
    · rw [List.mem_singleton] at h; subst h; rfl
    · cases h
  · split at h
    · rw [List.mem_singleton] at h; subst h; rfl
    · cases h
theorem bb1_nodup {g : Game} {p : Pos} (hp : St g p) (c : Nat) : (bb1 g p c).Nodup := by
  unfold bb1
  have hbk := hp.bk
  by_cases ha : p.a = g.cells
  · by_cases hb : p.b = g.cells
    · rw [if_pos ha, if_pos hb]
      simp
      omega
    · rw [if_pos ha, if_neg hb]
      simp
      omega
  · by_cases hb : p.b = g.cells
    · rw [if_neg ha, if_pos hb]
      simp
      omega
    · rw [if_neg ha, if_neg hb]
      simp
theorem nodup_flatMap_by {α β : Type} {f : α → List β} {h : β → α} (hb : ∀ x y, y ∈ f x → h y = x) (hn : ∀ x, (f x).Nodup) : ∀ {l : List α}, l.Nodup → (l.flatMap f).Nodup
  | [], _ => List.nodup_nil
  | x :: r, nd => by
    obtain ⟨n1, n2⟩ := List.nodup_cons.mp nd
    rw [List.flatMap_cons]
    refine List.nodup_append.mpr ⟨hn x, nodup_flatMap_by hb hn n2, fun a ha b hb' e => ?_⟩
    subst e
    obtain ⟨y, hy, m⟩ := List.mem_flatMap.mp hb'
    have e1 := hb x a ha
    have e2 := hb y a m
    rw [← e1, e2] at n1
    exact n1 hy
theorem bb_nodup {g : Game} {p : Pos} (hp : St g p) : (bb g p).Nodup :=
  nodup_filter (nodup_flatMap_by (h := fun q => q.bk) (fun _ _ m => bb1_bk m) (fun c => bb1_nodup hp c) (nodup_filter List.nodup_range))
theorem mem_bb {g : Game} {p q : Pos} (hf : fair g p = true) : q ∈ bb g p ↔ St g q ∧ p ∈ blacks g q := by
  obtain ⟨hp, hc⟩ := fair_iff.mp hf
  unfold bb besideN
  rw [List.mem_filter, List.mem_flatMap, stands_iff]
  constructor
  · rintro ⟨⟨c, hcm, m⟩, hq⟩
    obtain ⟨_, nc⟩ := List.mem_filter.mp hcm
    refine ⟨hq, mem_blacks.mpr ⟨p.bk, hp.bk, ?_, ?_, ?_, hc⟩⟩
    · rw [bb1_bk m, near_comm]; exact nc
    · unfold bb1 at m
      rw [List.mem_cons, List.mem_append] at m
      rcases m with rfl | m | m
      · refine pos_ext rfl rfl ?_ ?_
        · show p.a = if p.a = p.bk then g.cells else p.a
          rw [if_neg]
          intro e
          have := (hp.aa (by rw [e]; exact hp.bk)).2.1
          exact this e
        · show p.b = if p.b = p.bk then g.cells else p.b
          rw [if_neg]
          intro e
          have := (hp.bb (by rw [e]; exact hp.bk)).2
          exact this e
      · by_cases ha : p.a = g.cells
        · rw [if_pos ha, List.mem_singleton] at m
          subst m
          refine pos_ext rfl rfl ?_ ?_
          · show p.a = if p.bk = p.bk then g.cells else p.bk
            rw [if_pos rfl]; exact ha
          · show p.b = if p.b = p.bk then g.cells else p.b
            rw [if_neg]
            intro e
            have := (hp.bb (by rw [e]; exact hp.bk)).2
            exact this e
        · rw [if_neg ha] at m; cases m
      · by_cases hb : p.b = g.cells
        · rw [if_pos hb, List.mem_singleton] at m
          subst m
          refine pos_ext rfl rfl ?_ ?_
          · show p.a = if p.a = p.bk then g.cells else p.a
            rw [if_neg]
            intro e
            have := (hp.aa (by rw [e]; exact hp.bk)).2.1
            exact this e
          · show p.b = if p.bk = p.bk then g.cells else p.bk
            rw [if_pos rfl]; exact hb
        · rw [if_neg hb] at m; cases m
    · have : q.wk = p.wk := by
        unfold bb1 at m
        rw [List.mem_cons, List.mem_append] at m
        rcases m with rfl | m | m
        · rfl
        · split at m
          · rw [List.mem_singleton] at m; subst m; rfl
          · cases m
        · split at m
          · rw [List.mem_singleton] at m; subst m; rfl
          · cases m
      rw [this]
      exact fun e => hp.ne e.symm
  · rintro ⟨hq, m⟩
    obtain ⟨y, h1, h2, e, h3, _⟩ := mem_blacks.mp m
    refine ⟨⟨q.bk, List.mem_filter.mpr ⟨List.mem_range.mpr hq.bk, ?_⟩, ?_⟩, hq⟩
    · rw [near_comm]
      subst e
      exact h2
    · have ey : p.bk = y := by subst e; rfl
      have ew : p.wk = q.wk := by subst e; rfl
      have ea : p.a = if q.a = y then g.cells else q.a := by subst e; rfl
      have eb : p.b = if q.b = y then g.cells else q.b := by subst e; rfl
      unfold bb1
      rw [List.mem_cons, List.mem_append]
      by_cases ca : q.a = y
      · right; left
        rw [if_pos ca] at ea
        rw [if_pos ea, List.mem_singleton]
        have cb : q.b ≠ y := fun z => (hq.aa (by omega)).2.2 (ca.trans z.symm)
        rw [if_neg cb] at eb
        exact pos_ext ew.symm rfl (ca.trans ey.symm) eb.symm
      · rw [if_neg ca] at ea
        by_cases cb : q.b = y
        · right; right
          rw [if_pos cb] at eb
          rw [if_pos eb, List.mem_singleton]
          exact pos_ext ew.symm rfl ea.symm (cb.trans ey.symm)
        · left
          rw [if_neg cb] at eb
          exact pos_ext ew.symm rfl ea.symm eb.symm
theorem blacks_is {g : Game} {p : Pos} (hp : St g p) : ((besideN g.s p.bk).map (bmove g p)).filter (fun q => fair g q) = blacks g p := by
  unfold blacks all besideN
  show List.filter (fun q => fair g q) (List.map (bmove g p) (List.filter (fun y => near g.s p.bk y) (List.range g.cells))) = List.filter (fun q => q.bk != q.wk && !check g q) (List.map (bmove g p) (List.filter (fun y => near g.s p.bk y) (List.range g.cells)))
  refine List.filter_congr fun q hq => b_eq ?_
  obtain ⟨y, hy, rfl⟩ := List.mem_map.mp hq
  obtain ⟨h1, h2⟩ := List.mem_filter.mp hy
  rw [Bool.and_eq_true, bne_iff_ne, Bool.not_eq_true']
  constructor
  · intro h
    obtain ⟨h3, h4⟩ := fair_iff.mp h
    exact ⟨fun e => h3.ne e.symm, h4⟩
  · rintro ⟨h3, h4⟩
    exact blacks_fair hp (mem_blacks.mpr ⟨y, List.mem_range.mp h1, h2, rfl, h3, h4⟩)
end Ch
end

section
set_option Elab.async false
/- The rounds as the program goes through them, and that they tell wins and loses. Plain Lean. -/
namespace Ch
open Sn80

theorem snoc_ind {α : Type} {P : List α → Prop} (h0 : P []) (h1 : ∀ l x, P l → P (l ++ [x])) : ∀ l, P l := by
  have : ∀ l : List α, P l.reverse := by
    intro l
    induction l with
    | nil => exact h0
    | cons x r ih => rw [List.reverse_cons]; exact h1 _ _ ih
  intro l
  have := this l.reverse
  rwa [List.reverse_reverse] at this

/-! ## the mates -/
structure MS where
  F : List (Pos × Int)
  L : List (Pos × Nat)
  fd : List Pos
def stepM (g : Game) (st : MS) (p : Pos) : MS :=
  if (blacks g p).length = 0 ∧ check g p = true then ⟨put st.F p ((blacks g p).length : Int), put st.L p 0, st.fd ++ [p]⟩ else ⟨put st.F p ((blacks g p).length : Int), st.L, st.fd⟩
def mates (g : Game) (ks : List Pos) : MS := ks.foldl (stepM g) ⟨[], [], []⟩
theorem mates_snoc (g : Game) (ks : List Pos) (p : Pos) : mates g (ks ++ [p]) = stepM g (mates g ks) p := by
  unfold mates
  rw [List.foldl_append]
  rfl
theorem mate_iff {g : Game} {p : Pos} : ((blacks g p).length = 0 ∧ check g p = true) ↔ mate g p = true := by
  unfold mate
  rw [Bool.and_eq_true, List.isEmpty_iff, List.length_eq_zero_iff]
  exact ⟨fun h => ⟨h.2, h.1⟩, fun h => ⟨h.2, h.1⟩⟩
structure MatesAt (g : Game) (ks : List Pos) (st : MS) : Prop where
  f : ∀ p v, look st.F p = some v ↔ p ∈ ks ∧ v = ((blacks g p).length : Int)
  l : ∀ p v, look st.L p = some v ↔ p ∈ ks ∧ mate g p = true ∧ v = 0
  fd : ∀ p, p ∈ st.fd ↔ p ∈ ks ∧ mate g p = true
  nF : (st.F.map (·.1)).Nodup
  nL : (st.L.map (·.1)).Nodup
  nf : st.fd.Nodup
theorem mates_at (g : Game) : ∀ ks : List Pos, ks.Nodup → MatesAt g ks (mates g ks) := by
  refine snoc_ind (fun _ => ?_) fun ks p ih nd => ?_
  · exact ⟨fun p v => ⟨fun h => (by cases h), fun h => (by cases h.1)⟩, fun p v => ⟨fun h => (by cases h), fun h => (by cases h.1)⟩, fun p => ⟨fun h => (by cases h), fun h => (by cases h.1)⟩, List.nodup_nil, List.nodup_nil, List.nodup_nil⟩
  · obtain ⟨n1, n2, n3⟩ := List.nodup_append.mp nd
    have hp : p ∉ ks := fun m => n3 p m p (List.mem_singleton.mpr rfl) rfl
    have I := ih n1
    rw [mates_snoc]
    have hf : ∀ q v, look (put (mates g ks).F p ((blacks g p).length : Int)) q = some v ↔ q ∈ ks ++ [p] ∧ v = ((blacks g q).length : Int) := fun q v => by
      rw [look_put, List.mem_append, List.mem_singleton]
      by_cases e : q = p
      · subst e
        rw [if_pos rfl]
        constructor
        · intro z; cases z; exact ⟨.inr rfl, rfl⟩
        · rintro ⟨_, z⟩; rw [z]
      · rw [if_neg e, I.f]
        exact ⟨fun z => ⟨.inl z.1, z.2⟩, fun z => ⟨z.1.resolve_right e, z.2⟩⟩
    unfold stepM
    by_cases c : (blacks g p).length = 0 ∧ check g p = true
    · rw [if_pos c]
      have cm := mate_iff.mp c
      refine ⟨hf, fun q v => ?_, fun q => ?_, keys_put I.nF, keys_put I.nL, nodup_snoc I.nf fun m => hp ((I.fd p).mp m).1⟩
      · show look (put (mates g ks).L p 0) q = some v ↔ _
        rw [look_put, List.mem_append, List.mem_singleton]
        by_cases e : q = p
        · subst e
          rw [if_pos rfl]
          constructor
          · intro z; cases z; exact ⟨.inr rfl, cm, rfl⟩
          · rintro ⟨_, _, z⟩; rw [z]
        · rw [if_neg e, I.l]
          exact ⟨fun z => ⟨.inl z.1, z.2⟩, fun z => ⟨z.1.resolve_right e, z.2⟩⟩
      · show q ∈ (mates g ks).fd ++ [p] ↔ _
        rw [List.mem_append, List.mem_append, List.mem_singleton, I.fd]
        constructor
        · rintro (z | z)
          · exact ⟨.inl z.1, z.2⟩
          · subst z; exact ⟨.inr rfl, cm⟩
        · rintro ⟨z | z, y⟩
          · exact .inl ⟨z, y⟩
          · exact .inr z
    · rw [if_neg c]
      have cm : ¬ mate g p = true := fun z => c (mate_iff.mpr z)
      refine ⟨hf, fun q v => ?_, fun q => ?_, keys_put I.nF, I.nL, I.nf⟩
      · show look (mates g ks).L q = some v ↔ _
        rw [I.l, List.mem_append, List.mem_singleton]
        constructor
        · rintro ⟨z, y⟩; exact ⟨.inl z, y⟩
        · rintro ⟨z | z, y⟩
          · exact ⟨z, y⟩
          · subst z; exact absurd y.1 cm
      · show q ∈ (mates g ks).fd ↔ _
        rw [I.fd, List.mem_append, List.mem_singleton]
        constructor
        · rintro ⟨z, y⟩; exact ⟨.inl z, y⟩
        · rintro ⟨z | z, y⟩
          · exact ⟨z, y⟩
          · subst z; exact absurd y cm

/-! ## newly won -/
def stepWon (k : Nat) (st : List (Pos × Nat) × List Pos) (o : Pos) : List (Pos × Nat) × List Pos := if (look st.1 o).isSome = true then st else (put st.1 o k, st.2 ++ [o])
def wonS (W : List (Pos × Nat)) (k : Nat) (os : List Pos) : List (Pos × Nat) × List Pos := os.foldl (stepWon k) (W, [])
theorem wonS_snoc (W : List (Pos × Nat)) (k : Nat) (os : List Pos) (o : Pos) : wonS W k (os ++ [o]) = stepWon k (wonS W k os) o := by
  unfold wonS
  rw [List.foldl_append]
  rfl
structure WonAt (W : List (Pos × Nat)) (k : Nat) (os : List Pos) (st : List (Pos × Nat) × List Pos) : Prop where
  w : ∀ p v, look st.1 p = some v ↔ look W p = some v ∨ (look W p = none ∧ p ∈ os ∧ v = k)
  fd : ∀ p, p ∈ st.2 ↔ look W p = none ∧ p ∈ os
  nW : (st.1.map (·.1)).Nodup
  nf : st.2.Nodup
theorem won_at {W : List (Pos × Nat)} {k : Nat} (hW : (W.map (·.1)).Nodup) : ∀ os, WonAt W k os (wonS W k os) := by
  refine snoc_ind ?_ fun os o I => ?_
  · exact ⟨fun p v => ⟨Or.inl, fun z => z.elim id fun y => (by cases y.2.1)⟩, fun p => ⟨fun h => (by cases h), fun h => (by cases h.2)⟩, hW, List.nodup_nil⟩
  · rw [wonS_snoc]
    unfold stepWon
    have wn : look (wonS W k os).1 o = none ↔ look W o = none ∧ o ∉ os := by
      constructor
      · intro h
        have h1 : look W o = none := by
          cases e : look W o with
          | none => rfl
          | some v => rw [(I.w o v).mpr (.inl e)] at h; cases h
        refine ⟨h1, fun m => ?_⟩
        rw [(I.w o k).mpr (.inr ⟨h1, m, rfl⟩)] at h
        cases h
      · rintro ⟨h1, h2⟩
        cases e : look (wonS W k os).1 o with
        | none => rfl
        | some v =>
          rcases (I.w o v).mp e with z | z
          · rw [h1] at z; cases z
          · exact absurd z.2.1 h2
    by_cases c : (look (wonS W k os).1 o).isSome = true
    · rw [if_pos c]
      have back : ∀ p, look W p = none → (p ∈ os ++ [o] ↔ p ∈ os) := fun p hp => by
        rw [List.mem_append, List.mem_singleton]
        constructor
        · rintro (z | z)
          · exact z
          · subst z
            refine Classical.byContradiction fun y => ?_
            rw [wn.mpr ⟨hp, y⟩] at c
            cases c
        · exact Or.inl
      refine ⟨fun p v => ?_, fun p => ?_, I.nW, I.nf⟩
      · rw [I.w]
        constructor
        · rintro (z | ⟨z1, z2, z3⟩)
          · exact .inl z
          · exact .inr ⟨z1, (back p z1).mpr z2, z3⟩
        · rintro (z | ⟨z1, z2, z3⟩)
          · exact .inl z
          · exact .inr ⟨z1, (back p z1).mp z2, z3⟩
      · rw [I.fd]
        exact ⟨fun z => ⟨z.1, (back p z.1).mpr z.2⟩, fun z => ⟨z.1, (back p z.1).mp z.2⟩⟩
    · rw [if_neg c]
      have c' : look (wonS W k os).1 o = none := by
        cases e : look (wonS W k os).1 o with
        | none => rfl
        | some v => rw [e] at c; exact absurd rfl c
      obtain ⟨h1, h2⟩ := wn.mp c'
      refine ⟨fun p v => ?_, fun p => ?_, keys_put I.nW, nodup_snoc I.nf fun m => h2 ((I.fd o).mp m).2⟩
      · show look (put (wonS W k os).1 o k) p = some v ↔ _
        rw [look_put, List.mem_append, List.mem_singleton]
        by_cases e : p = o
        · subst e
          rw [if_pos rfl, h1]
          constructor
          · intro z; cases z; exact .inr ⟨rfl, .inr rfl, rfl⟩
          · rintro (z | ⟨_, _, z⟩)
            · cases z
            · rw [z]
        · rw [if_neg e, I.w]
          constructor
          · rintro (z | ⟨z1, z2, z3⟩)
            · exact .inl z
            · exact .inr ⟨z1, .inl z2, z3⟩
          · rintro (z | ⟨z1, z2, z3⟩)
            · exact .inl z
            · exact .inr ⟨z1, z2.resolve_right e, z3⟩
      · show p ∈ (wonS W k os).2 ++ [o] ↔ _
        rw [List.mem_append, List.mem_append, List.mem_singleton, I.fd]
        constructor
        · rintro (z | z)
          · exact ⟨z.1, .inl z.2⟩
          · subst z; exact ⟨h1, .inr rfl⟩
        · rintro ⟨z, y | y⟩
          · exact .inl ⟨z, y⟩
          · exact .inr y

/-! ## newly lost -/
def stepLost (k : Nat) (st : MS) (o : Pos) : MS :=
  if (look st.F o).getD 0 - 1 = 0 then ⟨put st.F o ((look st.F o).getD 0 - 1), put st.L o k, st.fd ++ [o]⟩ else ⟨put st.F o ((look st.F o).getD 0 - 1), st.L, st.fd⟩
def lostS (F : List (Pos × Int)) (L : List (Pos × Nat)) (k : Nat) (os : List Pos) : MS := os.foldl (stepLost k) ⟨F, L, []⟩
theorem lostS_snoc (F : List (Pos × Int)) (L : List (Pos × Nat)) (k : Nat) (os : List Pos) (o : Pos) : lostS F L k (os ++ [o]) = stepLost k (lostS F L k os) o := by
  unfold lostS
  rw [List.foldl_append]
  rfl
def Enough (F : List (Pos × Int)) (os : List Pos) : Prop := ∀ o, o ∈ os → ∃ n : Nat, look F o = some (n : Int) ∧ os.count o ≤ n
theorem Enough.pre {F : List (Pos × Int)} {os r : List Pos} (h : Enough F (os ++ r)) : Enough F os := fun o ho => by
  obtain ⟨n, h1, h2⟩ := h o (List.mem_append.mpr (.inl ho))
  rw [List.count_append] at h2
  exact ⟨n, h1, by omega⟩
structure LostAt (F : List (Pos × Int)) (L : List (Pos × Nat)) (k : Nat) (os : List Pos) (st : MS) : Prop where
  f : ∀ p, look st.F p = (look F p).map fun n => n - (os.count p : Int)
  fd : ∀ p, p ∈ st.fd ↔ p ∈ os ∧ look F p = some (os.count p : Int)
  l : ∀ p v, look st.L p = some v ↔ (p ∈ st.fd ∧ v = k) ∨ (p ∉ st.fd ∧ look L p = some v)
  nF : (st.F.map (·.1)).Nodup
  nL : (st.L.map (·.1)).Nodup
  nf : st.fd.Nodup
theorem lost_at {F : List (Pos × Int)} {L : List (Pos × Nat)} {k : Nat} (hF : (F.map (·.1)).Nodup) (hL : (L.map (·.1)).Nodup) : ∀ os, Enough F os → LostAt F L k os (lostS F L k os) := by
  refine snoc_ind (fun _ => ?_) fun os o ih en => ?_
  · refine ⟨fun p => ?_, fun p => ⟨fun h => (by cases h), fun h => (by cases h.1)⟩, fun p v => ?_, hF, hL, List.nodup_nil⟩
    · show look F p = _
      cases look F p with
      | none => rfl
      | some n => simp
    · show look L p = some v ↔ (p ∈ [] ∧ v = k) ∨ (p ∉ [] ∧ look L p = some v)
      simp
  · have I := ih en.pre
    rw [lostS_snoc]
    obtain ⟨n, hn, hc⟩ := en o (List.mem_append.mpr (.inr (List.mem_singleton.mpr rfl)))
    rw [List.count_append, List.count_singleton_self] at hc
    have cnt : ∀ p, (os ++ [o]).count p = os.count p + if p = o then 1 else 0 := fun p => by
      rw [List.count_append]
      by_cases e : p = o
      · subst e; rw [List.count_singleton_self, if_pos rfl]
      · rw [if_neg e, List.count_eq_zero_of_not_mem (fun m => e (List.mem_singleton.mp m))]
    have ho : look (lostS F L k os).F o = some ((n : Int) - (os.count o : Int)) := by rw [I.f, hn]; rfl
    have hF1 : ∀ p, look (put (lostS F L k os).F o ((look (lostS F L k os).F o).getD 0 - 1)) p = (look F p).map fun n => n - ((os ++ [o]).count p : Int) := fun p => by
      rw [look_put, cnt]
      by_cases e : p = o
      · subst e
        rw [if_pos rfl, if_pos rfl, ho, hn]
        show some ((n : Int) - (os.count p : Int) - 1) = some ((n : Int) - ((os.count p + 1 : Nat) : Int))
        congr 1
        omega
      · rw [if_neg e, if_neg e, I.f]
        rfl
    have ofd : o ∉ (lostS F L k os).fd := fun m => by
      have := ((I.fd o).mp m).2
      rw [hn] at this
      have := Option.some.inj this
      omega
    unfold stepLost
    by_cases c : (look (lostS F L k os).F o).getD 0 - 1 = 0
    · rw [if_pos c]
      have c' : (n : Int) = os.count o + 1 := by
        rw [ho] at c
        have : (n : Int) - (os.count o : Int) - 1 = 0 := c
        omega
      have hfd : ∀ p, p ∈ (lostS F L k os).fd ++ [o] ↔ p ∈ os ++ [o] ∧ look F p = some ((os ++ [o]).count p : Int) := fun p => by
        rw [List.mem_append, List.mem_append, List.mem_singleton, I.fd, cnt]
        by_cases e : p = o
        · subst e
          rw [if_pos rfl, hn]
          constructor
          · intro _
            refine ⟨.inr rfl, ?_⟩
            congr 1
          · intro _
            exact .inr rfl
        · rw [if_neg e]
          constructor
          · rintro (z | z)
            · exact ⟨.inl z.1, z.2⟩
            · exact absurd z e
          · rintro ⟨z | z, y⟩
            · exact .inl ⟨z, y⟩
            · exact absurd z e
      refine ⟨hF1, hfd, fun p v => ?_, keys_put I.nF, keys_put I.nL, nodup_snoc I.nf ofd⟩
      show look (put (lostS F L k os).L o k) p = some v ↔ (p ∈ (lostS F L k os).fd ++ [o] ∧ v = k) ∨ (p ∉ (lostS F L k os).fd ++ [o] ∧ look L p = some v)
      rw [look_put, List.mem_append, List.mem_singleton]
      by_cases e : p = o
      · subst e
        rw [if_pos rfl]
        constructor
        · intro z; cases z; exact .inl ⟨.inr rfl, rfl⟩
        · rintro (z | z)
          · rw [z.2]
          · exact absurd (Or.inr rfl) z.1
      · rw [if_neg e, I.l]
        constructor
        · rintro (z | z)
          · exact .inl ⟨.inl z.1, z.2⟩
          · exact .inr ⟨fun y => y.elim z.1 e, z.2⟩
        · rintro (z | z)
          · exact .inl ⟨z.1.resolve_right e, z.2⟩
          · exact .inr ⟨fun y => z.1 (.inl y), z.2⟩
    · rw [if_neg c]
      have c' : (n : Int) ≠ os.count o + 1 := fun q => by
        rw [ho] at c
        have : ¬ (n : Int) - (os.count o : Int) - 1 = 0 := c
        omega
      have hfd : ∀ p, p ∈ (lostS F L k os).fd ↔ p ∈ os ++ [o] ∧ look F p = some ((os ++ [o]).count p : Int) := fun p => by
        rw [List.mem_append, List.mem_singleton, cnt]
        by_cases e : p = o
        · subst e
          rw [if_pos rfl, hn]
          constructor
          · intro z; exact absurd z ofd
          · rintro ⟨_, z⟩
            have := Option.some.inj z
            exact absurd this (by simpa using c')
        · rw [if_neg e, I.fd]
          exact ⟨fun z => ⟨.inl z.1, z.2⟩, fun z => ⟨z.1.resolve_right e, z.2⟩⟩
      exact ⟨hF1, hfd, I.l, keys_put I.nF, I.nL, I.nf⟩

/-! ## counting -/
theorem count_flatMap {f : Pos → List Pos} (hf : ∀ x, (f x).Nodup) (o : Pos) : ∀ l : List Pos, (l.flatMap f).count o = l.countP fun x => decide (o ∈ f x)
  | [] => rfl
  | x :: r => by
    rw [List.flatMap_cons, List.count_append, count_flatMap hf o r, List.countP_cons]
    by_cases h : o ∈ f x
    · rw [List.Nodup.count (hf x)]
      simp [h]
      omega
    · rw [List.count_eq_zero_of_not_mem h]
      simp [h]
theorem countP_swap {l m : List Pos} (hl : l.Nodup) (hm : m.Nodup) : (l.countP fun x => decide (x ∈ m)) = m.countP fun x => decide (x ∈ l) := by
  rw [List.countP_eq_length_filter, List.countP_eq_length_filter]
  refine List.Perm.length_eq ((List.perm_ext_iff_of_nodup (nodup_filter hl) (nodup_filter hm)).mpr fun x => ?_)
  simp only [List.mem_filter, decide_eq_true_eq]
  exact ⟨fun z => ⟨z.2, z.1⟩, fun z => ⟨z.2, z.1⟩⟩
theorem countP_add {l : List Pos} {a b c : Pos → Bool} (h : ∀ x, x ∈ l → (a x = true ↔ b x = true ∨ c x = true) ∧ ¬ (b x = true ∧ c x = true)) : l.countP a = l.countP b + l.countP c := by
  induction l with
  | nil => rfl
  | cons x r ih =>
    rw [List.countP_cons, List.countP_cons, List.countP_cons, ih fun y hy => h y (List.mem_cons_of_mem _ hy)]
    obtain ⟨h1, h2⟩ := h x List.mem_cons_self
    by_cases hb : b x = true
    · have hc : ¬ c x = true := fun z => h2 ⟨hb, z⟩
      rw [if_pos (h1.mpr (.inl hb)), if_pos hb, if_neg hc]
      omega
    · by_cases hc : c x = true
      · rw [if_pos (h1.mpr (.inr hc)), if_neg hb, if_pos hc]
        omega
      · rw [if_neg (fun z => (h1.mp z).elim hb hc), if_neg hb, if_neg hc]
        omega

/-! ## the rounds -/
structure RS where
  W : List (Pos × Nat)
  L : List (Pos × Nat)
  F : List (Pos × Int)
  lost : List Pos
def roundS (g : Game) (k : Nat) (r : RS) : RS :=
  ⟨(wonS r.W k (r.lost.flatMap (bw g))).1, (lostS r.F r.L k ((wonS r.W k (r.lost.flatMap (bw g))).2.flatMap (bb g))).L, (lostS r.F r.L k ((wonS r.W k (r.lost.flatMap (bw g))).2.flatMap (bb g))).F, (lostS r.F r.L k ((wonS r.W k (r.lost.flatMap (bw g))).2.flatMap (bb g))).fd⟩
def keysM (g : Game) : List Pos := (checksM g).map (·.1)
def start (g : Game) : RS := ⟨[], (mates g (keysM g)).L, (mates g (keysM g)).F, (mates g (keysM g)).fd⟩
def roundsM (g : Game) : Nat → RS
  | 0 => start g
  | k + 1 => roundS g (k + 1) (roundsM g k)
structure Good (g : Game) (k : Nat) (r : RS) : Prop where
  w : ∀ p v, look r.W p = some v ↔ fair g p = true ∧ Wins g p v ∧ v ≤ k
  l : ∀ p v, look r.L p = some v ↔ St g p ∧ Loses g p v ∧ v ≤ k
  f : ∀ p v, look r.F p = some v ↔ St g p ∧ v = (((blacks g p).countP fun q => !wins g k q : Nat) : Int)
  lost : ∀ p, p ∈ r.lost ↔ St g p ∧ Loses g p k
  nd : r.lost.Nodup
  nW : (r.W.map (·.1)).Nodup
  nL : (r.L.map (·.1)).Nodup
  nF : (r.F.map (·.1)).Nodup
theorem mem_keysM {g : Game} (F : Fits g) {p : Pos} : p ∈ keysM g ↔ St g p := by
  unfold keysM
  constructor
  · intro m
    obtain ⟨⟨q, v⟩, hq, rfl⟩ := List.mem_map.mp m
    exact ((checks_look F).mp (look_of_mem (Chk_all F).nd hq)).1
  · intro h
    exact List.mem_map.mpr ⟨(p, check g p), look_some_mem ((checks_look F).mpr ⟨h, rfl⟩), rfl⟩
theorem Good_start {g : Game} (F : Fits g) : Good g 0 (start g) := by
  have M := mates_at g (keysM g) (Chk_all F).nd
  refine ⟨fun p v => ?_, fun p v => ?_, fun p v => ?_, fun p => ?_, M.nf, List.nodup_nil, M.nL, M.nF⟩
  · constructor
    · intro h; cases h
    · rintro ⟨_, w, h⟩
      have : v = 0 := Nat.le_zero.mp h
      subst this
      exact absurd w no_Wins_zero
  · show look (mates g (keysM g)).L p = some v ↔ _
    rw [M.l, mem_keysM F]
    constructor
    · rintro ⟨h1, h2, h3⟩
      subst h3
      exact ⟨h1, Loses_zero.mpr h2, Nat.le_refl _⟩
    · rintro ⟨h1, h2, h3⟩
      have : v = 0 := Nat.le_zero.mp h3
      subst this
      exact ⟨h1, Loses_zero.mp h2, rfl⟩
  · show look (mates g (keysM g)).F p = some v ↔ _
    rw [M.f, mem_keysM F]
    have : (blacks g p).countP (fun q => !wins g 0 q) = (blacks g p).length := by
      rw [List.countP_eq_length]
      intro q _
      rw [wins_zero]
      rfl
    rw [this]
  · show p ∈ (mates g (keysM g)).fd ↔ _
    rw [M.fd, mem_keysM F, Loses_zero]
section
variable {g : Game} {k : Nat} {r : RS}
theorem Good.wnone (G : Good g k r) {p : Pos} (hp : fair g p = true) : look r.W p = none ↔ wins g k p = false := by
  constructor
  · intro h
    cases e : wins g k p with
    | false => rfl
    | true =>
      obtain ⟨j, hj, w⟩ := wins_exact.mp e
      rw [(G.w p j).mpr ⟨hp, w, hj⟩] at h
      cases h
  · intro h
    cases e : look r.W p with
    | none => rfl
    | some v =>
      obtain ⟨_, w, hv⟩ := (G.w p v).mp e
      rw [wins_exact.mpr ⟨v, hv, w⟩] at h
      cases h
def wonOf (g : Game) (k : Nat) (r : RS) : List (Pos × Nat) × List Pos := wonS r.W (k + 1) (r.lost.flatMap (bw g))
theorem Good.os (F : Fits g) (G : Good g k r) {p : Pos} : p ∈ r.lost.flatMap (bw g) ↔ fair g p = true ∧ ∃ q, q ∈ whites g p ∧ Loses g q k := by
  rw [List.mem_flatMap]
  constructor
  · rintro ⟨q, hq, m⟩
    obtain ⟨h1, h2⟩ := (G.lost q).mp hq
    obtain ⟨h3, h4⟩ := (mem_bw F h1).mp m
    exact ⟨h3, q, h4, h2⟩
  · rintro ⟨h1, q, h2, h3⟩
    have hq := whites_stand (fair_iff.mp h1).1 h2
    exact ⟨q, (G.lost q).mpr ⟨hq, h3⟩, (mem_bw F hq).mpr ⟨h1, h2⟩⟩
theorem Good.won (F : Fits g) (G : Good g k r) {p : Pos} : p ∈ (wonOf g k r).2 ↔ fair g p = true ∧ Wins g p (k + 1) := by
  have A := won_at (k := k + 1) G.nW (r.lost.flatMap (bw g))
  unfold wonOf
  rw [A.fd, G.os F, Wins_move]
  constructor
  · rintro ⟨h1, h2, h3⟩
    exact ⟨h2, h3, (G.wnone h2).mp h1⟩
  · rintro ⟨h2, h3, h1⟩
    exact ⟨(G.wnone h2).mpr h1, h2, h3⟩
theorem Good.won_nd (G : Good g k r) : (wonOf g k r).2.Nodup := (won_at (k := k + 1) G.nW (r.lost.flatMap (bw g))).nf
theorem Good.bb_nd (F : Fits g) (G : Good g k r) {p : Pos} (h : p ∈ (wonOf g k r).2) : (bb g p).Nodup := bb_nodup (fair_iff.mp ((G.won F).mp h).1).1
/-- how often a position comes back from those newly won -/
theorem Good.count (F : Fits g) (G : Good g k r) {o : Pos} (ho : St g o) : ((wonOf g k r).2.flatMap (bb g)).count o = (blacks g o).countP fun q => decide (q ∈ (wonOf g k r).2) := by
  have e1 : ((wonOf g k r).2.flatMap (bb g)).count o = (wonOf g k r).2.countP fun x => decide (o ∈ bb g x) := by
    have : ∀ l : List Pos, (∀ x, x ∈ l → (bb g x).Nodup) → (l.flatMap (bb g)).count o = l.countP fun x => decide (o ∈ bb g x) := by
      intro l
      induction l with
      | nil => intro _; rfl
      | cons x t ih =>
        intro hl
        rw [List.flatMap_cons, List.count_append, ih fun y hy => hl y (List.mem_cons_of_mem _ hy), List.countP_cons]
        by_cases h : o ∈ bb g x
        · rw [List.Nodup.count (hl x List.mem_cons_self)]
          simp [h]
          omega
        · rw [List.count_eq_zero_of_not_mem h]
          simp [h]
    exact this _ fun x hx => G.bb_nd F hx
  rw [e1, ← countP_swap G.won_nd blacks_nodup]
  refine List.countP_congr fun x hx => ?_
  have fx := ((G.won F).mp hx).1
  simp only [decide_eq_true_eq]
  rw [mem_bb fx]
  exact ⟨fun z => z.2, fun z => ⟨ho, z⟩⟩
theorem Good.os2 (F : Fits g) (G : Good g k r) {o : Pos} : o ∈ (wonOf g k r).2.flatMap (bb g) ↔ St g o ∧ ∃ q, q ∈ blacks g o ∧ Wins g q (k + 1) := by
  rw [List.mem_flatMap]
  constructor
  · rintro ⟨q, hq, m⟩
    obtain ⟨h1, h2⟩ := (G.won F).mp hq
    obtain ⟨h3, h4⟩ := (mem_bb h1).mp m
    exact ⟨h3, q, h4, h2⟩
  · rintro ⟨h1, q, h2, h3⟩
    have fq := blacks_fair h1 h2
    exact ⟨q, (G.won F).mpr ⟨fq, h3⟩, (mem_bb fq).mpr ⟨h1, h2⟩⟩
theorem Good.split (F : Fits g) (G : Good g k r) {o : Pos} (ho : St g o) : ((blacks g o).countP fun q => !wins g k q) = ((blacks g o).countP fun q => decide (q ∈ (wonOf g k r).2)) + (blacks g o).countP fun q => !wins g (k + 1) q := by
  refine countP_add fun q hq => ?_
  have fq := blacks_fair ho hq
  rw [decide_eq_true_eq, G.won F, Wins_succ, Bool.not_eq_true', Bool.not_eq_true']
  constructor
  · constructor
    · intro h
      cases e : wins g (k + 1) q with
      | true => exact .inl ⟨fq, rfl, h⟩
      | false => exact .inr rfl
    · rintro (⟨_, _, h⟩ | h)
      · exact h
      · cases e : wins g k q with
        | false => rfl
        | true => rw [wins_mono (Nat.le_succ k) e] at h; cases h
  · rintro ⟨⟨_, h1, _⟩, h2⟩
    rw [h1] at h2; cases h2
theorem Good.enough (F : Fits g) (G : Good g k r) : Enough r.F ((wonOf g k r).2.flatMap (bb g)) := fun o ho => by
  have so := ((G.os2 F).mp ho).1
  refine ⟨_, (G.f o _).mpr ⟨so, rfl⟩, ?_⟩
  rw [G.count F so, G.split F so]
  omega
def lostOf (g : Game) (k : Nat) (r : RS) : MS := lostS r.F r.L (k + 1) ((wonOf g k r).2.flatMap (bb g))
theorem Good.fd (F : Fits g) (G : Good g k r) {p : Pos} : p ∈ (lostOf g k r).fd ↔ St g p ∧ Loses g p (k + 1) := by
  have A := lost_at (k := k + 1) G.nF G.nL _ (G.enough F)
  unfold lostOf
  rw [A.fd, G.os2 F, Loses_move]
  constructor
  · rintro ⟨⟨h1, h2⟩, h3⟩
    refine ⟨h1, h2, fun q hq => ?_⟩
    have e := ((G.f p _).mp h3).2
    rw [G.count F h1, G.split F h1] at e
    have z : ((blacks g p).countP fun q => !wins g (k + 1) q) = 0 := by omega
    rw [List.countP_eq_zero] at z
    have := z q hq
    simpa using this
  · rintro ⟨h1, h2, h3⟩
    refine ⟨⟨h1, h2⟩, (G.f p _).mpr ⟨h1, ?_⟩⟩
    have z : ((blacks g p).countP fun q => !wins g (k + 1) q) = 0 := by
      rw [List.countP_eq_zero]
      intro q hq
      rw [h3 q hq]
      simp
    rw [G.count F h1, G.split F h1, z, Nat.add_zero]
theorem Good.step (F : Fits g) (G : Good g k r) : Good g (k + 1) (roundS g (k + 1) r) := by
  have A := won_at (k := k + 1) G.nW (r.lost.flatMap (bw g))
  have B := lost_at (k := k + 1) G.nF G.nL _ (G.enough F)
  refine ⟨fun p v => ?_, fun p v => ?_, fun p v => ?_, fun p => G.fd F, B.nf, A.nW, B.nL, B.nF⟩
  · show look (wonS r.W (k + 1) (r.lost.flatMap (bw g))).1 p = some v ↔ _
    rw [A.w, ← and_assoc, ← A.fd, show p ∈ (wonS r.W (k + 1) (r.lost.flatMap (bw g))).2 ↔ _ from G.won F, G.w]
    constructor
    · rintro (⟨h1, h2, h3⟩ | ⟨⟨h1, h2⟩, h3⟩)
      · exact ⟨h1, h2, Nat.le_succ_of_le h3⟩
      · subst h3; exact ⟨h1, h2, Nat.le_refl _⟩
    · rintro ⟨h1, h2, h3⟩
      by_cases e : v = k + 1
      · subst e; exact .inr ⟨⟨h1, h2⟩, rfl⟩
      · exact .inl ⟨h1, h2, by omega⟩
  · show look (lostOf g k r).L p = some v ↔ _
    rw [show (look (lostOf g k r).L p = some v ↔ _) from B.l p v]
    show (p ∈ (lostOf g k r).fd ∧ v = k + 1) ∨ (p ∉ (lostOf g k r).fd ∧ look r.L p = some v) ↔ _
    rw [G.fd F, G.l]
    constructor
    · rintro (⟨⟨h1, h2⟩, h3⟩ | ⟨_, h1, h2, h3⟩)
      · subst h3; exact ⟨h1, h2, Nat.le_refl _⟩
      · exact ⟨h1, h2, Nat.le_succ_of_le h3⟩
    · rintro ⟨h1, h2, h3⟩
      by_cases e : v = k + 1
      · subst e; exact .inl ⟨⟨h1, h2⟩, rfl⟩
      · refine .inr ⟨fun z => e (Loses_unique h2 z.2), h1, h2, by omega⟩
  · show look (lostOf g k r).F p = some v ↔ _
    rw [show look (lostOf g k r).F p = _ from B.f p]
    constructor
    · intro h
      obtain ⟨n, hn, e⟩ := Option.map_eq_some_iff.mp h
      obtain ⟨h1, h2⟩ := (G.f p n).mp hn
      refine ⟨h1, ?_⟩
      rw [G.count F h1] at e
      rw [G.split F h1] at h2
      omega
    · rintro ⟨h1, h2⟩
      rw [(G.f p _).mpr ⟨h1, rfl⟩, Option.map_some, h2, G.count F h1, G.split F h1]
      congr 1
      omega
end
theorem good {g : Game} (F : Fits g) : ∀ k, Good g k (roundsM g k)
  | 0 => Good_start F
  | k + 1 => (good F k).step F
theorem Good.lost_cap {g : Game} {k : Nat} {r : RS} (F : Fits g) (G : Good g k r) : r.lost.length ≤ 20000 := cap F G.nd fun p hp => ((G.lost p).mp hp).1
theorem Good.won_cap {g : Game} {k : Nat} {r : RS} (F : Fits g) (G : Good g k r) : (wonOf g k r).2.length ≤ 20000 := cap F G.won_nd fun p hp => (fair_iff.mp ((G.won F).mp hp).1).1
/-- within a round, behind any part of the way: the tables' lengths -/
theorem Good.won_pre {g : Game} {k : Nat} {r : RS} (F : Fits g) (G : Good g k r) {pre rest : List Pos} (h : r.lost.flatMap (bw g) = pre ++ rest) : (wonS r.W (k + 1) pre).1.length ≤ 20000 ∧ (wonS r.W (k + 1) pre).2.length ≤ 20000 := by
  have A := won_at (k := k + 1) G.nW pre
  have inn : ∀ p, p ∈ pre → St g p := fun p hp => by
    have : p ∈ r.lost.flatMap (bw g) := by rw [h]; exact List.mem_append.mpr (.inl hp)
    exact (fair_iff.mp ((G.os F).mp this).1).1
  refine ⟨cap_keys F A.nW fun p v e => ?_, cap F A.nf fun p hp => inn p ((A.fd p).mp hp).2⟩
  rcases (A.w p v).mp e with z | z
  · exact (fair_iff.mp ((G.w p v).mp z).1).1
  · exact inn p z.2.1
theorem Good.lost_pre {g : Game} {k : Nat} {r : RS} (F : Fits g) (G : Good g k r) {pre rest : List Pos} (h : (wonOf g k r).2.flatMap (bb g) = pre ++ rest) :
    (lostS r.F r.L (k + 1) pre).F.length ≤ 20000 ∧ (lostS r.F r.L (k + 1) pre).L.length ≤ 20000 ∧ (lostS r.F r.L (k + 1) pre).fd.length ≤ 20000 ∧ ∀ o, o ∈ rest → ∃ v, look (lostS r.F r.L (k + 1) pre).F o = some v := by
  have en := G.enough F
  have A := lost_at (k := k + 1) G.nF G.nL pre (by rw [h] at en; exact en.pre)
  have inn : ∀ p, p ∈ pre ++ rest → St g p := fun p hp => by
    rw [← h] at hp
    exact ((G.os2 F).mp hp).1
  refine ⟨cap_keys F A.nF fun p v e => ?_, cap_keys F A.nL fun p v e => ?_, cap F A.nf fun p hp => inn p (List.mem_append.mpr (.inl ((A.fd p).mp hp).1)), fun o ho => ?_⟩
  · rw [A.f] at e
    obtain ⟨n, hn, _⟩ := Option.map_eq_some_iff.mp e
    exact ((G.f p n).mp hn).1
  · rcases (A.l p v).mp e with z | z
    · exact inn p (List.mem_append.mpr (.inl ((A.fd p).mp z.1).1))
    · exact ((G.l p v).mp z.2).1
  · have so := inn o (List.mem_append.mpr (.inr ho))
    have e := A.f o
    rw [(G.f o _).mpr ⟨so, rfl⟩] at e
    exact ⟨_, e⟩
theorem mates_pre {g : Game} (F : Fits g) {pre rest : List Pos} (h : keysM g = pre ++ rest) : (mates g pre).F.length ≤ 20000 ∧ (mates g pre).L.length ≤ 20000 ∧ (mates g pre).fd.length ≤ 20000 := by
  have nd : (keysM g).Nodup := (Chk_all F).nd
  rw [h] at nd
  have A := mates_at g pre (List.nodup_append.mp nd).1
  have inn : ∀ p, p ∈ pre → St g p := fun p hp => (mem_keysM F).mp (by rw [h]; exact List.mem_append.mpr (.inl hp))
  exact ⟨cap_keys F A.nF fun p v e => inn p ((A.f p v).mp e).1, cap_keys F A.nL fun p v e => inn p ((A.l p v).mp e).1, cap F A.nf fun p hp => inn p ((A.fd p).mp hp).1⟩
/-! ## the end -/
theorem ends {g : Game} (F : Fits g) : ∃ K, (roundsM g K).lost = [] ∧ ∀ j, j < K → (roundsM g j).lost ≠ [] := by
  have some_ : ∃ K, (roundsM g K).lost = [] := by
    refine Classical.byContradiction fun no => ?_
    have all : ∀ n, ∃ l : List Pos, l.Nodup ∧ l.length = n ∧ (∀ p, p ∈ l → St g p ∧ ∃ j, j < n ∧ Loses g p j) := by
      intro n
      induction n with
      | zero => exact ⟨[], List.nodup_nil, rfl, fun p hp => (by cases hp)⟩
      | succ n ih =>
        obtain ⟨l, h1, h2, h3⟩ := ih
        obtain ⟨x, t, e⟩ := List.exists_cons_of_ne_nil fun z => no ⟨n, z⟩
        obtain ⟨s, lx⟩ := ((good F n).lost x).mp (by rw [e]; exact List.mem_cons_self)
        refine ⟨x :: l, List.nodup_cons.mpr ⟨fun m => ?_, h1⟩, by rw [List.length_cons, h2], fun p hp => ?_⟩
        · obtain ⟨_, j, hj, lj⟩ := h3 x m
          have := Loses_unique lx lj
          omega
        · rcases List.mem_cons.mp hp with rfl | hp
          · exact ⟨s, n, Nat.lt_succ_self n, lx⟩
          · obtain ⟨h4, j, hj, lj⟩ := h3 p hp
            exact ⟨h4, j, by omega, lj⟩
    obtain ⟨l, h1, h2, h3⟩ := all 20001
    have := cap F h1 fun p hp => (h3 p hp).1
    omega
  obtain ⟨K, hK⟩ := some_
  induction K using Nat.strongRecOn with
  | ind K ih =>
    by_cases c : ∃ j, j < K ∧ (roundsM g j).lost = []
    · obtain ⟨j, hj, e⟩ := c
      exact ih j hj e
    · exact ⟨K, hK, fun j hj e => c ⟨j, hj, e⟩⟩
/-- the game as it stands in the end -/
structure Done (g : Game) (r : RS) : Prop where
  w : ∀ p v, look r.W p = some v ↔ fair g p = true ∧ Wins g p v
  l : ∀ p v, look r.L p = some v ↔ St g p ∧ Loses g p v
  nW : (r.W.map (·.1)).Nodup
  nL : (r.L.map (·.1)).Nodup
theorem done {g : Game} {k : Nat} {r : RS} (G : Good g k r) (h : r.lost = []) : Done g r := by
  have A := none_after (g := g) (k := k) fun q hq l => by
    have := (G.lost q).mpr ⟨hq, l⟩
    rw [h] at this; cases this
  refine ⟨fun p v => ?_, fun p v => ?_, G.nW, G.nL⟩
  · rw [G.w]
    constructor
    · rintro ⟨h1, h2, _⟩; exact ⟨h1, h2⟩
    · rintro ⟨h1, h2⟩
      refine ⟨h1, h2, ?_⟩
      by_cases c : v ≤ k
      · exact c
      · have e : v = k + (v - k - 1) + 1 := by omega
        rw [e] at h2
        exact absurd h2 ((A _).2 p (fair_iff.mp h1).1)
  · rw [G.l]
    constructor
    · rintro ⟨h1, h2, _⟩; exact ⟨h1, h2⟩
    · rintro ⟨h1, h2⟩
      refine ⟨h1, h2, ?_⟩
      by_cases c : v ≤ k
      · exact c
      · have e : v = k + (v - k) := by omega
        rw [e] at h2
        exact absurd h2 ((A _).1 p h1)
theorem Done.w_cap {g : Game} {r : RS} (F : Fits g) (D : Done g r) : r.W.length ≤ 20000 := cap_keys F D.nW fun p v e => (fair_iff.mp ((D.w p v).mp e).1).1
end Ch
end

section
set_option Elab.async false
/- What is answered, call by call, and the list of calls. Plain Lean. -/
namespace Ch
open Sn80

section
variable {g : Game} {r : RS}
theorem Done.winsOf (D : Done g r) {p : Pos} (hp : fair g p = true) : Sn80.winsOf g (tableOf g) p = (look r.W p).getD 0 := by
  cases e : look r.W p with
  | some v =>
    have w := ((D.w p v).mp e).2
    have hv : v ≠ 0 := fun z => by subst z; exact no_Wins_zero w
    exact (winsOf_iff hp hv).mpr w
  | none =>
    refine Classical.byContradiction fun z => ?_
    have z : Sn80.winsOf g (tableOf g) p ≠ 0 := z
    have w := (winsOf_iff hp z).mp rfl
    rw [(D.w p _).mpr ⟨hp, w⟩] at e
    cases e
theorem Done.losesOf (D : Done g r) {p : Pos} (hp : St g p) : Sn80.losesOf g (tableOf g) p = look r.L p := by
  cases e : look r.L p with
  | some v => exact (losesOf_iff hp).mpr ((D.l p v).mp e).2
  | none =>
    cases q : Sn80.losesOf g (tableOf g) p with
    | none => rfl
    | some v =>
      have := (losesOf_iff hp).mp q
      rw [(D.l p v).mpr ⟨hp, this⟩] at e
      cases e
theorem Done.longest (D : Done g r) {m : Int} (h1 : m ∈ r.W.map (fun e => (e.2 : Int)) ++ [0]) (h2 : ∀ y, y ∈ r.W.map (fun e => (e.2 : Int)) ++ [0] → y ≤ m) : m = ((longestOf (tableOf g) : Nat) : Int) := by
  obtain ⟨l1, l2⟩ := longest_is g
  generalize longestOf (tableOf g) = M at l1 l2
  have a : m ≤ (M : Int) := by
    rcases List.mem_append.mp h1 with z | z
    · obtain ⟨⟨p, v⟩, hv, rfl⟩ := List.mem_map.mp z
      obtain ⟨hf, w⟩ := (D.w p v).mp (look_of_mem D.nW hv)
      have := l1 p v hf w
      show ((v : Nat) : Int) ≤ (M : Int)
      omega
    · rw [List.mem_singleton] at z
      omega
  have b : (M : Int) ≤ m := by
    rcases l2 with z | ⟨p, hf, w⟩
    · subst z
      exact h2 _ (List.mem_append.mpr (.inr (List.mem_singleton.mpr rfl)))
    · exact h2 _ (List.mem_append.mpr (.inl (List.mem_map.mpr ⟨(p, M), look_some_mem ((D.w p M).mpr ⟨hf, w⟩), rfl⟩)))
  omega
/-- is this the move that's sought? -/
def isBest (r : RS) (k : Nat) (m : Nat × Nat × Pos) : Bool := decide (look r.L m.2.2 = some (k - 1))
theorem Done.best (D : Done g r) {p : Pos} {k : Nat} (hp : fair g p = true) (h : look r.W p = some k) : ∃ m, (wm g p).find? (isBest r k) = some m ∧ bestOf g (tableOf g) p = some m.2.2 ∧ moved p m.2.2 = [m.1, m.2.1] := by
  have sp := (fair_iff.mp hp).1
  have w := ((D.w p k).mp h).2
  have hw : Sn80.winsOf g (tableOf g) p = k := by rw [D.winsOf hp, h]; rfl
  have same : ∀ q, q ∈ whites g p → ((match Sn80.losesOf g (tableOf g) q with
    | some j => decide (j < Sn80.winsOf g (tableOf g) p)
    | none => false) = decide (look r.L q = some (k - 1))) := fun q hq => by
    have sq := whites_stand sp hq
    rw [D.losesOf sq, hw]
    cases e : look r.L q with
    | none => simp
    | some j =>
      refine b_eq ?_
      show decide (j < k) = true ↔ decide (some j = some (k - 1)) = true
      rw [decide_eq_true_eq, decide_eq_true_eq, Option.some.injEq]
      have lj := ((D.l q j).mp e).2
      constructor
      · intro hj
        refine Classical.byContradiction fun z => ?_
        have c : Sn80.wins g (j + 1) p = true := wins_succ_iff.mpr ⟨q, hq, lj.1⟩
        have := w.2 (j + 1) (by omega)
        rw [c] at this; cases this
      · intro hj
        have hk : k ≠ 0 := fun z => by subst z; exact no_Wins_zero w
        omega
  have e1 : bestOf g (tableOf g) p = (whites g p).find? fun q => decide (look r.L q = some (k - 1)) := by
    unfold bestOf
    have fc : ∀ (l : List Pos) (f h : Pos → Bool), (∀ x, x ∈ l → f x = h x) → l.find? f = l.find? h := by
      intro l f h
      induction l with
      | nil => intro _; rfl
      | cons x t ih =>
        intro hx
        rw [List.find?_cons, List.find?_cons, hx x List.mem_cons_self, ih fun y hy => hx y (List.mem_cons_of_mem _ hy)]
    exact fc _ _ _ same
  have e2 : (whites g p).find? (fun q => decide (look r.L q = some (k - 1))) = ((wm g p).find? (isBest r k)).map fun m => m.2.2 := by
    rw [← wm_whites sp, List.find?_map]
    rfl
  have ex : ∃ m, (wm g p).find? (isBest r k) = some m := by
    cases e : (wm g p).find? (isBest r k) with
    | some m => exact ⟨m, rfl⟩
    | none =>
      exfalso
      have hk : k = (k - 1) + 1 := by
        have : k ≠ 0 := fun z => by subst z; exact no_Wins_zero w
        omega
      rw [hk] at w
      obtain ⟨⟨q, hq, l⟩, _⟩ := Wins_move.mp w
      have sq := whites_stand sp hq
      rw [← wm_whites sp] at hq
      obtain ⟨m, hm, rfl⟩ := List.mem_map.mp hq
      have := List.find?_eq_none.mp e m hm
      unfold isBest at this
      rw [(D.l _ _).mpr ⟨sq, l⟩] at this
      simp at this
  obtain ⟨m, hm⟩ := ex
  refine ⟨m, hm, ?_, wm_moved (List.mem_of_find?_eq_some hm)⟩
  rw [e1, e2, hm]
  rfl
theorem Done.nobest (D : Done g r) {p : Pos} (hp : fair g p = true) (h : look r.W p = none) : bestOf g (tableOf g) p = none := by
  have hw : Sn80.winsOf g (tableOf g) p = 0 := by rw [D.winsOf hp, h]; rfl
  unfold bestOf
  rw [hw]
  refine List.find?_eq_none.mpr fun q _ => ?_
  cases Sn80.losesOf g (tableOf g) q with
  | none => simp
  | some j => simp
end

/-! ## positions asked about -/
def posI (wk bk a b : Int) : Option Pos := if 0 ≤ wk ∧ 0 ≤ bk ∧ 0 ≤ a ∧ 0 ≤ b then some ⟨wk.toNat, bk.toNat, a.toNat, b.toNat⟩ else none
theorem told_some {g : Game} {wk bk a b : Int} {p : Pos} (h1 : posI wk bk a b = some p) (h2 : stands g p = true) : told g wk bk a b = some p := by
  unfold posI at h1
  split at h1
  · rename_i c
    have e := Option.some.inj h1
    subst e
    unfold told
    rw [if_pos ⟨c.1, c.2.1, c.2.2.1, c.2.2.2, h2⟩]
  · cases h1
theorem told_none {g : Game} {wk bk a b : Int} (h : ∀ p, posI wk bk a b = some p → stands g p = false) : told g wk bk a b = none := by
  unfold told
  rw [if_neg]
  rintro ⟨c1, c2, c3, c4, c5⟩
  have := h ⟨wk.toNat, bk.toNat, a.toNat, b.toNat⟩ (by unfold posI; rw [if_pos ⟨c1, c2, c3, c4⟩])
  rw [c5] at this
  cases this

/-! ## the list of calls -/
theorem shape_some {p : Int} {n k : Nat} (h : PySn80.shape p = some (n, k)) : k = 0 ∧ ((p = 0 ∧ n = 3) ∨ ((p = 1 ∨ p = 2 ∨ p = 3) ∧ n = 4)) := by
  unfold PySn80.shape at h
  split at h
  · cases h; exact ⟨rfl, .inl ⟨by assumption, rfl⟩⟩
  · split at h
    · cases h; exact ⟨rfl, .inr ⟨.inl (by assumption), rfl⟩⟩
    · split at h
      · cases h; exact ⟨rfl, .inr ⟨.inr (.inl (by assumption)), rfl⟩⟩
      · split at h
        · cases h; exact ⟨rfl, .inr ⟨.inr (.inr (by assumption)), rfl⟩⟩
        · cases h
theorem calls_cons {f : Nat} {p : Int} {r : List Int} {raw : List (List (List Int))} (h : PyFlat.calls PySn80.shape f (p :: r) = some raw) :
    ∃ n f' raw', ((p = 0 ∧ n = 3) ∨ ((p = 1 ∨ p = 2 ∨ p = 3) ∧ n = 4)) ∧ n ≤ r.length ∧ PyFlat.calls PySn80.shape f' (r.drop n) = some raw' ∧ raw = [p :: r.take n] :: raw' := by
  cases f with
  | zero => cases h
  | succ f =>
    unfold PyFlat.calls at h
    split at h
    · cases h
    · rename_i c t hc
      split at h
      · cases h
      · rename_i cs hcs
        cases h
        simp only [PyFlat.call] at hc
        split at hc
        · cases hc
        · rename_i n k hs
          obtain ⟨rfl, hn⟩ := shape_some hs
          split at hc
          · cases hc
          · rename_i hl
            simp only [PyFlat.rows] at hc
            cases hc
            exact ⟨n, f, cs, hn, by omega, hcs, rfl⟩
theorem whole_one {p : Int} {xs : List Int} (h : (p = 0 ∧ xs.length = 3) ∨ ((p = 1 ∨ p = 2 ∨ p = 3) ∧ xs.length = 4)) : PySn80.whole [p :: xs] = [p :: xs] := by
  rcases h with ⟨rfl, h⟩ | ⟨rfl | rfl | rfl, h⟩
  · match xs, h with
    | [_, _, _], _ => rfl
  · match xs, h with
    | [_, _, _, _], _ => rfl
  · match xs, h with
    | [_, _, _, _], _ => rfl
  · match xs, h with
    | [_, _, _, _], _ => rfl

/-- what's asked of the calls to come, from a state on -/
structure Ok (s : Sn80.St) (cs : List (List (List Int))) : Prop where
  each : ∀ c, c ∈ cs → Sn80Neutral.asked1 c = true
  open_ : s ≠ none ∨ cs = [] ∨ ∃ c r, cs = c :: r ∧ Sn80Neutral.build c = true ∧ (Sn80Neutral.builds c = true ∨ r = [])
/-- behind i numbers of the list and some calls -/
structure Told (l : List Int) (i : Nat) (out : List Int) (s : Sn80.St) : Prop where
  ex : ∃ f raw, PyFlat.calls PySn80.shape f (l.drop i) = some raw ∧ PySn80.answers l = out ++ PyFlat.told (PyFlat.played Sn80Neutral.step s (raw.map PySn80.whole)) ∧ Ok s (raw.map PySn80.whole)
theorem told_start {l : List Int} (h : PySn80.answers_asked l = true) : Told l 0 [] none := by
  unfold PySn80.answers_asked at h
  split at h
  · cases h
  · rename_i raw hr
    simp only [Bool.and_eq_true] at h
    obtain ⟨⟨⟨⟨h1, h2⟩, h3⟩, h4⟩, h5⟩ := h
    unfold Sn80Neutral.asked at h4
    simp only [Bool.and_eq_true] at h4
    obtain ⟨k1, k2, k3, k4⟩ := h4
    refine ⟨l.length, raw, hr, ?_, fun c hc => List.all_eq_true.mp k1 c hc, ?_⟩
    · unfold PySn80.answers PySn80.calls
      rw [hr]
      rfl
    · right
      cases e : raw.map PySn80.whole with
      | nil => exact .inl rfl
      | cons c r =>
        right
        rw [e] at k4
        simp only [Bool.and_eq_true, Bool.or_eq_true, List.isEmpty_iff] at k4
        exact ⟨c, r, rfl, k4.1, k4.2⟩
theorem told_end {l : List Int} {i : Nat} {out : List Int} {s : Sn80.St} (T : Told l i out s) (h : l.length ≤ i) : PySn80.answers l = out := by
  obtain ⟨f, raw, h1, h2, _⟩ := T.ex
  rw [List.drop_eq_nil_of_le h] at h1
  have : raw = [] := by
    cases f with
    | zero => unfold PyFlat.calls at h1; exact (Option.some.inj h1).symm
    | succ f => unfold PyFlat.calls at h1; exact (Option.some.inj h1).symm
  subst this
  rw [h2]
  show out ++ [] = out
  rw [List.append_nil]
theorem step_some {s : Sn80.St} {c : List (List Int)} (h : s ≠ none) : (Sn80Neutral.step s c).1 ≠ none := by
  obtain ⟨⟨g, t⟩, rfl⟩ := Option.ne_none_iff_exists'.mp h
  unfold Sn80Neutral.step
  split
  · exact h
  · rename_i x _
    show (Sn80.does (some (g, t)) x).1 ≠ none
    cases x with
    | build s a b =>
      unfold Sn80.does
      simp only
      split <;> simp
    | wins wk bk a b => simp [Sn80.does]
    | loses wk bk a b => simp [Sn80.does]
    | best wk bk a b => simp [Sn80.does]
theorem build_zero {p : Int} {xs : List Int} (h : Sn80Neutral.build [p :: xs] = true) : p = 0 := by
  unfold Sn80Neutral.build at h
  split at h
  · rename_i e
    cases e
    rfl
  · cases h
theorem builds_step {s : Sn80.St} {c : List (List Int)} (h : Sn80Neutral.builds c = true) : (Sn80Neutral.step s c).1 ≠ none := by
  unfold Sn80Neutral.builds at h
  split at h
  · rename_i x y z
    obtain ⟨gg, hg⟩ := Option.isSome_iff_exists.mp h
    show (Sn80.does s (.build x y z)).1 ≠ none
    unfold Sn80.does
    simp only [hg]
    simp
  · cases h
theorem told_turn {l : List Int} {i : Nat} {out : List Int} {s : Sn80.St} (T : Told l i out s) (h : i < l.length) :
    ∃ p n, l[i]? = some p ∧ ((p = 0 ∧ n = 3) ∨ ((p = 1 ∨ p = 2 ∨ p = 3) ∧ n = 4)) ∧ i + 1 + n ≤ l.length ∧ ((l.drop (i + 1)).take n).length = n ∧ (p ≠ 0 → s ≠ none) ∧ Sn80Neutral.asked1 [p :: (l.drop (i + 1)).take n] = true ∧
      Told l (i + 1 + n) (out ++ (((Sn80Neutral.step s [p :: (l.drop (i + 1)).take n]).2.length : Int) :: (Sn80Neutral.step s [p :: (l.drop (i + 1)).take n]).2)) (Sn80Neutral.step s [p :: (l.drop (i + 1)).take n]).1 := by
  obtain ⟨f, raw, h1, h2, h3⟩ := T.ex
  have e0 : l.drop i = l[i] :: l.drop (i + 1) := List.drop_eq_getElem_cons h
  rw [e0] at h1
  obtain ⟨n, f', raw', hn, hl, hr, rfl⟩ := calls_cons h1
  rw [List.length_drop] at hl
  have hlen : ((l.drop (i + 1)).take n).length = n := by
    rw [List.length_take, List.length_drop]
    omega
  have hw : PySn80.whole [l[i] :: (l.drop (i + 1)).take n] = [l[i] :: (l.drop (i + 1)).take n] := whole_one (by rw [hlen]; exact hn)
  rw [List.map_cons, hw] at h2 h3
  have sn : l[i] ≠ 0 → s ≠ none := fun z => by
    rcases h3.open_ with y | y | ⟨c, r, e, b1, b2⟩
    · exact y
    · cases y
    · rw [← (List.cons.inj e).1] at b1
      exact absurd (build_zero b1) z
  refine ⟨l[i], n, List.getElem?_eq_getElem h, hn, by omega, hlen, sn, h3.each _ List.mem_cons_self, f', raw', ?_, ?_, fun c hc => h3.each c (List.mem_cons_of_mem _ hc), ?_⟩
  · rw [List.drop_drop] at hr
    exact hr
  · rw [h2, List.append_assoc]
    rfl
  · rcases h3.open_ with y | y | ⟨c, r, e, b1, b2⟩
    · exact .inl (step_some y)
    · cases y
    · obtain ⟨e1, e2⟩ := List.cons.inj e
      rcases b2 with b2 | b2
      · left
        rw [← e1] at b2
        exact builds_step b2
      · right; left
        rw [e2]
        exact b2
/-- a game that's built fits -/
theorem built_fits {x y z : Int} {g : Game} (h : Sn80.game x y z = some g) (ha : Sn80Neutral.asked1 [[0, x, y, z]] = true) : Fits g := by
  have hno : ¬ (Sn80.game x y z).isNone = true := by
    rw [h]
    simp
  have h' := h
  unfold Sn80.game at h'
  split at h'
  · rename_i c
    have e := Option.some.inj h'
    subst e
    unfold between at c
    simp only [Bool.and_eq_true, decide_eq_true_eq] at c
    obtain ⟨⟨c1, c2⟩, ⟨c3, c4⟩, c5, c6⟩ := c
    unfold Sn80Neutral.asked1 at ha
    simp only [Bool.and_eq_true, Bool.or_eq_true, decide_eq_true_eq, beq_iff_eq] at ha
    obtain ⟨_, _, _, ha⟩ := ha
    have hs : x = 3 ∨ ((x = 4 ∨ x = 5) ∧ z = 0) := by
      rcases ha with q | (q | q) | q
      · left; omega
      · omega
      · by_cases x3 : x = 3
        · exact .inl x3
        · exact .inr ⟨by omega, q.2⟩
      · exact absurd q hno
    refine ⟨?_, ?_, ?_, ?_, ?_⟩
    · show x.toNat ∈ sizes
      unfold sizes
      rcases hs with rfl | ⟨rfl | rfl, _⟩ <;> decide
    · show 1 ≤ y.toNat
      omega
    · show y.toNat ≤ 4
      omega
    · show z.toNat ≤ 4
      omega
    · show x.toNat = 3 ∨ z.toNat = 0
      omega
  · cases h'
end Ch
end

section
set_option Elab.async false
/- Small plain facts that the walk asks for. -/
namespace Ch
open Sn80

/-- where the four stand -/
def posL (p : Pos) : List Int := [(p.wk : Int), (p.bk : Int), (p.a : Int), (p.b : Int)]
theorem beside_mem {s x y : Nat} (hy : y < s * s) : decide ((y : Int) ∈ (besideN s x).map Int.ofNat) = near s x y := by
  refine b_eq ?_
  rw [decide_eq_true_eq]
  constructor
  · intro m
    obtain ⟨z, hz, e⟩ := List.mem_map.mp m
    have : z = y := Int.ofNat.inj e
    subst this
    exact (List.mem_filter.mp hz).2
  · intro h
    exact List.mem_map.mpr ⟨y, List.mem_filter.mpr ⟨List.mem_range.mpr hy, h⟩, rfl⟩
def standL (g : Game) (p : Pos) : List Int := (posL p).filter fun z => !decide (z = (g.cells : Int))
theorem standL_len (g : Game) (p : Pos) : (standL g p).length ≤ 4 := List.length_filter_le _ _
/-- the kings stand apart, and what stands on the board stands on cells of its own -/
theorem stands_by {g : Game} {p : Pos} (h : In g p) (hb : g.b = 0 → p.b = g.cells) (hn : p.wk ≠ p.bk) (hr : near g.s p.wk p.bk = false) : stands g p = decide ((standL g p).Nodup) := by
  refine b_eq ?_
  rw [stands_iff, decide_eq_true_eq]
  have h1 := h.wk
  have h2 := h.bk
  have h3 := h.a
  have h4 := h.b
  have c1 : ¬ (p.wk : Int) = (g.cells : Int) := by omega
  have c2 : ¬ (p.bk : Int) = (g.cells : Int) := by omega
  unfold standL posL
  by_cases ca : p.a = g.cells
  · by_cases cb : p.b = g.cells
    · simp only [List.filter_cons, List.filter_nil, c1, c2, ca, cb, decide_false, decide_true, Bool.not_true, Bool.not_false, if_true]
      constructor
      · intro _
        simp
        omega
      · intro _
        exact ⟨h1, h2, hn, hr, h3, h4, fun z => by omega, fun z => by omega, hb⟩
    · have cb' : ¬ (p.b : Int) = (g.cells : Int) := by omega
      simp only [List.filter_cons, List.filter_nil, c1, c2, ca, cb', decide_false, decide_true, Bool.not_true, Bool.not_false, if_true]
      constructor
      · intro q
        have := q.bb (by omega)
        simp
        omega
      · intro q
        simp at q
        exact ⟨h1, h2, hn, hr, h3, h4, fun z => by omega, fun z => by omega, hb⟩
  · have ca' : ¬ (p.a : Int) = (g.cells : Int) := by omega
    by_cases cb : p.b = g.cells
    · simp only [List.filter_cons, List.filter_nil, c1, c2, ca', cb, decide_false, decide_true, Bool.not_true, Bool.not_false, if_true]
      constructor
      · intro q
        have := q.aa (by omega)
        simp
        omega
      · intro q
        simp at q
        exact ⟨h1, h2, hn, hr, h3, h4, fun z => by omega, fun z => by omega, hb⟩
    · have cb' : ¬ (p.b : Int) = (g.cells : Int) := by omega
      simp only [List.filter_cons, List.filter_nil, c1, c2, ca', cb', decide_false, Bool.not_false, if_true]
      constructor
      · intro q
        have a1 := q.aa (by omega)
        have a2 := q.bb (by omega)
        simp
        omega
      · intro q
        simp at q
        exact ⟨h1, h2, hn, hr, h3, h4, fun z => by omega, fun z => by omega, hb⟩
/-- the cells aimed at, over the whole position -/
theorem check_by {g : Game} (F : Fits g) {p : Pos} (hp : St g p) :
    check g p = (((p.a : Nat) < g.cells && decide ((p.bk : Int) ∈ aimedL g.s g.a p.a fun z => decide (z ∈ posL p))) || (decide (g.b ≠ 0) && ((p.b : Nat) < g.cells && decide ((p.bk : Int) ∈ aimedL g.s g.b p.b fun z => decide (z ∈ posL p))))) := by
  have hbk := hp.bk
  have st : ∀ z : Nat, z ≠ p.bk → (decide ((z : Int) ∈ posL p) = true ↔ z ∈ [p.wk, p.a, p.b]) := fun z hz => by
    rw [decide_eq_true_eq]
    unfold posL
    simp only [List.mem_cons, List.not_mem_nil, or_false]
    omega
  unfold check aimed
  rw [hp.nn, Bool.false_or]
  unfold on
  have hA : (decide (p.a < g.cells) && (p.a != p.bk && aims g.a g.s [p.wk, p.a, p.b] p.a p.bk)) = (decide (p.a < g.cells) && decide ((p.bk : Int) ∈ aimedL g.s g.a p.a fun z => decide (z ∈ posL p))) := by
    by_cases c : p.a < g.cells
    · rw [decide_eq_true c, Bool.true_and, Bool.true_and]
      have ne := (hp.aa c).2.1
      have : (p.a != p.bk) = true := by simpa using ne
      rw [this, Bool.true_and]
      refine b_eq ?_
      rw [decide_eq_true_eq]
      exact (aimed_iff F.s (kinds_of F.a1 F.a4) c hbk fun z _ _ hz => st z hz).symm
    · rw [decide_eq_false c, Bool.false_and, Bool.false_and]
  have hB : (decide (p.b < g.cells) && (p.b != p.bk && aims g.b g.s [p.wk, p.a, p.b] p.b p.bk)) = (decide (g.b ≠ 0) && (decide (p.b < g.cells) && decide ((p.bk : Int) ∈ aimedL g.s g.b p.b fun z => decide (z ∈ posL p)))) := by
    by_cases c : p.b < g.cells
    · have nb : g.b ≠ 0 := fun e => by
        have := hp.no e
        omega
      rw [decide_eq_true c, Bool.true_and, Bool.true_and, decide_eq_true nb, Bool.true_and]
      have ne := (hp.bb c).2
      have : (p.b != p.bk) = true := by simpa using ne
      rw [this, Bool.true_and]
      refine b_eq ?_
      rw [decide_eq_true_eq]
      exact (aimed_iff F.s (kinds_of (by omega) F.b4) c hbk fun z _ _ hz => st z hz).symm
    · rw [decide_eq_false c, Bool.false_and, Bool.false_and, Bool.and_false]
  rw [hA, hB]
end Ch
end

section
set_option Elab.async false
/- The answers to the three questions. Plain Lean. -/
namespace Ch
open Sn80

def winsA (g : Game) (x y z w : Int) : Int := match told g x y z w with
  | none => -3
  | some p => if check g p = true then -3 else ((winsOf g (tableOf g) p : Nat) : Int)
def losesA (g : Game) (x y z w : Int) : Int := match told g x y z w with
  | none => -3
  | some p => match losesOf g (tableOf g) p with
    | some k => ((k : Nat) : Int)
    | none => -4
def bestA (g : Game) (x y z w : Int) : List Int := match told g x y z w with
  | none => [-3]
  | some p => if check g p = true then [-3] else match bestOf g (tableOf g) p with
    | some q => ((winsOf g (tableOf g) p : Nat) : Int) :: Sn80Neutral.ints (moved p q)
    | none => [0]
theorem step_wins (g : Game) (x y z w : Int) : Sn80Neutral.step (some (g, tableOf g)) [[1, x, y, z, w]] = (some (g, tableOf g), [winsA g x y z w]) := by
  unfold winsA
  show ((Sn80.does (some (g, tableOf g)) (.wins x y z w)).1, (Sn80.does (some (g, tableOf g)) (.wins x y z w)).2.value :: Sn80Neutral.ints (Sn80.does (some (g, tableOf g)) (.wins x y z w)).2.out) = _
  simp only [Sn80.does]
  cases told g x y z w with
  | none => rfl
  | some p =>
    simp only
    split <;> rfl
theorem step_loses (g : Game) (x y z w : Int) : Sn80Neutral.step (some (g, tableOf g)) [[2, x, y, z, w]] = (some (g, tableOf g), [losesA g x y z w]) := by
  unfold losesA
  show ((Sn80.does (some (g, tableOf g)) (.loses x y z w)).1, (Sn80.does (some (g, tableOf g)) (.loses x y z w)).2.value :: Sn80Neutral.ints (Sn80.does (some (g, tableOf g)) (.loses x y z w)).2.out) = _
  simp only [Sn80.does]
  cases told g x y z w with
  | none => rfl
  | some p =>
    simp only
    cases losesOf g (tableOf g) p <;> rfl
theorem step_best (g : Game) (x y z w : Int) : Sn80Neutral.step (some (g, tableOf g)) [[3, x, y, z, w]] = (some (g, tableOf g), bestA g x y z w) := by
  unfold bestA
  show ((Sn80.does (some (g, tableOf g)) (.best x y z w)).1, (Sn80.does (some (g, tableOf g)) (.best x y z w)).2.value :: Sn80Neutral.ints (Sn80.does (some (g, tableOf g)) (.best x y z w)).2.out) = _
  simp only [Sn80.does]
  cases told g x y z w with
  | none => rfl
  | some p =>
    simp only
    split
    · rfl
    · cases bestOf g (tableOf g) p <;> rfl
theorem step_build (s : Sn80.St) (x y z : Int) : Sn80Neutral.step s [[0, x, y, z]] = match Sn80.game x y z with
    | none => (s, [-2])
    | some g => (some (g, tableOf g), [((longestOf (tableOf g) : Nat) : Int)]) := by
  show ((Sn80.does s (.build x y z)).1, (Sn80.does s (.build x y z)).2.value :: Sn80Neutral.ints (Sn80.does s (.build x y z)).2.out) = _
  cases s with
  | none =>
    simp only [Sn80.does]
    cases Sn80.game x y z <;> rfl
  | some t =>
    obtain ⟨g0, t0⟩ := t
    simp only [Sn80.does]
    cases Sn80.game x y z <;> rfl
section
variable {g : Game} {r : RS}
theorem told_by (g : Game) (x y z w : Int) : told g x y z w = match posI x y z w with
    | some p => if stands g p = true then some p else none
    | none => none := by
  cases e : posI x y z w with
  | none => exact told_none fun p hp => by rw [e] at hp; cases hp
  | some p =>
    show _ = if stands g p = true then some p else none
    by_cases c : stands g p = true
    · rw [if_pos c]
      exact told_some e c
    · rw [if_neg c]
      refine told_none fun q hq => ?_
      rw [e] at hq
      cases hq
      cases d : stands g p with
      | false => rfl
      | true => exact absurd d c
theorem winsA_eq (D : Done g r) (x y z w : Int) : winsA g x y z w = match posI x y z w with
    | some p => if fair g p = true then (((look r.W p).getD 0 : Nat) : Int) else -3
    | none => -3 := by
  unfold winsA
  rw [told_by]
  cases posI x y z w with
  | none => rfl
  | some p =>
    simp only
    by_cases c : stands g p = true
    · rw [if_pos c]
      simp only
      by_cases d : check g p = true
      · have nf : ¬ fair g p = true := fun q => by
          have := (fair_iff.mp q).2
          rw [d] at this; cases this
        rw [if_pos d, if_neg nf]
      · have d' : check g p = false := by
          cases q : check g p with
          | false => rfl
          | true => exact absurd q d
        have f : fair g p = true := fair_iff.mpr ⟨stands_iff.mp c, d'⟩
        rw [if_neg d, if_pos f, D.winsOf f]
    · have nf : ¬ fair g p = true := fun q => c (stands_iff.mpr (fair_iff.mp q).1)
      rw [if_neg c, if_neg nf]
theorem losesA_eq (D : Done g r) (x y z w : Int) : losesA g x y z w = match posI x y z w with
    | some p => if stands g p = true then (match look r.L p with | some v => ((v : Nat) : Int) | none => -4) else -3
    | none => -3 := by
  unfold losesA
  rw [told_by]
  cases posI x y z w with
  | none => rfl
  | some p =>
    simp only
    by_cases c : stands g p = true
    · rw [if_pos c, if_pos c]
      simp only
      rw [D.losesOf (stands_iff.mp c)]
      done
    · rw [if_neg c, if_neg c]
theorem bestA_cases (D : Done g r) (x y z w : Int) : (winsA g x y z w ≤ 0 ∧ bestA g x y z w = [winsA g x y z w]) ∨
    ∃ p k m, posI x y z w = some p ∧ fair g p = true ∧ look r.W p = some k ∧ 0 < k ∧ winsA g x y z w = (k : Int) ∧ (wm g p).find? (isBest r k) = some m ∧ bestA g x y z w = [(k : Int), (m.1 : Int), (m.2.1 : Int)] := by
  have e := winsA_eq D x y z w
  have t := told_by g x y z w
  unfold bestA
  cases hp : posI x y z w with
  | none =>
    rw [hp] at e t
    simp only at e t
    left
    rw [t, e]
    exact ⟨by decide, rfl⟩
  | some p =>
    rw [hp] at e t
    simp only at e t
    by_cases f : fair g p = true
    · obtain ⟨sp, ck⟩ := fair_iff.mp f
      rw [if_pos f] at e
      rw [if_pos (stands_iff.mpr sp)] at t
      rw [t]
      simp only
      rw [ck, if_neg (by decide)]
      cases hw : look r.W p with
      | none =>
        left
        rw [hw] at e
        rw [D.nobest f hw, e]
        exact ⟨Int.le_refl 0, rfl⟩
      | some k =>
        right
        rw [hw] at e
        have hk : k ≠ 0 := fun z => by
          subst z
          exact no_Wins_zero ((D.w p 0).mp hw).2
        obtain ⟨m, m1, m2, m3⟩ := D.best f hw
        refine ⟨p, k, m, rfl, f, hw, by omega, e, m1, ?_⟩
        rw [m2]
        simp only
        rw [D.winsOf f, hw, m3]
        rfl
    · left
      rw [if_neg f] at e
      rw [e]
      refine ⟨by decide, ?_⟩
      rw [t]
      by_cases c : stands g p = true
      · rw [if_pos c]
        simp only
        have ck : check g p = true := by
          cases q : check g p with
          | true => rfl
          | false => exact absurd (fair_iff.mpr ⟨stands_iff.mp c, q⟩) f
        rw [if_pos ck]
      · rw [if_neg c]
end
theorem find_first {α : Type} {f : α → Bool} : ∀ {l : List α} {i : Nat} {x : α}, l[i]? = some x → f x = true → (∀ (j : Nat) (y : α), j < i → l[j]? = some y → f y = false) → l.find? f = some x
  | [], i, x, h, _, _ => by cases h
  | a :: r, 0, x, h, hx, _ => by
    have e : a = x := by simpa using h
    subst e
    rw [List.find?_cons, hx]
  | a :: r, i + 1, x, h, hx, hb => by
    rw [List.find?_cons, hb 0 a (by omega) rfl]
    exact find_first (l := r) (i := i) (by simpa using h) hx fun j y hj hy => hb (j + 1) y (by omega) (by simpa using hy)
theorem find_nothing {α : Type} {f : α → Bool} {l : List α} (h : ∀ (j : Nat) (y : α), l[j]? = some y → f y = false) : l.find? f = none := by
  rw [List.find?_eq_none]
  intro x hx
  obtain ⟨j, hj⟩ := List.mem_iff_getElem?.mp hx
  rw [h j x hj]
  decide
end Ch
end

section
set_option Elab.async false
set_option maxRecDepth 100000
set_option maxHeartbeats 4000000
/- The walk: words of this proof; boards. -/
namespace Cw
open PySem PySem.Spec PyProof.Rows L2 Ch
open PySem.W (Codec)

/-! ## the text -/
def topS (i : Nat) : Stmt := PySem.Challenge.pw_chessends_s01_answers.main.body.getD i (.Pass ⟨0, 0, 0, 0⟩)

/-! ## heaps -/
theorem Same.sqt {K : PySem.W.Frag} {H H' : Hp} {a : Addr} {xs : List V} (e : Same H H') (h : SqT K H a xs) : SqT K H' a xs := by
  rcases h with (h | ⟨o, h⟩) | h
  · exact .inl (.inl (e _ _ h))
  · exact .inl (.inr ⟨o, e _ _ h⟩)
  · exact .inr h
theorem Same.upd {H : Hp} {p : Addr} {o : HO} (h : H p = none) : Same H (upd H p o) := fun b u e => by
  rw [upd_ne (ne_of_none e h)]
  exact e
theorem Same.upd2 {H H' : Hp} {p : Addr} {o : HO} (s : Same H H') (h : H p = none) : Same H (L2.upd H' p o) := fun b u e => by
  rw [upd_ne (ne_of_none e h)]
  exact s b u e
theorem line_lt {n : Nat} (h : n ≤ 1000000) : n < sizeLine := by rw [sizeLine_eq]; omega
theorem line_le {n : Nat} (h : n ≤ 1000000) : n ≤ sizeLine := by rw [sizeLine_eq]; omega

theorem take_more {α : Type} {l : List α} {i : Nat} {x : α} (h : l[i]? = some x) : l.take (i + 1) = l.take i ++ [x] := by
  rw [List.take_add_one, h]
  rfl
theorem take_pos {α : Type} (f : α → Bool) {l : List α} {i : Nat} {x : α} (h : l[i]? = some x) (c : f x = true) : (l.take (i + 1)).filter f = (l.take i).filter f ++ [x] := by
  rw [take_more h, List.filter_append, List.filter_cons_of_pos c, List.filter_nil]
theorem take_neg {α : Type} (f : α → Bool) {l : List α} {i : Nat} {x : α} (h : l[i]? = some x) (c : ¬ f x = true) : (l.take (i + 1)).filter f = (l.take i).filter f := by
  rw [take_more h, List.filter_append, List.filter_cons_of_neg c, List.filter_nil, List.append_nil]
theorem filter_len {α : Type} (f : α → Bool) (l : List α) (i : Nat) : ((l.take i).filter f).length ≤ l.length :=
  Nat.le_trans (List.length_filter_le _ _) (by rw [List.length_take]; omega)
theorem get_map {α β : Type} {f : α → β} {l : List α} {i : Nat} {y : β} (h : (l.map f)[i]? = some y) : ∃ x, l[i]? = some x ∧ y = f x := by
  rw [List.getElem?_map] at h
  obtain ⟨x, hx, e⟩ := Option.map_eq_some_iff.mp h
  exact ⟨x, hx, e.symm⟩
theorem get_len {α β : Type} {l : List α} {m : List β} (e : l.length = m.length) {i : Nat} {x : α} (h : l[i]? = some x) : ∃ y, m[i]? = some y := by
  have := (List.getElem?_eq_some_iff.mp h).1
  exact ⟨m[i]'(by omega), List.getElem?_eq_getElem _⟩

/-! ## steps -/
/-- at p stands a tuple of steps -/
structure StepsAt (K : PySem.W.Frag) (H : Hp) (p : Addr) (ds : List (Int × Int)) : Prop where
  ex : ∃ as : List Addr, SqT K H p (as.map V.ref) ∧ as.length = ds.length ∧ ∀ (i : Nat) (d : Int × Int), ds[i]? = some d → ∃ b, as[i]? = some b ∧ SqT K H b [.int d.1, .int d.2]
theorem StepsAt.same {K : PySem.W.Frag} {H H' : Hp} {p : Addr} {ds : List (Int × Int)} (h : StepsAt K H p ds) (s : Same H H') : StepsAt K H' p ds := by
  obtain ⟨as, h1, h2, h3⟩ := h.ex
  refine ⟨as, Same.sqt s h1, h2, fun i d e => ?_⟩
  obtain ⟨b, e1, e2⟩ := h3 i d e
  exact ⟨b, e1, Same.sqt s e2⟩

/-- at q stands a list of lists of cells, each a list of its own -/
structure LinesR (H : Hp) (q : Addr) (rs : List Addr) (Ls : List (List Int)) : Prop where
  top : H q = some (.lst (rs.map V.ref))
  len : rs.length = Ls.length
  each : ∀ (i : Nat) (L : List Int), Ls[i]? = some L → ∃ r, rs[i]? = some r ∧ H r = some (.lst (L.map V.int)) ∧ r ≠ q
def LinesAt (H : Hp) (q : Addr) (Ls : List (List Int)) : Prop := ∃ rs, LinesR H q rs Ls
theorem LinesAt.nil {H : Hp} {q : Addr} (h : H q = some (.lst [])) : LinesAt H q [] := ⟨[], h, rfl, fun i L e => by cases e⟩
theorem LinesAt.same {H H' : Hp} {q : Addr} {Ls : List (List Int)} (h : LinesAt H q Ls) (s : Same H H') : LinesAt H' q Ls := by
  obtain ⟨rs, h1, h2, h3⟩ := h
  refine ⟨rs, s _ _ h1, h2, fun i L e => ?_⟩
  obtain ⟨r, e1, e2, e3⟩ := h3 i L e
  exact ⟨r, e1, s _ _ e2, e3⟩
theorem get_snoc {α : Type} {l : List α} {x y : α} {i : Nat} (h : (l ++ [x])[i]? = some y) : l[i]? = some y ∨ (i = l.length ∧ y = x) := by
  by_cases c : i < l.length
  · rw [List.getElem?_append_left c] at h
    exact .inl h
  · rw [List.getElem?_append_right (by omega)] at h
    by_cases e : i - l.length = 0
    · rw [e] at h
      exact .inr ⟨by omega, (Option.some.inj h).symm⟩
    · rw [List.getElem?_eq_none (by simp; omega)] at h
      cases h
theorem LinesR.snoc {H : Hp} {q r : Addr} {rs : List Addr} {Ls : List (List Int)} {L : List Int} (h : LinesR H q rs Ls) (hr : H r = some (.lst (L.map V.int))) (ne : r ≠ q) : LinesAt (upd H q (.lst (rs.map V.ref ++ [V.ref r]))) q (Ls ++ [L]) := by
  refine ⟨rs ++ [r], ?_, ?_, fun i M e => ?_⟩
  · rw [upd_same, List.map_append]
    rfl
  · rw [List.length_append, List.length_append, h.len]
    rfl
  · rcases get_snoc e with z | ⟨z1, z2⟩
    · obtain ⟨t, e1, e2, e3⟩ := h.each i M z
      exact ⟨t, by rw [List.getElem?_append_left ((List.getElem?_eq_some_iff.mp e1).1)]; exact e1, by rw [upd_ne e3]; exact e2, e3⟩
    · subst z1 z2
      exact ⟨r, by rw [← h.len, List.getElem?_append_right (Nat.le_refl _), Nat.sub_self]; rfl, by rw [upd_ne ne]; exact hr, ne⟩

def spStep (K : PySem.W.Frag) : Sp := fun vs H Q _ => ∃ (s c : Int) (p : Addr) (d : Int × Int), vs = [.int s, .int c, .ref p] ∧ 0 < s ∧ s < 1000 ∧ SqT K H p [.int d.1, .int d.2] ∧ Q (.int (stepFrom s c d)) H

section
variable {P : Program} {w : World} {K : PySem.W.Frag} {mg : Str → Option Value} {base : Heap}
abbrev sStep : Stmt := topS 10
theorem scStep : FnScope ["s", "cell", "step", "row", "column"] ["s", "cell", "step"] (defScope sStep) := ⟨rfl, rfl, rfl, by decide +kernel, rfl, by decide +kernel, by decide +kernel⟩
theorem ok_step {f : Addr} {fd : FuncData} (F : Fun K "step_from" "step_from" sStep f fd) : FnOk P w K mg base CX0 1 f fd ["s", "cell", "step"] (spStep K) := by
  refine F.ok scStep (fun vs H Q E h => ?_) (fun cdv A outer s0 H vs Q E hr h => ⟨_, pss_cons (ps_set (i := 3) scStep.nd rfl (Or.inl rfl) (pe_op op_add (pe_op op_fdiv (pv 1) (pv 0)) (pe_ix ix_tup (pv 2) pe_int (fun _ _ => rfl))))
    (pss_cons (ps_set (i := 4) scStep.nd rfl (Or.inl rfl) (pe_op op_add (pe_op op_mod (pv 1) (pv 0)) (pe_ix ix_tup (pv 2) pe_int (fun _ _ => rfl))))
    (pss_cons (ps_if (pw_and (pt_chain op_le op_lt pe_int (pv 3) (pv 0)) (pw_and1 (pt_chain op_le op_lt pe_int (pv 4) (pv 0)))).pt
      (pss_one (ps_ret (pe_op op_add (pe_op op_mul (pv 3) (pv 0)) (pv 4)))) pss_nil)
    (pss_one (ps_ret (pe_un un_neg pe_int))))), ?_⟩)
  · obtain ⟨s, c, p, d, rfl, _⟩ := h
    rfl
  · obtain ⟨s, c, p, d, rfl, h0, h1, ht, q⟩ := h
    refine ⟨_, rfl, _, rfl, _, _, rfl, rfl, ⟨h0, by omega⟩, _, rfl, p, _, 0, _, rfl, rfl, ht, rfl, _, _, rfl, rfl, ?_⟩
    refine ⟨_, rfl, _, rfl, _, _, rfl, rfl, h0, _, rfl, p, _, 1, _, rfl, rfl, ht, rfl, _, _, rfl, rfl, ?_⟩
    have neg : ¬ (0 ≤ c / s + d.1 ∧ c / s + d.1 < s ∧ 0 ≤ c % s + d.2 ∧ c % s + d.2 < s) → Q (.int (-1)) H := fun z => by
      unfold stepFrom at q
      rw [if_neg z] at q
      exact q
    refine ⟨_, rfl, _, _, rfl, rfl, _, rfl, ite2 (fun c1 => ?_) (fun c1 => ?_)⟩
    · refine ⟨_, rfl, _, _, rfl, rfl, _, rfl, ite2 (fun c2 => ?_) (fun c2 => ?_)⟩
      · refine ⟨_, rfl, _, _, rfl, rfl, _, rfl, ite2 (fun c3 => ?_) (fun c3 => ?_)⟩
        · refine ⟨_, rfl, _, _, rfl, rfl, _, rfl, ite2 (fun c4 => ?_) (fun c4 => ?_)⟩
          · have e1 : 0 ≤ c / s + d.1 := of_decide_eq_true c1
            have e2 : c / s + d.1 < s := of_decide_eq_true c2
            have e3 : 0 ≤ c % s + d.2 := of_decide_eq_true c3
            have e4 : c % s + d.2 < s := of_decide_eq_true c4
            refine ⟨_, rfl, _, rfl, _, _, rfl, rfl, .inl ⟨by omega, by omega⟩, _, rfl, _, _, rfl, rfl, ?_⟩
            unfold stepFrom at q
            rw [if_pos ⟨e1, e2, e3, e4⟩] at q
            exact q
          · exact ⟨_, rfl, neg fun z => c4 (decide_eq_true z.2.2.2)⟩
        · exact ⟨_, rfl, ⟨_, rfl, neg fun z => c3 (decide_eq_true z.2.2.1)⟩⟩
      · exact ⟨_, rfl, neg fun z => c2 (decide_eq_true z.2.1)⟩
    · exact ⟨_, rfl, ⟨_, rfl, neg fun z => c1 (decide_eq_true z.1)⟩⟩

def spSteps (K : PySem.W.Frag) : Sp := fun vs H Q _ => ∃ (s c : Int) (p : Addr) (ds : List (Int × Int)), vs = [.int s, .int c, .ref p] ∧ 0 < s ∧ s < 1000 ∧ StepsAt K H p ds ∧ ds.length ≤ 100 ∧
  ∀ H' q, Same H H' → H q = none → H' q = some (.lst ((stepsFrom s c ds).map V.int)) → Q (.ref q) H'
abbrev sSteps : Stmt := topS 11
abbrev nSteps : List Str := ["s", "cell", "steps", "found", "step", "other"]
theorem scSteps : FnScope nSteps ["s", "cell", "steps"] (defScope sSteps) := ⟨rfl, rfl, rfl, by decide +kernel, rfl, by decide +kernel, by decide +kernel⟩
theorem ok_steps {f f1 : Addr} {fd fd1 : FuncData} (F : Fun K "steps_from" "steps_from" sSteps f fd) (F1 : Fun K "step_from" "step_from" sStep f1 fd1) (g1 : mg "step_from" = some (.ref f1)) (b1 : Binds K fd1 ["s", "cell", "step"] [])
    (ms : mg "sorted" = none) : FnOk P w K mg base CX0 2 f fd ["s", "cell", "steps"] (spSteps K) := by
  have G1 : FnOk P w K mg base CX0 1 f1 fd1 ["s", "cell", "step"] (spStep K) := ok_step F1
  refine F.ok scSteps (fun vs H Q E h => ?_) (fun cdv A outer s0 H vs Q E hr h => ⟨_, pss_cons
    (ps_setLc (i := 3) (own := [("step", 4)]) (g := gName 4) (tt := tYes) rfl scSteps.nd rfl rfl (sw_true rfl rfl rfl (by decide +kernel)) (pi_tup (pv 2)) (blkOk_by (N := nSteps) (sc := defScope sSteps) (by decide +kernel))
      (fun _ _ _ _ _ => pg_name (i := 4) scSteps.nd rfl (Or.inl rfl)) (fun _ _ _ _ _ => pts_nil) (fun _ _ _ _ _ => pe_call G1 hr rfl g1 F1.kp b1 .nil pass0 (pa_cons (pv 0) (pa_cons (pv 1) (pa_cons (pv 4) pa_nil)))))
    (pss_one (ps_ret (pe_callB cr_sortedI (by rfl) ms boot_sorted (pa_cons
      (pe_lc (own := [("other", 5)]) (g := gName 5) rfl scSteps.nd (pi_list (pv 3)) (blkOk_by (N := nSteps) (sc := defScope sSteps) (by decide +kernel))
        (fun _ _ _ _ _ => pg_name (i := 5) scSteps.nd rfl (Or.inl rfl)) (fun _ _ _ _ _ => pts_one (pt_cmpR op_ge (pv 5) pe_int (nomark _))) (fun _ _ _ _ _ => pv 5)) pa_nil)))), ?_⟩)
  · obtain ⟨s, c, p, d, rfl, _⟩ := h
    rfl
  · obtain ⟨s, c, p, ds, rfl, h0, h1, hS, hl, q⟩ := h
    obtain ⟨as, e1, e2, e3⟩ := hS.ex
    refine ⟨_, rfl, p, rfl, ⟨_, e1⟩, fun D hD => lc_tup (K := K) (a := p) (xs := as.map V.ref) (fun i H' => Same H H' ∧ H' D = some (.lst (((ds.take i).map (stepFrom s c)).map V.int))) ⟨Same.upd hD, upd_same⟩ (fun i H' _ z => Same.sqt z.1 e1) ?_ ?_⟩
    · rintro i x H' hx ⟨z1, z2⟩
      obtain ⟨b, hb, rfl⟩ := get_map hx
      obtain ⟨d, hd⟩ := get_len e2 hb
      obtain ⟨b', hb', hq⟩ := e3 i d hd
      cases hb.symm.trans hb'
      refine ⟨rfl, ⟨_, rfl, _, rfl, _, rfl, s, c, b, d, rfl, h0, h1, Same.sqt z1 hq, _, z2, ?_, Same.upd2 z1 hD, ?_⟩⟩
      · rw [List.length_map, List.length_map, List.length_take]
        exact line_lt (by omega)
      · rw [upd_same, take_more hd, List.map_append, List.map_append]
        rfl
    · rintro H1 ⟨z1, z2⟩
      have et : ds.take (as.map V.ref).length = ds := by rw [List.length_map, e2, List.take_length]
      rw [et] at z2
      refine ⟨_, rfl, D, rfl, ⟨_, SqL.of z2⟩, fun D2 hD2 => lc_list (K := K) (a := D) (xs := (ds.map (stepFrom s c)).map V.int)
        (fun i H' => Same H1 H' ∧ H' D2 = some (.lst ((((ds.map (stepFrom s c)).take i).filter fun z => decide (0 ≤ z)).map V.int))) ⟨Same.upd hD2, upd_same⟩ (fun i H' _ z => SqL.of (z.1 _ _ z2)) ?_ ?_⟩
      · rintro i x H' hx ⟨y1, y2⟩
        obtain ⟨z, hz, rfl⟩ := get_map hx
        refine ⟨rfl, _, rfl, _, _, rfl, rfl, _, rfl, ite2 (fun c1 => ?_) (fun c1 => ?_)⟩
        · refine ⟨_, rfl, _, y2, ?_, Same.upd2 y1 hD2, ?_⟩
          · rw [List.length_map]
            refine line_lt (Nat.le_trans (filter_len _ _ _) ?_)
            rw [List.length_map]
            omega
          · rw [upd_same, take_pos _ hz c1, List.map_append]
            rfl
        · refine ⟨y1, ?_⟩
          rw [y2, take_neg _ hz c1]
      · rintro H2 ⟨y1, y2⟩
        rw [List.length_map, List.take_length] at y2
        refine ⟨D2, _, rfl, SqL.of y2, fun ns' q' hp hs hq => ?_⟩
        refine q _ q' ((z1.trans y1).trans (Same.upd hq)) ((z1.trans y1).free hq) ?_
        rw [upd_same, isort_one hp hs]
        rfl

def spLine (K : PySem.W.Frag) : Sp := fun vs H Q _ => ∃ (s c : Int) (p : Addr) (d : Int × Int), vs = [.int s, .int c, .ref p] ∧ 0 < s ∧ s < 1000 ∧ SqT K H p [.int d.1, .int d.2] ∧ rayOk s d 8 (stepFrom s c d) = true ∧
  ∀ H' q, Same H H' → H q = none → H' q = some (.lst ((lineFrom s c d).map V.int)) → Q (.ref q) H'
abbrev sLine : Stmt := topS 12
abbrev nLine : List Str := ["s", "cell", "step", "found", "other"]
theorem scLine : FnScope nLine ["s", "cell", "step"] (defScope sLine) := ⟨rfl, rfl, rfl, by decide +kernel, rfl, by decide +kernel, by decide +kernel⟩
theorem ok_line {f f1 : Addr} {fd fd1 : FuncData} (F : Fun K "line_from" "line_from" sLine f fd) (F1 : Fun K "step_from" "step_from" sStep f1 fd1) (g1 : mg "step_from" = some (.ref f1)) (b1 : Binds K fd1 ["s", "cell", "step"] []) :
    FnOk P w K mg base CX0 2 f fd ["s", "cell", "step"] (spLine K) := by
  have G1 : FnOk P w K mg base CX0 1 f1 fd1 ["s", "cell", "step"] (spStep K) := ok_step F1
  refine F.ok scLine (fun vs H Q E h => ?_) (fun cdv A outer s0 H vs Q E hr h => ⟨_, pss_cons (ps_set (i := 3) scLine.nd rfl (Or.inl rfl) (pe_lst pa_nil))
    (pss_cons (ps_set (i := 4) scLine.nd rfl (Or.inl rfl) (pe_call G1 hr rfl g1 F1.kp b1 .nil pass0 (pa_cons (pv 0) (pa_cons (pv 1) (pa_cons (pv 2) pa_nil)))))
    (pss_cons (ps_while PassesOwn.never (pt_cmpR op_ge (pv 4) pe_int (nomark _))
      (pss_cons (ps_expr (pe_bm PySem.F.plainAttrs_list PySem.F.slot_list_append PySem.F.type_list_append mt_append (pv 3) (pa_cons (pv 4) pa_nil)))
      (pss_one (ps_set (i := 4) scLine.nd rfl (Or.inl rfl) (pe_call G1 hr rfl g1 F1.kp b1 .nil pass0 (pa_cons (pv 0) (pa_cons (pv 4) (pa_cons (pv 2) pa_nil))))))))
    (pss_one (ps_ret (pv 3))))), ?_⟩)
  · obtain ⟨s, c, p, d, rfl, _⟩ := h
    rfl
  · obtain ⟨s, c, p, d, rfl, h0, h1, hS, hl, q⟩ := h
    refine ⟨line_le (by decide), fun D hD => ?_⟩
    refine ⟨_, rfl, _, rfl, _, rfl, s, c, p, d, rfl, h0, h1, Same.sqt (Same.upd hD) hS, ?_⟩
    refine ⟨fun m σ H' => ∃ (o : Int) (pre : List Int), σ = [some (.int s), some (.int c), some (.ref p), some (.ref D), some (.int o)] ∧ Same H H' ∧ H' D = some (.lst (pre.map V.int)) ∧ pre ++ ray s d m o = lineFrom s c d ∧ rayOk s d m o = true ∧ pre.length + m ≤ 8,
      ⟨8, _, [], rfl, Same.upd hD, upd_same, rfl, hl, Nat.le_refl _⟩, ?_⟩
    rintro m σ H' ⟨o, pre, rfl, z1, z2, z3, z4, z5⟩
    refine ⟨_, rfl, _, _, rfl, rfl, _, rfl, ite2 (fun c1 => ?_) (fun c1 => ?_)⟩
    · have c2 : 0 ≤ o := of_decide_eq_true c1
      cases m with
      | zero =>
        unfold rayOk at z4
        have := of_decide_eq_true z4
        omega
      | succ m =>
        unfold rayOk at z4
        unfold ray at z3
        rw [if_pos c2] at z3
        have z4' : rayOk s d m (stepFrom s o d) = true := by
          rcases Bool.or_eq_true_iff.mp z4 with e | e
          · have := of_decide_eq_true e
            omega
          · exact e
        refine ⟨_, fun σ' H2 y => ⟨m, Nat.lt_succ_self m, y⟩, ?_⟩
        refine ⟨_, rfl, Or.inl ⟨rfl, _, SqL.of z2⟩, _, rfl, D, _, _, rfl, rfl, z2, ?_, ?_⟩
        · rw [List.length_map]
          exact line_lt (by omega)
        · have nD : ∀ b u, H b = some u → b ≠ D := fun b u e => ne_of_none e hD
          have z1' : Same H (upd H' D (.lst (pre.map V.int ++ [.int o]))) := Same.upd2 z1 hD
          refine ⟨_, rfl, _, rfl, _, rfl, s, o, p, d, rfl, h0, h1, Same.sqt z1' hS, ?_⟩
          refine ⟨_, pre ++ [o], rfl, z1', ?_, ?_, z4', ?_⟩
          · rw [upd_same, List.map_append]
            rfl
          · rw [List.append_assoc]
            exact z3
          · rw [List.length_append, List.length_singleton]
            omega
    · have c2 : ¬ 0 ≤ o := fun e => c1 (decide_eq_true e)
      have e : ray s d m o = [] := by
        cases m with
        | zero => rfl
        | succ m => unfold ray; rw [if_neg c2]
      rw [e, List.append_nil] at z3
      subst z3
      exact ⟨_, rfl, q _ D z1 hD z2⟩
def spLines (K : PySem.W.Frag) : Sp := fun vs H Q _ => ∃ (s c : Int) (p : Addr) (ds : List (Int × Int)), vs = [.int s, .int c, .ref p] ∧ 0 < s ∧ s < 1000 ∧ StepsAt K H p ds ∧ ds.length ≤ 100 ∧ (∀ d, d ∈ ds → rayOk s d 8 (stepFrom s c d) = true) ∧
  ∀ H' q, Same H H' → H q = none → LinesAt H' q (ds.map (lineFrom s c)) → Q (.ref q) H'
abbrev sLines : Stmt := topS 13
abbrev nLines : List Str := ["s", "cell", "steps", "step"]
theorem scLines : FnScope nLines ["s", "cell", "steps"] (defScope sLines) := ⟨rfl, rfl, rfl, by decide +kernel, rfl, by decide +kernel, by decide +kernel⟩
theorem ok_lines {f f1 f2 : Addr} {fd fd1 fd2 : FuncData} (F : Fun K "lines_from" "lines_from" sLines f fd) (F1 : Fun K "step_from" "step_from" sStep f1 fd1) (g1 : mg "step_from" = some (.ref f1)) (b1 : Binds K fd1 ["s", "cell", "step"] [])
    (F2 : Fun K "line_from" "line_from" sLine f2 fd2) (g2 : mg "line_from" = some (.ref f2)) (b2 : Binds K fd2 ["s", "cell", "step"] []) :
    FnOk P w K mg base CX0 3 f fd ["s", "cell", "steps"] (spLines K) := by
  have G2 : FnOk P w K mg base CX0 2 f2 fd2 ["s", "cell", "step"] (spLine K) := ok_line F2 F1 g1 b1
  refine F.ok scLines (fun vs H Q E h => ?_) (fun cdv A outer s0 H vs Q E hr h => ⟨_, pss_one (ps_ret
      (pe_lc (own := [("step", 3)]) (g := gName 3) (tt := tYes) rfl scLines.nd (pi_tup (pv 2)) (blkOk_by (N := nLines) (sc := defScope sLines) (by decide +kernel))
        (fun _ _ _ _ _ => pg_name (i := 3) scLines.nd rfl (Or.inl rfl)) (fun _ _ _ _ _ => pts_nil) (fun _ _ _ _ _ => pe_call G2 hr rfl g2 F2.kp b2 .nil pass0 (pa_cons (pv 0) (pa_cons (pv 1) (pa_cons (pv 3) pa_nil)))))), ?_⟩)
  · obtain ⟨s, c, p, d, rfl, _⟩ := h
    rfl
  · obtain ⟨s, c, p, ds, rfl, h0, h1, hS, hl, hk, q⟩ := h
    obtain ⟨as, e1, e2, e3⟩ := hS.ex
    refine ⟨_, rfl, p, rfl, ⟨_, e1⟩, fun D hD => lc_tup (K := K) (a := p) (xs := as.map V.ref) (fun i H' => Same H H' ∧ LinesAt H' D ((ds.take i).map (lineFrom s c))) ⟨Same.upd hD, LinesAt.nil upd_same⟩ (fun i H' _ z => Same.sqt z.1 e1) ?_ ?_⟩
    · rintro i x H' hx ⟨z1, z2⟩
      obtain ⟨b, hb, rfl⟩ := get_map hx
      obtain ⟨d, hd⟩ := get_len e2 hb
      obtain ⟨b', hb', hq⟩ := e3 i d hd
      cases hb.symm.trans hb'
      refine ⟨rfl, ⟨_, rfl, _, rfl, _, rfl, s, c, b, d, rfl, h0, h1, Same.sqt z1 hq, hk d (List.mem_of_getElem? hd), fun H2 q2 y1 y2 y3 => ?_⟩⟩
      obtain ⟨rs, r⟩ := z2.same y1
      refine ⟨_, r.top, ?_, Same.upd2 (z1.trans y1) hD, ?_⟩
      · rw [List.length_map, r.len, List.length_map, List.length_take]
        exact line_lt (by omega)
      · rw [take_more hd, List.map_append]
        refine r.snoc y3 fun e => ?_
        obtain ⟨rs0, r0⟩ := z2
        have := r0.top
        rw [← e, y2] at this
        cases this
    · rintro H1 ⟨z1, z2⟩
      have et : ds.take (as.map V.ref).length = ds := by rw [List.length_map, e2, List.take_length]
      rw [et] at z2
      exact q H1 D z1 hD z2
end

/-! ## the board -/
theorem lk_here {k : Str} {v : V} {r : List (Str × V)} : List.lookup k ((k, v) :: r) = some v := by
  have e : (k == k) = true := beq_self_eq_true k
  simp only [List.lookup, e]
theorem lk_past {k g : Str} {v : V} {r : List (Str × V)} (h : (k == g) = false) : List.lookup k ((g, v) :: r) = List.lookup k r := by
  simp only [List.lookup, h]
theorem put_here {f : Str} {v x : V} {r : List (Str × V)} : putF f v ((f, x) :: r) = (f, v) :: r := if_pos rfl
theorem put_past {f g : Str} {v x : V} {r : List (Str × V)} (h : ¬ g = f) : putF f v ((g, x) :: r) = (g, x) :: putF f v r := if_neg h
theorem put_nil {f : Str} {v : V} : putF f v [] = [(f, v)] := rfl

def bF (s : Nat) (bl ld : Addr) : List (Str × V) := [("s", .int s), ("off", .int ((s * s : Nat) : Int)), ("beside", .ref bl), ("lines", .ref ld)]
theorem bF_s (s : Nat) (bl ld : Addr) : (bF s bl ld).lookup ("s" : Str) = some (.int s) := lk_here
theorem bF_off (s : Nat) (bl ld : Addr) : (bF s bl ld).lookup ("off" : Str) = some (.int ((s * s : Nat) : Int)) := (lk_past (by decide +kernel)).trans lk_here
theorem bF_beside (s : Nat) (bl ld : Addr) : (bF s bl ld).lookup ("beside" : Str) = some (.ref bl) := (lk_past (by decide +kernel)).trans ((lk_past (by decide +kernel)).trans lk_here)
theorem bF_lines (s : Nat) (bl ld : Addr) : (bF s bl ld).lookup ("lines" : Str) = some (.ref ld) := (lk_past (by decide +kernel)).trans ((lk_past (by decide +kernel)).trans ((lk_past (by decide +kernel)).trans lk_here))
def bF0 (s : Nat) : List (Str × V) := [("s", .int s), ("off", .int ((s * s : Nat) : Int))]
def bF1 (s : Nat) (bl : Addr) : List (Str × V) := [("s", .int s), ("off", .int ((s * s : Nat) : Int)), ("beside", .ref bl)]
theorem bF_p0 (s : Nat) : putF "off" (.int ((s * s : Nat) : Int)) (putF "s" (.int s) []) = bF0 s := (put_past (by decide +kernel)).trans rfl
theorem bF_p1 (s : Nat) (bl : Addr) : putF "beside" (.ref bl) (bF0 s) = bF1 s bl := (put_past (by decide +kernel)).trans (congrArg _ ((put_past (by decide +kernel)).trans rfl))
theorem bF_p2 (s : Nat) (bl ld : Addr) : putF "lines" (.ref ld) (bF1 s bl) = bF s bl ld := (put_past (by decide +kernel)).trans (congrArg _ ((put_past (by decide +kernel)).trans (congrArg _ ((put_past (by decide +kernel)).trans rfl))))

/-- beside each cell -/
def besL (s : Nat) : List (List Int) := (List.range (s * s)).map fun c => (besideN s c).map Int.ofNat
def lkey (kind c : Nat) : List Key := [.inl (kind : Int), .inl (c : Int)]
structure BoardAt (CB : Addr) (H : Hp) (ba : Addr) (s : Nat) : Prop where
  ex : ∃ dx bl ld kvs, H ba = some (.ins CB dx (bF s bl ld)) ∧ LinesAt H bl (besL s) ∧ H ld = some (.dT kvs) ∧
    ∀ kind c, kind ∈ kinds → c < s * s → ∃ r, valV kvs (lkey kind c) = some (.ref r) ∧ LinesAt H r (linesOf s kind c)
theorem BoardAt.same {CB : Addr} {H H' : Hp} {ba : Addr} {s : Nat} (h : BoardAt CB H ba s) (e : Same H H') : BoardAt CB H' ba s := by
  obtain ⟨dx, bl, ld, kvs, h1, h2, h3, h4⟩ := h.ex
  refine ⟨dx, bl, ld, kvs, e _ _ h1, h2.same e, e _ _ h3, fun kind c hk hc => ?_⟩
  obtain ⟨r, e1, e2⟩ := h4 kind c hk hc
  exact ⟨r, e1, e2.same e⟩
/-- all but the thing at d is as it was -/
def But (d : Addr) (H H' : Hp) : Prop := ∀ b o, H b = some o → b ≠ d → H' b = some o
theorem LinesAt.but {H H' : Hp} {q d : Addr} {Ls : List (List Int)} (h : LinesAt H q Ls) (k : But d H H') (hd : ∀ xs, H d ≠ some (.lst xs)) : LinesAt H' q Ls := by
  obtain ⟨rs, h1, h2, h3⟩ := h
  refine ⟨rs, k _ _ h1 (fun e => hd _ (e ▸ h1)), h2, fun i L e => ?_⟩
  obtain ⟨r, e1, e2, e3⟩ := h3 i L e
  exact ⟨r, e1, k _ _ e2 (fun e => hd _ (e ▸ e2)), e3⟩

/-- what the top has of boards -/
structure TxB (K : PySem.W.Frag) (mg : Str → Option Value) (CB aS aA aL : Addr) : Prop where
  cl : Cls K CB
  n1 : NoAttr K CB "s"
  n2 : NoAttr K CB "off"
  n3 : NoAttr K CB "beside"
  n4 : NoAttr K CB "lines"
  g1 : ∃ t, mg "QUEEN" = some (.int 1 t)
  g2 : ∃ t, mg "ROOK" = some (.int 2 t)
  g3 : ∃ t, mg "BISHOP" = some (.int 3 t)
  g4 : ∃ t, mg "KNIGHT" = some (.int 4 t)
  gS : mg "STRAIGHT" = some (.ref aS)
  gA : mg "ASLANT" = some (.ref aA)
  gL : mg "LEAPS" = some (.ref aL)
  sS : ∀ H, StepsAt K H aS straight
  sA : ∀ H, StepsAt K H aA aslant
  sL : ∀ H, StepsAt K H aL leaps
  mr : mg "range" = none
  ms : mg "sorted" = none
/-- straight + aslant -/
theorem StepsAt.cat {K : PySem.W.Frag} {H H' : Hp} {p : Addr} {as bs : List Addr} {ds es : List (Int × Int)} (ha : as.length = ds.length) (hb : bs.length = es.length)
    (h1 : ∀ (i : Nat) (d : Int × Int), ds[i]? = some d → ∃ b, as[i]? = some b ∧ SqT K H b [.int d.1, .int d.2]) (h2 : ∀ (i : Nat) (d : Int × Int), es[i]? = some d → ∃ b, bs[i]? = some b ∧ SqT K H b [.int d.1, .int d.2])
    (e : Same H H') (hp : H' p = some (.tup (as.map V.ref ++ bs.map V.ref))) : StepsAt K H' p (ds ++ es) := by
  refine ⟨as ++ bs, ?_, by rw [List.length_append, List.length_append, ha, hb], fun i d hd => ?_⟩
  · rw [List.map_append]
    exact SqT.of hp
  · by_cases c : i < ds.length
    · rw [List.getElem?_append_left c] at hd
      obtain ⟨x, e1, e2⟩ := h1 i d hd
      exact ⟨x, by rw [List.getElem?_append_left (by omega)]; exact e1, Same.sqt e e2⟩
    · rw [List.getElem?_append_right (by omega)] at hd
      obtain ⟨x, e1, e2⟩ := h2 _ d hd
      exact ⟨x, by rw [List.getElem?_append_right (by omega), ha]; exact e1, Same.sqt e e2⟩

theorem lkey_inj {k c k' c' : Nat} (h : lkey k c = lkey k' c') : k = k' ∧ c = c' := by
  unfold lkey at h
  have h1 := Sum.inl.inj (List.cons.inj h).1
  have h2 := Sum.inl.inj (List.cons.inj (List.cons.inj h).2).1
  exact ⟨by omega, by omega⟩
/-- the board while its lines are laid: W tells which stand -/
structure Mid (CB : Addr) (H0 : Hp) (p dx : Addr) (s : Nat) (bl ld : Addr) (W : Nat → Nat → Prop) (m : Nat) (H : Hp) : Prop where
  but : But p H0 H
  no : H0 ld = none
  ne : ld ≠ p
  top : H p = some (.ins CB dx (bF s bl ld))
  bes : LinesAt H bl (besL s)
  d : ∃ kvs, H ld = some (.dT kvs) ∧ kvs.length ≤ m ∧ ∀ kind c, W kind c → ∃ r, valV kvs (lkey kind c) = some (.ref r) ∧ LinesAt H r (linesOf s kind c)
theorem Mid.same {CB : Addr} {H0 H H' : Hp} {p dx : Addr} {s : Nat} {bl ld : Addr} {W : Nat → Nat → Prop} {m : Nat} (M : Mid CB H0 p dx s bl ld W m H) (e : Same H H') : Mid CB H0 p dx s bl ld W m H' := by
  obtain ⟨kvs, h1, h2, h3⟩ := M.d
  refine ⟨fun b o h n => e _ _ (M.but b o h n), M.no, M.ne, e _ _ M.top, M.bes.same e, kvs, e _ _ h1, h2, fun kind c h => ?_⟩
  obtain ⟨r, r1, r2⟩ := h3 kind c h
  exact ⟨r, r1, r2.same e⟩
theorem Mid.put {CB : Addr} {H0 H : Hp} {p dx : Addr} {s : Nat} {bl ld r : Addr} {W : Nat → Nat → Prop} {m kind c : Nat} {kvs : List (List Key × V)} (M : Mid CB H0 p dx s bl ld W m H) (hk : H ld = some (.dT kvs)) (hr : LinesAt H r (linesOf s kind c)) :
    Mid CB H0 p dx s bl ld (fun k d => W k d ∨ (k = kind ∧ d = c)) (m + 1) (upd H ld (.dT (putK kvs (lkey kind c) (.ref r)))) := by
  obtain ⟨kvs', h1, h2, h3⟩ := M.d
  cases hk.symm.trans h1
  have nl : ∀ xs, H ld ≠ some (.lst xs) := fun xs e => by rw [hk] at e; cases e
  have bt : But ld H (upd H ld (.dT (putK kvs (lkey kind c) (.ref r)))) := fun b o e n => by rw [upd_ne n]; exact e
  refine ⟨fun b o e n => ?_, M.no, M.ne, ?_, M.bes.but bt nl, _, upd_same, ?_, fun k d h => ?_⟩
  · rw [upd_ne (ne_of_none e M.no)]
    exact M.but b o e n
  · rw [upd_ne (Ne.symm M.ne)]
    exact M.top
  · exact Nat.le_trans (length_putK _ _ _) (by omega)
  · rw [valV_put]
    by_cases e : k = kind ∧ d = c
    · obtain ⟨rfl, rfl⟩ := e
      exact ⟨r, if_pos rfl, hr.but bt nl⟩
    · obtain ⟨r', r1, r2⟩ := h3 k d (h.resolve_right e)
      exact ⟨r', by rw [if_neg fun z => e (lkey_inj z)]; exact r1, r2.but bt nl⟩

def spBoard (CB : Addr) : Sp := fun vs H Q _ => ∃ (p dx : Addr) (s : Nat), vs = [.ref p, .int s] ∧ s ∈ sizes ∧ H p = some (.ins CB dx []) ∧
  ∀ H' : Hp, But p H H' → BoardAt CB H' p s → Q .non H'
section
variable {P : Program} {w : World} {K : PySem.W.Frag} {mg : Str → Option Value} {base : Heap}
abbrev sBoard : Stmt := inClass (topS 9) 0
abbrev nBoard : List Str := ["self", "s", "cell", "other"]
theorem scBoard : FnScope nBoard ["self", "s"] (defScope sBoard) := ⟨rfl, rfl, rfl, by decide +kernel, rfl, by decide +kernel, by decide +kernel⟩
theorem ok_board {CB aS aA aL f f1 f2 f3 f4 : Addr} {fd fd1 fd2 fd3 fd4 : FuncData} (T : TxB K mg CB aS aA aL) (F : Fun K "__init__" "Board.__init__" sBoard f fd) (F1 : Fun K "step_from" "step_from" sStep f1 fd1) (g1 : mg "step_from" = some (.ref f1)) (b1 : Binds K fd1 ["s", "cell", "step"] [])
    (F2 : Fun K "line_from" "line_from" sLine f2 fd2) (g2 : mg "line_from" = some (.ref f2)) (b2 : Binds K fd2 ["s", "cell", "step"] [])
    (F3 : Fun K "steps_from" "steps_from" sSteps f3 fd3) (g3 : mg "steps_from" = some (.ref f3)) (b3 : Binds K fd3 ["s", "cell", "steps"] [])
    (F4 : Fun K "lines_from" "lines_from" sLines f4 fd4) (g4 : mg "lines_from" = some (.ref f4)) (b4 : Binds K fd4 ["s", "cell", "steps"] []) :
    FnOk P w K mg base CX0 4 f fd ["self", "s"] (spBoard CB) := by
  have G3 : FnOk P w K mg base CX0 2 f3 fd3 ["s", "cell", "steps"] (spSteps K) := ok_steps F3 F1 g1 b1 T.ms
  have G4 : FnOk P w K mg base CX0 3 f4 fd4 ["s", "cell", "steps"] (spLines K) := ok_lines F4 F1 g1 b1 F2 g2 b2
  obtain ⟨t1, q1⟩ := T.g1
  obtain ⟨t2, q2⟩ := T.g2
  obtain ⟨t3, q3⟩ := T.g3
  obtain ⟨t4, q4⟩ := T.g4
  refine F.ok scBoard (fun vs H Q E h => ?_) (fun cdv A outer s0 H vs Q E hr h => ?_)
  · obtain ⟨p, dx, s, rfl, _⟩ := h
    rfl
  have hr2 : Room 2 _ := hr.mono (by decide)
  have hu := hu_of hr
  refine ⟨_, pss_cons (ps_fld (pv 0) (pv 1) rfl)
    (pss_cons (ps_fld (pv 0) (pe_op op_mul (pv 1) (pv 1)) rfl)
    (pss_cons (ps_fld (pv 0) (pe_lc (own := [("cell", 2)]) (g := gName 2) (tt := tYes) rfl scBoard.nd (pi_range1 rfl T.mr (pa_cons (pe_op op_mul (pv 1) (pv 1)) pa_nil)) (blkOk_by (N := nBoard) (sc := defScope sBoard) (by decide +kernel))
        (fun _ _ _ _ _ => pg_name (i := 2) scBoard.nd rfl (Or.inl rfl)) (fun _ _ _ _ _ => pts_nil)
        (fun _ _ _ _ _ => pe_call G3 hr2 rfl g3 F3.kp b3 .nil pass0 (pa_cons (pv 1) (pa_cons (pv 2) (pa_cons (pe_op (r := rCatA K) op_catA (pe_glob (v := .ref aS) rfl T.gS rfl) (pe_glob (v := .ref aA) rfl T.gA rfl)) pa_nil))))) rfl)
    (pss_cons (ps_fld (pv 0) pe_dnewT rfl)
    (pss_one (ps_for PassesOwn.never rfl (pi_range1 rfl T.mr (pa_cons (pe_op op_mul (pv 1) (pv 1)) pa_nil)) (pg_name (i := 2) scBoard.nd rfl (Or.inl rfl))
      (pss_cons (ps_dput hu (pe_fld (pv 0) rfl) (pe_tup (pa_cons (pe_glob (v := .int 2) rfl q2 ⟨_, rfl⟩) (pa_cons (pv 2) pa_nil))) (pe_call G4 hr rfl g4 F4.kp b4 .nil pass0 (pa_cons (pv 1) (pa_cons (pv 2) (pa_cons (pe_glob (v := .ref aS) rfl T.gS rfl) pa_nil)))) rfl)
      (pss_cons (ps_dput hu (pe_fld (pv 0) rfl) (pe_tup (pa_cons (pe_glob (v := .int 3) rfl q3 ⟨_, rfl⟩) (pa_cons (pv 2) pa_nil))) (pe_call G4 hr rfl g4 F4.kp b4 .nil pass0 (pa_cons (pv 1) (pa_cons (pv 2) (pa_cons (pe_glob (v := .ref aA) rfl T.gA rfl) pa_nil)))) rfl)
      (pss_cons (ps_dput hu (pe_fld (pv 0) rfl) (pe_tup (pa_cons (pe_glob (v := .int 1) rfl q1 ⟨_, rfl⟩) (pa_cons (pv 2) pa_nil))) (pe_call G4 hr rfl g4 F4.kp b4 .nil pass0 (pa_cons (pv 1) (pa_cons (pv 2) (pa_cons (pe_op (r := rCatA K) op_catA (pe_glob (v := .ref aS) rfl T.gS rfl) (pe_glob (v := .ref aA) rfl T.gA rfl)) pa_nil)))) rfl)
      (pss_one (ps_dput hu (pe_fld (pv 0) rfl) (pe_tup (pa_cons (pe_glob (v := .int 4) rfl q4 ⟨_, rfl⟩) (pa_cons (pv 2) pa_nil)))
        (pe_lc (own := [("other", 3)]) (g := gName 3) (tt := tYes) rfl scBoard.nd (pi_list (pe_call G3 hr2 rfl g3 F3.kp b3 .nil pass0 (pa_cons (pv 1) (pa_cons (pv 2) (pa_cons (pe_glob (v := .ref aL) rfl T.gL rfl) pa_nil))))) (blkOk_by (N := nBoard) (sc := defScope sBoard) (by decide +kernel))
          (fun _ _ _ _ _ => pg_name (i := 3) scBoard.nd rfl (Or.inl rfl)) (fun _ _ _ _ _ => pts_nil) (fun _ _ _ _ _ => pe_lst (pa_cons (pv 3) pa_nil))) rfl)))))))))), ?_⟩
  obtain ⟨p, dx, s, rfl, hs, hp, q⟩ := h
  have sb : 3 ≤ s ∧ s ≤ 5 := by
    rcases sizes_of hs with e | e | e <;> omega
  have ss : s * s ≤ 25 := Nat.mul_le_mul sb.2 sb.2
  have i0 : (0 : Int) < (s : Int) := by omega
  have i1 : (s : Int) < 1000 := by omega
  have cm : CMul (s : Int) (s : Int) := .inl ⟨by omega, by omega⟩
  obtain ⟨aas, x1, x2, x3⟩ := (T.sS H).ex
  -- self.s, self.off
  refine ⟨_, rfl, _, rfl, p, CB, dx, [], rfl, hp, T.cl, T.n1, (by decide), ?_⟩
  refine ⟨_, rfl, _, rfl, _, _, rfl, rfl, cm, _, rfl, p, CB, dx, _, rfl, upd_same, T.cl, T.n2, (by show 1 < 1000; decide), ?_⟩
  have e0 : upd (upd H p (.ins CB dx (putF "s" (.int s) []))) p (.ins CB dx (putF "off" ((fun i j => V.int (i * j)) (s : Int) (s : Int)) (putF "s" (.int s) []))) = upd H p (.ins CB dx (bF0 s)) := by
    rw [upd_upd]
    exact congrArg (fun z => upd H p (.ins CB dx z)) (bF_p0 s)
  rw [e0]
  have b0 : But p H (upd H p (.ins CB dx (bF0 s))) := fun b o e n => by rw [upd_ne n]; exact e
  have t0 : (upd H p (.ins CB dx (bF0 s))) p = some (.ins CB dx (bF0 s)) := upd_same
  generalize upd H p (.ins CB dx (bF0 s)) = H1 at b0 t0
  -- straight + aslant
  have cat : ∀ (σ : L2.St) (H2 : Hp) (Q2 : List V → Hp → Prop), (∀ (H3 : Hp) (t : Addr), Same H2 H3 → StepsAt K H3 t (straight ++ aslant) → Q2 [.ref t] H3) → tCons (tOp (rCatA K) (tC (.ref aS)) (tC (.ref aA))) tNil σ H2 Q2 := fun σ H2 Q2 k => by
    obtain ⟨as, y1, y2, y3⟩ := (T.sS H2).ex
    obtain ⟨bs, z1, z2, z3⟩ := (T.sA H2).ex
    have la : as.length = 4 := y2
    have lb : bs.length = 4 := z2
    refine ⟨aS, aA, _, _, rfl, rfl, y1, z1, ?_, fun e => ?_, fun _ e => ?_, fun _ _ t ht => ?_⟩
    · rw [List.length_map, List.length_map, la, lb]
      exact line_le (by decide)
    · have := congrArg List.length e
      rw [List.length_map, la] at this
      cases this
    · have := congrArg List.length e
      rw [List.length_map, lb] at this
      cases this
    · exact k _ t (Same.upd ht) (StepsAt.cat y2 z2 y3 z3 (Same.upd ht) upd_same)
  -- self.beside
  refine ⟨_, rfl, _, rfl, _, _, rfl, rfl, cm, (s : Int) * s, rfl, ?_, ?_, fun D hD => lc_range (lo := 0) (n := s * s) (fun i H' => Same H1 H' ∧ LinesAt H' D ((besL s).take i)) ⟨Same.upd hD, LinesAt.nil upd_same⟩ ?_ ?_⟩
  · exact Int.le_trans (by decide) (Int.natCast_nonneg (s * s))
  · exact Int.lt_of_le_of_lt (Int.ofNat_le.mpr ss) (by decide)
  · rintro i H' hi ⟨z1, z2⟩
    refine ⟨rfl, ⟨_, rfl, _, rfl, cat _ _ _ fun H2 t y1 y2 => ?_⟩⟩
    refine ⟨s, 0 + (i : Int), t, straight ++ aslant, rfl, i0, i1, y2, by decide, fun H3 q2 w1 w2 w3 => ?_⟩
    obtain ⟨rs, r⟩ := (z2.same y1).same w1
    have hb : (besL s)[i]? = some ((besideN s i).map Int.ofNat) := by
      unfold besL
      rw [List.getElem?_map, List.getElem?_range hi]
      rfl
    refine ⟨_, r.top, ?_, Same.upd2 ((z1.trans y1).trans w1) hD, ?_⟩
    · rw [List.length_map, r.len, List.length_take]
      refine line_lt ?_
      unfold besL
      rw [List.length_map, List.length_range]
      omega
    · rw [take_more hb]
      rw [Int.zero_add, beside_is hs hi] at w3
      refine r.snoc w3 fun e => ?_
      obtain ⟨rs0, r0⟩ := z2.same y1
      have := r0.top
      rw [← e, w2] at this
      cases this
  rintro H2 ⟨z1, z2⟩
  have et : (besL s).take (s * s) = besL s := by
    refine List.take_of_length_le ?_
    unfold besL
    rw [List.length_map, List.length_range]
    exact Nat.le_refl _
  rw [et] at z2
  refine ⟨_, rfl, p, CB, dx, _, rfl, z1 _ _ t0, T.cl, T.n3, (by show 2 < 1000; decide), ?_⟩
  rw [bF_p1]
  -- self.lines
  intro ld hld
  have nep : ld ≠ p := fun e => by
    rw [e, upd_same] at hld
    cases hld
  rw [upd_ne nep] at hld
  refine ⟨_, rfl, p, CB, dx, bF1 s D, rfl, ?_, T.cl, T.n4, (by show 3 < 1000; decide), ?_⟩
  · rw [upd_ne (Ne.symm nep), upd_same]
  rw [bF_p2]
  have M0 : Mid CB H p dx s D ld (fun _ _ => False) 0 (upd (upd (upd H2 p (.ins CB dx (bF1 s D))) ld (.dT [])) p (.ins CB dx (bF s D ld))) := by
    have hno : H ld = none := by
      cases e : H ld with
      | none => rfl
      | some o =>
        have := z1 _ _ (b0 ld o e nep)
        rw [hld] at this
        cases this
    refine ⟨fun b o e n => ?_, hno, nep, upd_same, ?_, [], ?_, Nat.le_refl _, fun _ _ h => h.elim⟩
    · rw [upd_ne n, upd_ne (ne_of_none e hno), upd_ne n]
      exact z1 _ _ (b0 b o e n)
    · have tp := z1 _ _ t0
      have a1 : LinesAt (upd H2 p (.ins CB dx (bF1 s D))) D (besL s) := z2.but (d := p) (fun b o e n => by rw [upd_ne n]; exact e) fun xs e => by rw [tp] at e; cases e
      have a2 := a1.same (Same.upd (p := ld) (o := .dT []) (by rw [upd_ne nep]; exact hld))
      exact a2.but (d := p) (fun b o e n => by rw [upd_ne n]; exact e) fun xs e => by rw [upd_ne (Ne.symm nep), upd_same] at e; cases e
    · rw [upd_ne nep, upd_same]
  generalize upd (upd (upd H2 p (.ins CB dx (bF1 s D))) ld (.dT [])) p (.ins CB dx (bF s D ld)) = H3 at M0
  refine ⟨_, rfl, _, rfl, _, _, rfl, rfl, cm, (s : Int) * s, rfl, ?_, ?_, for_range (lo := 0) (n := s * s) (fun i σ H' => (∃ v, σ = [some (.ref p), some (.int s), v, none]) ∧ Mid CB H p dx s D ld (fun k c => k ∈ kinds ∧ c < i) (4 * i) H') ?_ ?_ ?_⟩
  · exact Int.le_trans (by decide) (Int.natCast_nonneg (s * s))
  · exact Int.lt_of_le_of_lt (Int.ofNat_le.mpr ss) (by decide)
  · refine ⟨⟨none, rfl⟩, M0.but, M0.no, M0.ne, M0.top, M0.bes, ?_⟩
    obtain ⟨kvs, k1, k2, k3⟩ := M0.d
    exact ⟨kvs, k1, k2, fun k c h => absurd h.2 (Nat.not_lt_zero c)⟩
  · rintro i σ H' hi ⟨⟨v, rfl⟩, M⟩
    rw [show (0 : Int) + (i : Int) = (i : Int) from Int.zero_add _]
    have line_r : ∀ ds : List (Int × Int), (∀ d, d ∈ ds → d ∈ straight ++ aslant) → ∀ d, d ∈ ds → rayOk s d 8 (stepFrom s i d) = true := fun ds hd d m => ray_ok hs hi (hd d m)
    have size : ∀ (W : Nat → Nat → Prop) (m : Nat) (Ha : Hp), m ≤ 1000 → Mid CB H p dx s D ld W m Ha → ∀ kvs, Ha ld = some (.dT kvs) → kvs.length < sizeLine := fun W m Ha hm M kvs e => by
      obtain ⟨kvs', k1, k2, _⟩ := M.d
      cases e.symm.trans k1
      exact line_lt (by omega)
    refine ⟨_, rfl, _, rfl, s, i, aS, straight, rfl, i0, i1, T.sS _, by decide, line_r _ (fun d m => List.mem_append.mpr (.inl m)), fun Ha1 r1 u1 v1 w1 => ?_⟩
    have N1 := M.same u1
    have w1' : LinesAt Ha1 r1 (linesOf s (2 : Nat) i) := w1
    refine ⟨_, rfl, p, CB, dx, _, _, rfl, N1.top, T.cl, T.n4, bF_lines s D ld, _, rfl, line_le (n := 2) (by decide), fun t1 ht1 => ?_⟩
    have P1 := N1.same (Same.upd (o := .tup [.int 2, .int i]) ht1)
    obtain ⟨kv1, kd1, _, _⟩ := id P1.d
    refine ⟨ld, _, rfl, DPut.t (k := lkey 2 i) kd1 upd_same (size _ _ _ (by omega) P1 _ kd1), ?_⟩
    have R1 := P1.put kd1 (w1'.same (Same.upd ht1))
    generalize upd (upd Ha1 t1 (.tup [.int 2, .int i])) ld (.dT (putK kv1 (lkey 2 i) (.ref r1))) = Hn1 at R1
    refine ⟨_, rfl, _, rfl, s, i, aA, aslant, rfl, i0, i1, T.sA _, by decide, line_r _ (fun d m => List.mem_append.mpr (.inr m)), fun Ha2 r2 u2 v2 w2 => ?_⟩
    have N2 := R1.same u2
    have w2' : LinesAt Ha2 r2 (linesOf s (3 : Nat) i) := w2
    refine ⟨_, rfl, p, CB, dx, _, _, rfl, N2.top, T.cl, T.n4, bF_lines s D ld, _, rfl, line_le (n := 2) (by decide), fun t2 ht2 => ?_⟩
    have P2 := N2.same (Same.upd (o := .tup [.int 3, .int i]) ht2)
    obtain ⟨kv2, kd2, _, _⟩ := id P2.d
    refine ⟨ld, _, rfl, DPut.t (k := lkey 3 i) kd2 upd_same (size _ _ _ (by omega) P2 _ kd2), ?_⟩
    have R2 := P2.put kd2 (w2'.same (Same.upd ht2))
    generalize upd (upd Ha2 t2 (.tup [.int 3, .int i])) ld (.dT (putK kv2 (lkey 3 i) (.ref r2))) = Hn2 at R2
    refine ⟨_, rfl, _, rfl, cat _ _ _ fun Hc3 tc3 uc3 vc3 => ?_⟩
    refine ⟨s, i, tc3, straight ++ aslant, rfl, i0, i1, vc3, by decide, line_r _ (fun d m => m), fun Ha3 r3 u3 v3 w3 => ?_⟩
    have N3 := (R2.same uc3).same u3
    have w3' : LinesAt Ha3 r3 (linesOf s (1 : Nat) i) := w3
    refine ⟨_, rfl, p, CB, dx, _, _, rfl, N3.top, T.cl, T.n4, bF_lines s D ld, _, rfl, line_le (n := 2) (by decide), fun t3 ht3 => ?_⟩
    have P3 := N3.same (Same.upd (o := .tup [.int 1, .int i]) ht3)
    obtain ⟨kv3, kd3, _, _⟩ := id P3.d
    refine ⟨ld, _, rfl, DPut.t (k := lkey 1 i) kd3 upd_same (size _ _ _ (by omega) P3 _ kd3), ?_⟩
    have R3 := P3.put kd3 (w3'.same (Same.upd ht3))
    generalize upd (upd Ha3 t3 (.tup [.int 1, .int i])) ld (.dT (putK kv3 (lkey 1 i) (.ref r3))) = Hn3 at R3
    -- the knight's: a list of lists of one cell
    refine ⟨_, rfl, _, rfl, s, i, aL, leaps, rfl, i0, i1, T.sL _, by decide, fun Ha q4 u4 v4 w4 => ?_⟩
    refine ⟨q4, rfl, ⟨_, SqL.of w4⟩, fun D4 hD4 => lc_list (K := K) (a := q4) (xs := (stepsFrom s i leaps).map V.int) (fun j H' => Same Ha H' ∧ LinesAt H' D4 (((stepsFrom s i leaps).take j).map fun z => [z])) ⟨Same.upd hD4, LinesAt.nil upd_same⟩ (fun j H' _ z => SqL.of (z.1 _ _ w4)) ?_ ?_⟩
    · rintro j x H5 hx ⟨z5, y5⟩
      obtain ⟨z, hz, rfl⟩ := get_map hx
      refine ⟨rfl, ⟨_, rfl, line_le (n := 1) (by decide), fun t5 ht5 => ?_⟩⟩
      obtain ⟨rs, r⟩ := y5.same (Same.upd (o := .lst [.int z]) ht5)
      refine ⟨_, r.top, ?_, Same.upd2 (z5.trans (Same.upd ht5)) hD4, ?_⟩
      · rw [List.length_map, r.len, List.length_map, List.length_take]
        have : (stepsFrom s i leaps).length ≤ 8 := by
          unfold stepsFrom
          rw [(isort_perm _).length_eq]
          refine Nat.le_trans (List.length_filter_le _ _) ?_
          rw [List.length_map]
          decide
        exact line_lt (by omega)
      · rw [take_more hz, List.map_append]
        refine r.snoc (L := [z]) upd_same fun e => ?_
        obtain ⟨rs0, r0⟩ := y5
        have := r0.top
        rw [← e, ht5] at this
        cases this
    · rintro H5 ⟨z5, y5⟩
      rw [List.length_map, List.take_length] at y5
      have N4 := (R3.same u4).same z5
      have w4' : LinesAt H5 D4 (linesOf s (4 : Nat) i) := y5
      refine ⟨_, rfl, p, CB, dx, _, _, rfl, N4.top, T.cl, T.n4, bF_lines s D ld, _, rfl, line_le (n := 2) (by decide), fun t4 ht4 => ?_⟩
      have P4 := N4.same (Same.upd (o := .tup [.int 4, .int i]) ht4)
      obtain ⟨kv4, kd4, _, _⟩ := id P4.d
      refine ⟨ld, _, rfl, DPut.t (k := lkey 4 i) kd4 upd_same (size _ _ _ (by omega) P4 _ kd4), ?_⟩
      have R4 := P4.put kd4 (w4'.same (Same.upd ht4))
      refine ⟨⟨_, rfl⟩, R4.but, R4.no, R4.ne, R4.top, R4.bes, ?_⟩
      obtain ⟨kvs, k1, k2, k3⟩ := R4.d
      refine ⟨kvs, k1, k2, fun kind c h => k3 kind c ?_⟩
      by_cases e : c = i
      · subst e
        have hk := h.1
        unfold kinds at hk
        simp only [List.mem_cons, List.not_mem_nil, or_false] at hk
        rcases hk with rfl | rfl | rfl | rfl
        · exact .inl (.inr ⟨rfl, rfl⟩)
        · exact .inl (.inl (.inl (.inr ⟨rfl, rfl⟩)))
        · exact .inl (.inl (.inr ⟨rfl, rfl⟩))
        · exact .inr ⟨rfl, rfl⟩
      · exact .inl (.inl (.inl (.inl ⟨h.1, by omega⟩)))
  · rintro σ H' ⟨_, M⟩
    refine q H' M.but ?_
    obtain ⟨kvs, k1, k2, k3⟩ := M.d
    exact ⟨dx, D, ld, kvs, M.top, M.bes, k1, fun kind c h1 h2 => k3 kind c ⟨h1, h2⟩⟩
end
end Cw
end

section
set_option Elab.async false
set_option maxRecDepth 100000
set_option maxHeartbeats 4000000
/- The walk: cells aimed at. -/
namespace Cw
open PySem PySem.Spec PyProof.Rows L2 Ch
open PySem.W (Codec)

theorem inV_int (z : Int) (xs : List Int) : inV (.int z) (xs.map V.int) = decide (z ∈ xs) := by
  unfold inV
  rw [List.any_map]
  induction xs with
  | nil => rfl
  | cons x r ih =>
    rw [List.any_cons, ih]
    show (eqV (.int x) (.int z) || decide (z ∈ r)) = decide (z ∈ x :: r)
    show ((x == z) || decide (z ∈ r)) = decide (z ∈ x :: r)
    by_cases e : x = z
    · subst e
      simp
    · have e' : ¬ z = x := fun h => e h.symm
      simp [e, e']
theorem flat_ints (xs : List Int) : (xs.map V.int).all flatV = true := by
  rw [List.all_map, List.all_eq_true]
  intro x _
  rfl
theorem takeTo_break {st : Int → Bool} : ∀ {L : List Int} {j : Nat} {y : Int}, L[j]? = some y → (∀ (i : Nat) (z : Int), i < j → L[i]? = some z → st z = false) → st y = true → takeTo st L = L.take (j + 1)
  | [], j, y, h, _, _ => by cases h
  | x :: r, 0, y, h, _, hy => by
    have e : x = y := by simpa using h
    subst e
    unfold takeTo
    rw [if_pos hy]
    rfl
  | x :: r, j + 1, y, h, hb, hy => by
    have c := hb 0 x (by omega) rfl
    unfold takeTo
    rw [if_neg (by rw [c]; decide), takeTo_break (L := r) (j := j) (by simpa using h) (fun i z hi hz => hb (i + 1) z (by omega) (by simpa using hz)) hy]
    rfl
theorem takeTo_all {st : Int → Bool} : ∀ {L : List Int}, (∀ (i : Nat) (z : Int), L[i]? = some z → st z = false) → takeTo st L = L
  | [], _ => rfl
  | x :: r, h => by
    have c := h 0 x rfl
    unfold takeTo
    rw [if_neg (by rw [c]; decide), takeTo_all (L := r) (fun i z hz => h (i + 1) z (by simpa using hz))]
theorem flatMap_take_succ {f : List Int → List Int} {Ls : List (List Int)} {i : Nat} {L : List Int} (h : Ls[i]? = some L) : (Ls.take (i + 1)).flatMap f = (Ls.take i).flatMap f ++ f L := by
  rw [take_more h, List.flatMap_append]
  simp
theorem aimed_len {st : Int → Bool} {Ls : List (List Int)} {i : Nat} {L : List Int} (h : Ls[i]? = some L) : ((Ls.take i).flatMap (takeTo st)).length + L.length ≤ Ls.flatten.length := by
  have h1 := (aimed_sub st (Ls.take i)).length_le
  have h2 : (Ls.take (i + 1)).flatten.length = (Ls.take i).flatten.length + L.length := by
    rw [take_more h, List.flatten_append, List.length_append]
    simp
  have h3 : (Ls.take (i + 1)).flatten.length ≤ Ls.flatten.length := by
    have : Ls.flatten = (Ls.take (i + 1)).flatten ++ (Ls.drop (i + 1)).flatten := by
      rw [← List.flatten_append, List.take_append_drop]
    rw [this, List.length_append]
    omega
  omega

/-- the cells aimed at; none from off the board -/
def aimedM (s kind c : Nat) (st : Int → Bool) : List Int := if c = s * s then [] else aimedL s kind c st
def spAimed (K : PySem.W.Frag) (CB : Addr) : Sp := fun vs H Q _ => ∃ (ba pp : Addr) (s kind c : Nat) (xs : List Int), vs = [.ref ba, .int kind, .int c, .ref pp] ∧ BoardAt CB H ba s ∧ s ∈ sizes ∧ kind ∈ kinds ∧ c ≤ s * s ∧ SqT K H pp (xs.map V.int) ∧
  ∀ H' q, Same H H' → H q = none → H' q = some (.lst ((aimedM s kind c fun z => decide (z ∈ xs)).map V.int)) → Q (.ref q) H'

section
variable {P : Program} {w : World} {K : PySem.W.Frag} {mg : Str → Option Value} {base : Heap}
abbrev sAimed : Stmt := topS 14
abbrev nAimed : List Str := ["board", "piece", "cell", "standing", "found", "line", "other"]
theorem scAimed : FnScope nAimed ["board", "piece", "cell", "standing"] (defScope sAimed) := ⟨rfl, rfl, rfl, by decide +kernel, rfl, by decide +kernel, by decide +kernel⟩
theorem ok_aimed {CB aS aA aL f : Addr} {fd : FuncData} (T : TxB K mg CB aS aA aL) (F : Fun K "aimed_at" "aimed_at" sAimed f fd) : FnOk P w K mg base CX0 1 f fd ["board", "piece", "cell", "standing"] (spAimed K CB) := by
  refine F.ok scAimed (fun vs H Q E h => ?_) (fun cdv A outer s0 H vs Q E hr h => ?_)
  · obtain ⟨ba, pp, s, kind, c, xs, rfl, _⟩ := h
    rfl
  have hu := hu_of hr
  refine ⟨_, pss_cons (ps_set (i := 4) scAimed.nd rfl (Or.inl rfl) (pe_lst pa_nil))
    (pss_cons (ps_if (pt_cmpR op_eq (pv 2) (pe_fld (pv 0) rfl) (nomark _)) (pss_one (ps_ret (pv 4))) pss_nil)
    (pss_cons (ps_for PassesOwn.never rfl (pi_list (pe_dget hu (pe_fld (pv 0) rfl) (pe_tup (pa_cons (pv 1) (pa_cons (pv 2) pa_nil))) (fun _ _ => rfl))) (pg_name (i := 5) scAimed.nd rfl (Or.inl rfl))
      (pss_one (ps_for PassesOwn.never rfl (pi_list (pv 5)) (pg_name (i := 6) scAimed.nd rfl (Or.inl rfl))
        (pss_cons (ps_expr (pe_bm PySem.F.plainAttrs_list PySem.F.slot_list_append PySem.F.type_list_append mt_append (pv 4) (pa_cons (pv 6) pa_nil)))
        (pss_one (ps_if (pt_cmpR op_in_seq (pv 6) (pv 3) rfl) (pss_one ps_break) pss_nil))))))
    (pss_one (ps_ret (pv 4))))), ?_⟩
  obtain ⟨ba, pp, s, kind, c, xs, rfl, hB, hs, hk, hc, hx, q⟩ := h
  refine ⟨line_le (n := 0) (by decide), fun D hD => ?_⟩
  have s1 : Same H (upd H D (.lst [])) := Same.upd hD
  have d1 : (upd H D (.lst [])) D = some (.lst []) := upd_same
  generalize upd H D (.lst []) = H1 at s1 d1
  obtain ⟨dx, bl, ld, kvs, k1, k2, k3, k4⟩ := hB.ex
  refine ⟨_, rfl, _, rfl, ba, CB, dx, _, _, rfl, s1 _ _ k1, T.cl, T.n2, bF_off s bl ld, rfl, _, rfl, ite2 (fun e => ?_) (fun e => ?_)⟩
  · have e' : c = s * s := by
      have := V.int.inj (of_decide_eq_true e)
      omega
    refine ⟨_, rfl, q _ D s1 hD ?_⟩
    unfold aimedM
    rw [if_pos e']
    exact d1
  have ne : c ≠ s * s := fun z => e (decide_eq_true (by rw [z]))
  have lt : c < s * s := by omega
  obtain ⟨r, r1, rs, R⟩ := k4 kind c hk lt
  refine ⟨_, rfl, ba, CB, dx, _, _, rfl, s1 _ _ k1, T.cl, T.n4, bF_lines s bl ld, _, rfl, _, rfl, line_le (n := 2) (by decide), fun t ht => ?_⟩
  have s2 : Same H1 (upd H1 t (.tup [.int kind, .int c])) := Same.upd ht
  have t2 : (upd H1 t (.tup [.int kind, .int c])) t = some (.tup ((lkey kind c).map kV)) := upd_same
  generalize upd H1 t (.tup [.int kind, .int c]) = H2 at s2 t2
  have g : DGet H2 ld (.ref t) (some (.ref r)) := by
    rw [← r1]
    exact DGet.t (s2 _ _ (s1 _ _ k3)) t2
  have hlen := (aimed_nodup (st := fun z => decide (z ∈ xs)) hs hk lt).2
  refine ⟨ld, _, rfl, g, r, rfl, ⟨_, SqL.of (s2 _ _ (s1 _ _ R.top))⟩, for_list (K := K) (a := r) (xs := rs.map V.ref)
    (fun i σ H' => (∃ v w, σ = [some (.ref ba), some (.int kind), some (.int c), some (.ref pp), some (.ref D), v, w]) ∧ Same H H' ∧ H' D = some (.lst ((((linesOf s kind c).take i).flatMap (takeTo fun z => decide (z ∈ xs))).map V.int)))
    ⟨⟨none, none, rfl⟩, s1.trans s2, s2 _ _ d1⟩ (fun i σ H' _ z => SqL.of (z.2.1 _ _ R.top)) ?_ ?_⟩
  · rintro i x σ H' hix ⟨⟨v, w, rfl⟩, z1, z3⟩
    obtain ⟨b, hb, rfl⟩ := get_map hix
    obtain ⟨L, hL⟩ := get_len R.len hb
    obtain ⟨b', hb', hq, nq⟩ := R.each i L hL
    cases hb.symm.trans hb'
    have al := aimed_len (st := fun z => decide (z ∈ xs)) hL
    refine ⟨_, rfl, b, rfl, ⟨_, SqL.of (z1 _ _ hq)⟩, for_list (K := K) (a := b) (xs := L.map V.int)
      (fun j σ H' => (∃ w, σ = [some (.ref ba), some (.int kind), some (.int c), some (.ref pp), some (.ref D), some (.ref b), w]) ∧ Same H H' ∧
        H' D = some (.lst (((((linesOf s kind c).take i).flatMap (takeTo fun z => decide (z ∈ xs))) ++ L.take j).map V.int)) ∧ ∀ (n : Nat) (z : Int), n < j → L[n]? = some z → decide (z ∈ xs) = false)
      ⟨⟨w, rfl⟩, z1, by rw [List.take_zero, List.append_nil]; exact z3, fun n z hn => absurd hn (Nat.not_lt_zero n)⟩ (fun j σ H' _ z => SqL.of (z.2.1 _ _ hq)) ?_ ?_⟩
    · rintro j x σ H2 hjx ⟨⟨w, rfl⟩, y1, y4, y5⟩
      obtain ⟨z, hz, rfl⟩ := get_map hjx
      have jl := (List.getElem?_eq_some_iff.mp hz).1
      refine ⟨_, rfl, Or.inl ⟨rfl, _, SqL.of y4⟩, _, rfl, D, _, _, rfl, rfl, y4, ?_, ?_⟩
      · rw [List.length_map, List.length_append, List.length_take]
        exact line_lt (by omega)
      have y1' : Same H (upd H2 D (.lst ((((((linesOf s kind c).take i).flatMap (takeTo fun z => decide (z ∈ xs))) ++ L.take j).map V.int) ++ [.int z]))) := Same.upd2 y1 hD
      have y4' : (upd H2 D (.lst ((((((linesOf s kind c).take i).flatMap (takeTo fun z => decide (z ∈ xs))) ++ L.take j).map V.int) ++ [.int z]))) D = some (.lst (((((linesOf s kind c).take i).flatMap (takeTo fun z => decide (z ∈ xs))) ++ L.take (j + 1)).map V.int)) := by
        rw [upd_same, take_more hz, ← List.append_assoc, List.map_append (l₂ := [z])]
        rfl
      generalize upd H2 D (.lst ((((((linesOf s kind c).take i).flatMap (takeTo fun z => decide (z ∈ xs))) ++ L.take j).map V.int) ++ [.int z])) = H3 at y1' y4'
      refine ⟨_, rfl, _, rfl, pp, _, rfl, .inr (Same.sqt y1' hx), rfl, flat_ints xs, _, rfl, ?_⟩
      rw [inV_int]
      refine ite2 (fun e => ?_) (fun e => ?_)
      · refine ⟨⟨_, _, rfl⟩, y1', ?_⟩
        rw [flatMap_take_succ hL, takeTo_break hz y5 e]
        exact y4'
      · refine ⟨⟨_, rfl⟩, y1', y4', fun n u hn hu => ?_⟩
        by_cases c : n = j
        · subst c
          cases hz.symm.trans hu
          simpa using e
        · exact y5 n u (by omega) hu
    · rintro σ H2 ⟨⟨w, rfl⟩, y1, y4, y5⟩
      refine ⟨⟨_, _, rfl⟩, y1, ?_⟩
      rw [flatMap_take_succ hL, takeTo_all fun n z hz => y5 n z (by rw [List.length_map]; exact (List.getElem?_eq_some_iff.mp hz).1) hz]
      rw [List.length_map, List.take_length] at y4
      exact y4
  · rintro σ H' ⟨⟨v, w, rfl⟩, z1, z3⟩
    refine ⟨_, rfl, q _ D z1 hD ?_⟩
    rw [List.length_map, R.len, List.take_length] at z3
    unfold aimedM
    rw [if_neg ne]
    exact z3
end
end Cw
end

section
set_option Elab.async false
set_option maxRecDepth 100000
set_option maxHeartbeats 4000000
/- The walk: positions. -/
namespace Cw
open PySem PySem.Spec PyProof.Rows L2 Ch
open PySem.W (Codec)
open Sn80 (Game stands check near whites blacks mate fair)
abbrev Ps := Sn80.Pos

/-! ## rules over a known K -/
theorem fldK {X : Cx} {K : PySem.W.Frag} {e : Expr} {f : Str} {pos : PySem.Pos} {ta : TE} (hK : X.K = K) (he : PE X e ta) (hb : attributeBase e f X.env (eval e X.env) = eval e X.env) : PE X (.Attribute e f pos) (tFld K ta f) := by
  subst hK
  exact pe_fld he hb

/-! ## len(set(xs)) -/
def distinct (ns : List Int) : Nat := (PyProof.Rows.firstMet (fun i => ns.getD i 0) ns.length).length
theorem firstMet_le (f : Nat → Int) : ∀ i, (PyProof.Rows.firstMet f i).length ≤ i
  | 0 => Nat.le_refl _
  | i + 1 => by
    have ih := firstMet_le f i
    rw [PyProof.Rows.firstMet_succ]
    unfold PyProof.Rows.step_dedup
    split
    · omega
    · rw [List.length_append, List.length_singleton]; omega
theorem firstMet_full {ns : List Int} : ∀ i, i ≤ ns.length → (PyProof.Rows.firstMet (fun i => ns.getD i 0) i).length = i → (ns.take i).Nodup
  | 0, _, _ => by rw [List.take_zero]; exact List.nodup_nil
  | i + 1, hi, h => by
    have lt : i < ns.length := hi
    have le := firstMet_le (fun i => ns.getD i 0) i
    rw [PyProof.Rows.firstMet_succ] at h
    unfold PyProof.Rows.step_dedup at h
    split at h
    · omega
    · rename_i c
      rw [List.length_append, List.length_singleton] at h
      have nd := firstMet_full (ns := ns) i (by omega) (by omega)
      have e : PyProof.Rows.firstMet (fun i => ns.getD i 0) i = ns.take i := by
        have := RZ.firstMet_nodup (ns := ns.take i) nd i (by rw [List.length_take]; omega)
        rw [List.take_take, Nat.min_self] at this
        rw [← this]
        have cg : ∀ j, j ≤ i → PyProof.Rows.firstMet (fun i => ns.getD i 0) j = PyProof.Rows.firstMet (fun k => (ns.take i).getD k 0) j := by
          intro j
          induction j with
          | zero => intro _; rfl
          | succ j ih =>
            intro hj
            have q : ns.getD j 0 = (ns.take i).getD j 0 := by
              rw [List.getD_eq_getElem?_getD, List.getD_eq_getElem?_getD, List.getElem?_take_of_lt (by omega)]
            rw [PyProof.Rows.firstMet_succ, PyProof.Rows.firstMet_succ, ih (by omega)]
            show (if (PyProof.Rows.firstMet (fun k => (ns.take i).getD k 0) j).any (· == ns.getD j 0) then _ else _ ++ [ns.getD j 0]) = _
            rw [q]
            rfl
        exact cg i (Nat.le_refl _)
      rw [take_more (List.getElem?_eq_getElem lt)]
      refine nodup_snoc nd fun m => c ?_
      rw [e, List.any_eq_true]
      refine ⟨_, m, ?_⟩
      rw [List.getD_eq_getElem?_getD, List.getElem?_eq_getElem lt]
      simp
theorem distinct_all (ns : List Int) : decide (distinct ns = ns.length) = decide (ns.Nodup) := by
  refine b_eq ?_
  rw [decide_eq_true_eq, decide_eq_true_eq]
  constructor
  · intro h
    have := firstMet_full ns.length (Nat.le_refl _) h
    rwa [List.take_length] at this
  · intro h
    unfold distinct
    rw [RZ.firstMet_nodup h ns.length (Nat.le_refl _), List.take_length]
def tLenSet (K : PySem.W.Frag) (ta : TE) : TE := fun σ H Q => ta σ H fun x H1 => ∃ (l : Addr) (ns : List Int), x = .ref l ∧ SqL K H1 l (ns.map V.int) ∧ ns.length ≤ 4000 ∧ Q (.int (distinct ns : Nat)) H1
/-- a set made of a list of ints, then its length -/
theorem set_len {X : Cx} {pins : List (Addr × Obj)} {σ : L2.St} {J : Hp} {t : Shared} {Q : VK} {R : Value → Shared → Prop} {b : Addr} {zs : List Int} (I : Inv X pins σ J t) (calm : X.calm = true) (hb : SqL X.K J b (zs.map V.int)) (few : zs.length ≤ 4000)
    (q : Q (.int (distinct zs : Nat)) J) (k : ∀ u t', wpAny (model X.prog X.w) X.A (call (.builtin "len") [u]) (EP X pins σ Q) X.xe t' → R u t') : wpAny (model X.prog X.w) X.A (call (.type "set") [.ref b]) R X.xe t := by
  obtain ⟨vs, hv, hp, _⟩ := I.list hb
  have size : vs.toArray.size = zs.length := by
    have := hv.length
    rw [List.length_map] at this
    rw [List.size_toArray, this]
  have upto : vs.toArray.size ≤ 4000 := by rw [size]; exact few
  refine call_set_list (I.ok.hd calm) hp.isList (by simpa using RZ.intsAre_vals hv) (by unfold scanBound; omega) fun g n made kept => k _ _ ?_
  rw [size] at made
  obtain ⟨ob, es, ep, tk, at_, exact_, data_, _, _, _, full, count⟩ := made
  have J2 : Inv X pins σ J { t with heap := g, toks := n } := I.kept fun c u e => kept c u (Heap.lt_size e) e
  have few2 := Nat.le_trans (firstMet_le (fun i => zs.getD i 0) zs.length) few
  exact call_len_set at_ exact_ data_ full (by rw [count]; omega) ⟨.int (distinct zs : Nat), J, J2.tok _, ⟨_, by rw [count]; rfl⟩, q⟩
theorem pe_lenSetX {X : Cx} {e : Expr} {te : TE} {n1 n2 c1 c2 : PySem.Pos} (l1 : Gl X "len") (l2 : X.mg "len" = none) (s1 : Gl X "set") (s2 : X.mg "set" = none) (he : PE X e te) (calm : X.calm = true := by rfl)
    (one : starEach [e] X.env = (false, eval e X.env) :: starEach [] X.env := by rfl) : PE X (.Call (.Name "len" n1) [.Call (.Name "set" n2) [e] [] c1] [] c2) (tLenSet X.K te) where
  run pins s σ H Q I h := Call_ (ld_blt I l1 l2 boot_len (PyProof.Rows.callWith_builtin1 (PyProof.Rows.args_cons (Call_ (ld_blt I s1 s2 PyProof.Rows.boot_set (PyProof.Rows.callWith_type1
    (PyProof.Rows.args_cons (thn (he.run pins s σ H _ I h) fun v t ⟨x, J, IJ, rx, b, zs, ex, hb, few, q⟩ => PyProof.Rows.args_nil (by
      subst ex
      cases rx
      exact set_len IJ calm hb few q fun u t' w => PyProof.Rows.args_nil w)) one) one rfl))) rfl) rfl rfl))

/-! ## tables by position -/
def kp (p : Ps) : List Key := [.inl (p.wk : Int), .inl (p.bk : Int), .inl (p.a : Int), .inl (p.b : Int)]
theorem kp_inj {p q : Ps} (h : kp p = kp q) : p = q := by
  unfold kp at h
  simp only [List.cons.injEq, Sum.inl.injEq, and_true] at h
  obtain ⟨h1, h2, h3, h4⟩ := h
  exact pos_ext (by omega) (by omega) (by omega) (by omega)
abbrev vN (n : Nat) : V := .int (n : Int)
def enc {α : Type} (f : α → V) (l : List (Ps × α)) : List (List Key × V) := l.map fun e => (kp e.1, f e.2)
def encB (l : List (Ps × Bool)) : List (List Key × V) := enc V.bl l
def encN (l : List (Ps × Nat)) : List (List Key × V) := enc vN l
def encI (l : List (Ps × Int)) : List (List Key × V) := enc V.int l
section
variable {α : Type} (f : α → V)
theorem enc_len (l : List (Ps × α)) : (enc f l).length = l.length := List.length_map _
theorem valV_enc (p : Ps) : ∀ l : List (Ps × α), valV (enc f l) (kp p) = (look l p).map f
  | [] => rfl
  | e :: r => by
    have ih := valV_enc p r
    show valV ((kp e.1, f e.2) :: enc f r) (kp p) = _
    by_cases c : e.1 = p
    · rw [valV_pos (p := (kp e.1, f e.2)) (by rw [c]), look_pos c]
      rfl
    · rw [valV_neg (p := (kp e.1, f e.2)) (fun z => c (kp_inj z)), look_neg c, ih]
theorem putK_enc (l : List (Ps × α)) (p : Ps) (v : α) : putK (enc f l) (kp p) (f v) = enc f (put l p v) := by
  unfold putK put
  have e : ((enc f l).any fun kv => decide (kv.1 = kp p)) = l.any fun e => decide (e.1 = p) := by
    rw [valV_any, valV_enc, look_any]
    cases look l p <;> rfl
  rw [e]
  by_cases c : (l.any fun e => decide (e.1 = p)) = true
  · rw [if_pos c, if_pos c]
    unfold enc
    rw [List.map_map, List.map_map]
    refine List.map_congr_left fun x _ => ?_
    show (if kp x.1 = kp p then (kp x.1, f v) else (kp x.1, f x.2)) = (kp (if x.1 = p then (x.1, v) else x).1, f (if x.1 = p then (x.1, v) else x).2)
    by_cases d : x.1 = p
    · rw [if_pos (by rw [d]), if_pos d]
    · rw [if_neg (fun z => d (kp_inj z)), if_neg d]
  · rw [if_neg c, if_neg c]
    unfold enc
    rw [List.map_append]
    rfl
end

/-! ## the game's object -/
structure GA where
  ga : Addr
  dx : Addr
  ba : Addr
  ld : Addr
  pa : Addr
  ca : Addr
  wa : Addr
  la : Addr
  fa : Addr
def gF (G : GA) : List (Str × V) := [("board", .ref G.ba), ("pieces", .ref G.pa), ("checks", .ref G.ca), ("wins", .ref G.wa), ("loses", .ref G.la), ("left", .ref G.fa)]
theorem gF_board (G : GA) : (gF G).lookup ("board" : Str) = some (.ref G.ba) := lk_here
theorem gF_pieces (G : GA) : (gF G).lookup ("pieces" : Str) = some (.ref G.pa) := (lk_past (by decide +kernel)).trans lk_here
theorem gF_checks (G : GA) : (gF G).lookup ("checks" : Str) = some (.ref G.ca) := (lk_past (by decide +kernel)).trans ((lk_past (by decide +kernel)).trans lk_here)
theorem gF_wins (G : GA) : (gF G).lookup ("wins" : Str) = some (.ref G.wa) := (lk_past (by decide +kernel)).trans ((lk_past (by decide +kernel)).trans ((lk_past (by decide +kernel)).trans lk_here))
theorem gF_loses (G : GA) : (gF G).lookup ("loses" : Str) = some (.ref G.la) := (lk_past (by decide +kernel)).trans ((lk_past (by decide +kernel)).trans ((lk_past (by decide +kernel)).trans ((lk_past (by decide +kernel)).trans lk_here)))
theorem gF_left (G : GA) : (gF G).lookup ("left" : Str) = some (.ref G.fa) := (lk_past (by decide +kernel)).trans ((lk_past (by decide +kernel)).trans ((lk_past (by decide +kernel)).trans ((lk_past (by decide +kernel)).trans ((lk_past (by decide +kernel)).trans lk_here))))
/-- the board, its table of lines at ld -/
structure BoardL (CB : Addr) (H : Hp) (ba : Addr) (s : Nat) (ld : Addr) : Prop where
  ex : ∃ dx bl kvs, H ba = some (.ins CB dx (bF s bl ld)) ∧ LinesAt H bl (besL s) ∧ H ld = some (.dT kvs) ∧
    ∀ kind c, kind ∈ kinds → c < s * s → ∃ r, valV kvs (lkey kind c) = some (.ref r) ∧ LinesAt H r (linesOf s kind c)
theorem BoardL.at_ {CB : Addr} {H : Hp} {ba : Addr} {s : Nat} {ld : Addr} (h : BoardL CB H ba s ld) : BoardAt CB H ba s := by
  obtain ⟨dx, bl, kvs, h1, h2, h3, h4⟩ := h.ex
  exact ⟨dx, bl, ld, kvs, h1, h2, h3, h4⟩
theorem BoardAt.l {CB : Addr} {H : Hp} {ba : Addr} {s : Nat} (h : BoardAt CB H ba s) : ∃ ld, BoardL CB H ba s ld := by
  obtain ⟨dx, bl, ld, kvs, h1, h2, h3, h4⟩ := h.ex
  exact ⟨ld, dx, bl, kvs, h1, h2, h3, h4⟩
theorem BoardL.same {CB : Addr} {H H' : Hp} {ba : Addr} {s : Nat} {ld : Addr} (h : BoardL CB H ba s ld) (e : Same H H') : BoardL CB H' ba s ld := by
  obtain ⟨dx, bl, kvs, h1, h2, h3, h4⟩ := h.ex
  refine ⟨dx, bl, kvs, e _ _ h1, h2.same e, e _ _ h3, fun kind c hk hc => ?_⟩
  obtain ⟨r, e1, e2⟩ := h4 kind c hk hc
  exact ⟨r, e1, e2.same e⟩
/-- d holds a table by positions, standing or locked -/
def IsT (H : Hp) (d : Addr) : Prop := ∃ kvs, H d = some (.dT kvs) ∨ ∃ o, H d = some (.frz o (.dT kvs))
theorem IsT.ne {H : Hp} {d b : Addr} {o : HO} (h : IsT H d) (e : H b = some o) (n1 : ∀ kvs, o ≠ .dT kvs) (n2 : ∀ u kvs, o ≠ .frz u (.dT kvs)) : b ≠ d := fun z => by
  subst z
  obtain ⟨kvs, z | ⟨u, z⟩⟩ := h
  · rw [e] at z; exact n1 _ (Option.some.inj z)
  · rw [e] at z; exact n2 _ _ (Option.some.inj z)
theorem BoardL.but {CB : Addr} {H H' : Hp} {ba : Addr} {s : Nat} {ld d : Addr} (h : BoardL CB H ba s ld) (k : But d H H') (t : IsT H d) (ne : ld ≠ d) : BoardL CB H' ba s ld := by
  obtain ⟨dx, bl, kvs, h1, h2, h3, h4⟩ := h.ex
  have nl : ∀ xs, H d ≠ some (.lst xs) := fun xs e => (t.ne e (fun _ z => nomatch z) (fun _ _ z => nomatch z)) rfl
  refine ⟨dx, bl, kvs, k _ _ h1 (t.ne h1 (fun _ z => nomatch z) (fun _ _ z => nomatch z)), h2.but k nl, k _ _ h3 ne, fun kind c hk hc => ?_⟩
  obtain ⟨r, e1, e2⟩ := h4 kind c hk hc
  exact ⟨r, e1, e2.but k nl⟩
structure Apart (G : GA) : Prop where
  cw : G.ca ≠ G.wa
  cl : G.ca ≠ G.la
  cf : G.ca ≠ G.fa
  wl : G.wa ≠ G.la
  wf : G.wa ≠ G.fa
  lf : G.la ≠ G.fa
  dc : G.ld ≠ G.ca
  dw : G.ld ≠ G.wa
  dl : G.ld ≠ G.la
  df : G.ld ≠ G.fa
structure GameAt (CG CB : Addr) (G : GA) (g : Game) (H : Hp) : Prop where
  top : H G.ga = some (.ins CG G.dx (gF G))
  pieces : H G.pa = some (.tup [.int g.a, .int g.b])
  board : BoardL CB H G.ba g.s G.ld
  apart : Apart G
theorem GameAt.same {CG CB : Addr} {G : GA} {g : Game} {H H' : Hp} (h : GameAt CG CB G g H) (e : Same H H') : GameAt CG CB G g H' := ⟨e _ _ h.top, e _ _ h.pieces, h.board.same e, h.apart⟩
theorem GameAt.but {CG CB : Addr} {G : GA} {g : Game} {H H' : Hp} {d : Addr} (h : GameAt CG CB G g H) (k : But d H H') (t : IsT H d) (ne : G.ld ≠ d) : GameAt CG CB G g H' :=
  ⟨k _ _ h.top (t.ne h.top (fun _ z => nomatch z) (fun _ _ z => nomatch z)), k _ _ h.pieces (t.ne h.pieces (fun _ z => nomatch z) (fun _ _ z => nomatch z)), h.board.but k t ne, h.apart⟩
/-- what the top has of games -/
structure TxG (K : PySem.W.Frag) (mg : Str → Option Value) (CG : Addr) : Prop where
  cl : Cls K CG
  n1 : NoAttr K CG "board"
  n2 : NoAttr K CG "pieces"
  n3 : NoAttr K CG "checks"
  n4 : NoAttr K CG "wins"
  n5 : NoAttr K CG "loses"
  n6 : NoAttr K CG "left"
  g0 : ∃ t, mg "NONE" = some (.int 0 t)
  mlen : mg "len" = none
  mset : mg "set" = none
  mlist : mg "list" = none
/-! ## promises -/
def TupAt (H : Hp) (q : Addr) (p : Ps) : Prop := H q = some (.tup ((posL p).map V.int))
def spPos (CG CB : Addr) : Sp := fun vs H Q _ => ∃ (G : GA) (g : Game) (q : Addr) (p : Ps), vs = [.ref G.ga, .ref q] ∧ GameAt CG CB G g H ∧ Fits g ∧ TupAt H q p ∧ In g p ∧ (g.b = 0 → p.b = g.cells) ∧
  ∀ H', Same H H' → Q (.bl (stands g p)) H'
def spPlaces (CG CB : Addr) : Sp := fun vs H Q _ => ∃ (G : GA) (g : Game) (kind : Nat), vs = [.ref G.ga, .int kind] ∧ GameAt CG CB G g H ∧ Fits g ∧
  ∀ H' q, Same H H' → H q = none → H' q = some (.lst ((placesL g kind).map vN)) → Q (.ref q) H'
def spIsAimed (CG CB : Addr) : Sp := fun vs H Q _ => ∃ (G : GA) (g : Game) (q : Addr) (p : Ps), vs = [.ref G.ga, .ref q] ∧ GameAt CG CB G g H ∧ Fits g ∧ TupAt H q p ∧ St g p ∧
  ∀ H', Same H H' → Q (.bl (check g p)) H'
theorem cells_le {g : Game} (F : Fits g) : g.s * g.s ≤ 25 ∧ 9 ≤ g.s * g.s := by
  have := sizes_of F.s
  rcases this with e | e | e <;> rw [e] <;> decide
section
variable {P : Program} {w : World} {K : PySem.W.Frag} {mg : Str → Option Value} {base : Heap} {CG CB aS aA aL : Addr}
abbrev sPos : Stmt := topS 17
abbrev nPos : List Str := ["game", "position", "wk", "bk", "a", "b", "standing", "cell"]
theorem scPos : FnScope nPos ["game", "position"] (defScope sPos) := ⟨rfl, rfl, rfl, by decide +kernel, rfl, by decide +kernel, by decide +kernel⟩
/-- the cells beside one, out of the board -/
theorem beside_get {H : Hp} {ba ld : Addr} {s c : Nat} (B : BoardL CB H ba s ld) (hc : c < s * s) : ∃ (dx bl : Addr) (rs : List Addr) (r : Addr), H ba = some (.ins CB dx (bF s bl ld)) ∧ H bl = some (.lst (rs.map V.ref)) ∧ atI (rs.map V.ref) (c : Int) = some (.ref r) ∧ H r = some (.lst (((besideN s c).map Int.ofNat).map V.int)) := by
  obtain ⟨dx, bl, kvs, h1, ⟨rs, R⟩, h3, h4⟩ := B.ex
  have hb : (besL s)[c]? = some ((besideN s c).map Int.ofNat) := by
    unfold besL
    rw [List.getElem?_map, List.getElem?_range hc]
    rfl
  obtain ⟨r, e1, e2, _⟩ := R.each c _ hb
  exact ⟨dx, bl, rs, r, h1, R.top, atI_nat (by rw [List.getElem?_map, e1]; rfl), e2⟩
theorem ok_pos {f : Addr} {fd : FuncData} (TB : TxB K mg CB aS aA aL) (T : TxG K mg CG) (F : Fun K "is_position" "is_position" sPos f fd) : FnOk P w K mg base CX0 1 f fd ["game", "position"] (spPos CG CB) := by
  refine F.ok scPos (fun vs H Q E h => ?_) (fun cdv A outer s0 H vs Q E hr h => ?_)
  · obtain ⟨G, g, q, p, rfl, _⟩ := h
    rfl
  refine ⟨_, pss_cons (ps_asg (pv 1) (pg_tup rfl (pgs_cons (pg_name (i := 2) scPos.nd rfl (Or.inl rfl)) (pgs_cons (pg_name (i := 3) scPos.nd rfl (Or.inl rfl)) (pgs_cons (pg_name (i := 4) scPos.nd rfl (Or.inl rfl)) (pgs_cons (pg_name (i := 5) scPos.nd rfl (Or.inl rfl)) pgs_nil))))))
    (pss_cons (ps_if (pw_or (pt_cmpR op_eq (pv 2) (pv 3) (nomark _)) (pw_or1 (pt_cmpR op_in_seq (pv 3) (pe_ix ix_list (pe_fld (pe_fld (pv 0) rfl) rfl) (pv 2) (fun _ _ => rfl)) rfl))).pt (pss_one (ps_ret pe_bl)) pss_nil)
    (pss_cons (ps_setLc (i := 6) (own := [("cell", 7)]) (g := gName 7) rfl scPos.nd rfl rfl (sw_true rfl rfl rfl (by decide +kernel)) (pi_tup (pv 1)) (blkOk_by (N := nPos) (sc := defScope sPos) (by decide +kernel))
      (fun _ _ _ _ _ => pg_name (i := 7) scPos.nd rfl (Or.inl rfl)) (fun _ _ _ _ _ => pts_one (pt_cmpR op_ne (pv 7) (fldK (K := K) rfl (fldK (K := K) rfl (pv 0) rfl) rfl) (nomark _))) (fun _ _ _ _ _ => pv 7))
    (pss_one (ps_ret (pe_cmpR op_eq (pe_lenSetX rfl T.mlen rfl T.mset (pv 6)) (pe_callB call_len_seq (by rfl) T.mlen boot_len (pa_cons (pv 6) pa_nil)) (nomark _)))))), ?_⟩
  obtain ⟨G, g, q, p, rfl, hG, hF, hq, hi, hb, k⟩ := h
  obtain ⟨dx, bl, rs, r, h1, h2, h3, h4⟩ := beside_get hG.board hi.wk
  refine ⟨_, rfl, q, _, rfl, SqT.of hq, rfl, _, _, rfl, _, _, rfl, _, _, rfl, _, _, rfl, rfl, ?_⟩
  refine ⟨_, rfl, _, rfl, rfl, _, rfl, ite2 (fun e => ?_) (fun e => ?_)⟩
  · have e' : p.wk = p.bk := by
      have := V.int.inj (of_decide_eq_true e)
      omega
    have := k H (Same.refl H)
    have z : stands g p = false := by
      cases c : stands g p with
      | false => rfl
      | true => exact absurd e' (stands_iff.mp c).ne
    rw [z] at this
    exact this
  have ne : p.wk ≠ p.bk := fun z => e (decide_eq_true (by rw [z]))
  refine ⟨_, rfl, _, rfl, G.ga, CG, G.dx, _, _, rfl, hG.top, T.cl, T.n1, gF_board G, G.ba, CB, dx, _, _, rfl, h1, TB.cl, TB.n3, bF_beside g.s bl G.ld, _, rfl, bl, _, _, _, rfl, rfl, SqL.of h2, h3, r, _, rfl, .inl (SqL.of h4), rfl, flat_ints _, _, rfl, ?_⟩
  rw [inV_int, beside_mem hi.bk]
  refine ite2 (fun e2 => ?_) (fun e2 => ?_)
  · have := k H (Same.refl H)
    have e2 : near g.s p.wk p.bk = true := e2
    have z : stands g p = false := by
      cases c : stands g p with
      | false => rfl
      | true =>
        have := (stands_iff.mp c).nn
        rw [e2] at this
        cases this
    rw [z] at this
    exact this
  have nr : near g.s p.wk p.bk = false := by
    cases c : near g.s p.wk p.bk with
    | false => rfl
    | true => exact absurd c e2
  refine ⟨_, rfl, q, rfl, ⟨_, SqT.of hq⟩, fun D hD => lc_tup (K := K) (a := q) (xs := (posL p).map V.int) (fun i H' => Same H H' ∧ H' D = some (.lst ((((posL p).take i).filter fun z => !decide (z = (g.cells : Int))).map V.int))) ⟨Same.upd hD, upd_same⟩ (fun i H' _ z => SqT.of (z.1 _ _ hq)) ?_ ?_⟩
  · rintro i x H' hx ⟨z1, z2⟩
    obtain ⟨z, hz, rfl⟩ := get_map hx
    refine ⟨rfl, _, rfl, _, rfl, G.ga, CG, G.dx, _, _, rfl, z1 _ _ hG.top, T.cl, T.n1, gF_board G, G.ba, CB, dx, _, _, rfl, z1 _ _ h1, TB.cl, TB.n2, bF_off g.s bl G.ld, rfl, _, rfl, ?_⟩
    rw [dec_int, Bool.beq_eq_decide_eq]
    have len : ∀ i, (((posL p).take i).filter fun z => !decide (z = (g.cells : Int))).length ≤ 4 := fun i => filter_len _ _ _
    refine ite2 (fun c => ?_) (fun c => ?_)
    · refine ⟨_, rfl, _, z2, ?_, Same.upd2 z1 hD, ?_⟩
      · rw [List.length_map]
        have := len i
        exact line_lt (by omega)
      · rw [upd_same, take_pos (fun z => !decide (z = (g.cells : Int))) hz c, List.map_append]
        rfl
    · refine ⟨z1, ?_⟩
      rw [z2, take_neg (fun z => !decide (z = (g.cells : Int))) hz c]
  · rintro H' ⟨z1, z2⟩
    have z2 : H' D = some (.lst ((standL g p).map V.int)) := z2
    have len := standL_len g p
    refine ⟨_, rfl, D, _, rfl, SqL.of z2, by omega, _, rfl, D, _, rfl, .inl (SqL.of z2), rfl, ?_⟩
    rw [dec_int, Bool.beq_eq_decide_eq, List.length_map]
    have e1 : decide (((distinct (standL g p) : Nat) : Int) = (((standL g p).length : Nat) : Int)) = stands g p := by
      rw [stands_by hi hb ne nr, ← distinct_all]
      refine b_eq ?_
      rw [decide_eq_true_eq, decide_eq_true_eq]
      omega
    rw [e1]
    exact k H' z1
end
end Cw
end

section
set_option Elab.async false
set_option maxRecDepth 100000
set_option maxHeartbeats 4000000
/- The walk: all positions of a game. -/
namespace Cw
open PySem PySem.Spec PyProof.Rows L2 Ch
open PySem.W (Codec)
open Sn80 (Game stands check near whites blacks mate fair)

theorem rgV_map (n : Nat) : rgV 0 ((n : Int) + 1) = (List.range (n + 1)).map vN := by
  unfold rgV
  have e : ((n : Int) + 1 - 0).toNat = n + 1 := by omega
  rw [e]
  refine List.map_congr_left fun i _ => ?_
  rw [Int.zero_add]
theorem b_of {b : Bool} (h : ¬ b = true) : b = false := by
  cases b
  · rfl
  · exact absurd rfl h
theorem aimedM_mem {g : Game} {kind c y : Nat} (hc : c ≤ g.cells) (st : Int → Bool) : decide ((y : Int) ∈ aimedM g.s kind c st) = (decide (c < g.cells) && decide ((y : Int) ∈ aimedL g.s kind c st)) := by
  unfold aimedM
  by_cases e : c = g.cells
  · have e' : c = g.s * g.s := e
    rw [if_pos e', decide_eq_false (by omega : ¬ c < g.cells), Bool.false_and]
    simp
  · have e' : ¬ c = g.s * g.s := e
    rw [if_neg e', decide_eq_true (by omega : c < g.cells), Bool.true_and]

section
variable {P : Program} {w : World} {K : PySem.W.Frag} {mg : Str → Option Value} {base : Heap} {CG CB aS aA aL : Addr}
abbrev sPlaces : Stmt := topS 18
abbrev nPlaces : List Str := ["game", "piece"]
theorem scPlaces : FnScope nPlaces ["game", "piece"] (defScope sPlaces) := ⟨rfl, rfl, rfl, by decide +kernel, rfl, by decide +kernel, by decide +kernel⟩
theorem ok_places {f : Addr} {fd : FuncData} (TB : TxB K mg CB aS aA aL) (T : TxG K mg CG) (F : Fun K "places_of" "places_of" sPlaces f fd) : FnOk P w K mg base CX0 1 f fd ["game", "piece"] (spPlaces CG CB) := by
  obtain ⟨t0, q0⟩ := T.g0
  refine F.ok scPlaces (fun vs H Q E h => ?_) (fun cdv A outer s0 H vs Q E hr h => ?_)
  · obtain ⟨G, g, kind, rfl, _⟩ := h
    rfl
  refine ⟨_, pss_cons (ps_if (pt_cmpR op_eq (pv 1) (pe_glob (v := .int 0) rfl q0 ⟨_, rfl⟩) (nomark _)) (pss_one (ps_ret (pe_lst (pa_cons (pe_fld (pe_fld (pv 0) rfl) rfl) pa_nil)))) pss_nil)
    (pss_one (ps_ret (pe_listRg rfl rfl T.mlist (prg_1 rfl TB.mr (pe_op op_add (pe_fld (pe_fld (pv 0) rfl) rfl) pe_int))))), ?_⟩
  obtain ⟨G, g, kind, rfl, hG, hF, k⟩ := h
  obtain ⟨dx, bl, kvs, h1, _⟩ := hG.board.ex
  have cl := cells_le hF
  refine ⟨_, rfl, rfl, _, rfl, ite2 (fun e => ?_) (fun e => ?_)⟩
  · have e' : kind = 0 := by
      have := V.int.inj (of_decide_eq_true e)
      omega
    refine ⟨_, rfl, G.ga, CG, G.dx, _, _, rfl, hG.top, T.cl, T.n1, gF_board G, G.ba, CB, dx, _, _, rfl, h1, TB.cl, TB.n2, bF_off g.s bl G.ld, line_le (n := 1) (by decide), fun D hD => ?_⟩
    refine k _ D (Same.upd hD) hD ?_
    rw [upd_same]
    unfold placesL
    rw [if_pos e']
    rfl
  · have e' : ¬ kind = 0 := fun z => e (decide_eq_true (by rw [z]; rfl))
    refine ⟨_, rfl, G.ga, CG, G.dx, _, _, rfl, hG.top, T.cl, T.n1, gF_board G, G.ba, CB, dx, _, _, rfl, h1, TB.cl, TB.n2, bF_off g.s bl G.ld, _, _, rfl, rfl, _, rfl, RgOk.of_le (by omega) (by omega) (by omega) (by omega), fun D hD => ?_⟩
    refine k _ D (Same.upd hD) hD ?_
    rw [upd_same, rgV_map]
    unfold placesL
    rw [if_neg e']
    rfl

abbrev sIsAimed : Stmt := topS 19
abbrev nIsAimed : List Str := ["game", "position", "wk", "bk", "a", "b", "piece", "cell"]
theorem scIsAimed : FnScope nIsAimed ["game", "position"] (defScope sIsAimed) := ⟨rfl, rfl, rfl, by decide +kernel, rfl, by decide +kernel, by decide +kernel⟩
theorem ok_isAimed {f f1 : Addr} {fd fd1 : FuncData} (TB : TxB K mg CB aS aA aL) (T : TxG K mg CG) (F : Fun K "is_aimed_at" "is_aimed_at" sIsAimed f fd)
    (F1 : Fun K "aimed_at" "aimed_at" sAimed f1 fd1) (g1 : mg "aimed_at" = some (.ref f1)) (b1 : Binds K fd1 ["board", "piece", "cell", "standing"] []) : FnOk P w K mg base CX0 2 f fd ["game", "position"] (spIsAimed CG CB) := by
  have G1 : FnOk P w K mg base CX0 1 f1 fd1 ["board", "piece", "cell", "standing"] (spAimed K CB) := ok_aimed TB F1
  obtain ⟨t0, q0⟩ := T.g0
  refine F.ok scIsAimed (fun vs H Q E h => ?_) (fun cdv A outer s0 H vs Q E hr h => ?_)
  · obtain ⟨G, g, q, p, rfl, _⟩ := h
    rfl
  refine ⟨_, pss_cons (ps_asg (pv 1) (pg_tup rfl (pgs_cons (pg_name (i := 2) scIsAimed.nd rfl (Or.inl rfl)) (pgs_cons (pg_name (i := 3) scIsAimed.nd rfl (Or.inl rfl)) (pgs_cons (pg_name (i := 4) scIsAimed.nd rfl (Or.inl rfl)) (pgs_cons (pg_name (i := 5) scIsAimed.nd rfl (Or.inl rfl)) pgs_nil))))))
    (pss_cons (ps_if (pt_cmpR op_in_seq (pv 3) (pe_ix ix_list (pe_fld (pe_fld (pv 0) rfl) rfl) (pv 2) (fun _ _ => rfl)) rfl) (pss_one (ps_ret pe_bl)) pss_nil)
    (pss_cons (ps_for PassesOwn.never rfl (pi_tup (pe_tup (pa_cons (pe_tup (pa_cons (pe_ix ix_tup (pe_fld (pv 0) rfl) pe_int (fun _ _ => rfl)) (pa_cons (pv 4) pa_nil))) (pa_cons (pe_tup (pa_cons (pe_ix ix_tup (pe_fld (pv 0) rfl) pe_int (fun _ _ => rfl)) (pa_cons (pv 5) pa_nil))) pa_nil))))
        (pg_tup rfl (pgs_cons (pg_name (i := 6) scIsAimed.nd rfl (Or.inl rfl)) (pgs_cons (pg_name (i := 7) scIsAimed.nd rfl (Or.inl rfl)) pgs_nil)))
      (pss_one (ps_if (PW.pt (pw_and (pt_cmpR op_ne (pv 6) (pe_glob (v := .int 0) rfl q0 ⟨_, rfl⟩) (nomark _)) (pw_and1 (pt_cmpR op_in_seq (pv 3) (pe_call G1 hr rfl g1 F1.kp b1 .nil pass0 (pa_cons (pe_fld (pv 0) rfl) (pa_cons (pv 6) (pa_cons (pv 7) (pa_cons (pv 1) pa_nil))))) rfl))))
        (pss_one (ps_ret pe_bl)) pss_nil)))
    (pss_one (ps_ret pe_bl)))), ?_⟩
  obtain ⟨G, g, q, p, rfl, hG, hF, hq, hp, k⟩ := h
  obtain ⟨dx, bl, rs, r, h1, h2, h3, h4⟩ := beside_get hG.board hp.wk
  have ck := check_by hF hp
  have eA := aimedM_mem (g := g) (kind := g.a) (c := p.a) (y := p.bk) hp.a (fun z => decide (z ∈ posL p))
  have eB := aimedM_mem (g := g) (kind := g.b) (c := p.b) (y := p.bk) hp.b (fun z => decide (z ∈ posL p))
  rw [← eA, ← eB] at ck
  refine ⟨_, rfl, q, _, rfl, SqT.of hq, rfl, _, _, rfl, _, _, rfl, _, _, rfl, _, _, rfl, rfl, ?_⟩
  refine ⟨_, rfl, _, rfl, G.ga, CG, G.dx, _, _, rfl, hG.top, T.cl, T.n1, gF_board G, G.ba, CB, dx, _, _, rfl, h1, TB.cl, TB.n3, bF_beside g.s bl G.ld, _, rfl, bl, _, _, _, rfl, rfl, SqL.of h2, h3, r, _, rfl, .inl (SqL.of h4), rfl, flat_ints _, _, rfl, ?_⟩
  rw [inV_int, beside_mem hp.bk, hp.nn]
  refine ite2 (fun e => by cases e) (fun _ => ?_)
  -- the two pieces
  refine ⟨_, rfl, G.ga, CG, G.dx, _, _, rfl, hG.top, T.cl, T.n2, gF_pieces G, G.pa, _, 0, _, rfl, rfl, SqT.of hG.pieces, rfl, _, rfl, line_le (n := 2) (by decide), fun t1 ht1 => ?_⟩
  have s1 : Same H (upd H t1 (.tup [.int g.a, .int p.a])) := Same.upd ht1
  have d1 : (upd H t1 (.tup [.int g.a, .int p.a])) t1 = some (.tup [.int g.a, .int p.a]) := upd_same
  generalize upd H t1 (.tup [.int g.a, .int p.a]) = H1 at s1 d1
  refine ⟨_, rfl, G.ga, CG, G.dx, _, _, rfl, s1 _ _ hG.top, T.cl, T.n2, gF_pieces G, G.pa, _, 1, _, rfl, rfl, SqT.of (s1 _ _ hG.pieces), rfl, _, rfl, line_le (n := 2) (by decide), fun t2 ht2 => ?_⟩
  have s2 : Same H1 (upd H1 t2 (.tup [.int g.b, .int p.b])) := Same.upd ht2
  have d2 : (upd H1 t2 (.tup [.int g.b, .int p.b])) t2 = some (.tup [.int g.b, .int p.b]) := upd_same
  generalize upd H1 t2 (.tup [.int g.b, .int p.b]) = H2 at s2 d2
  refine ⟨line_le (n := 2) (by decide), fun t3 ht3 => ?_⟩
  have s3 : Same H2 (upd H2 t3 (.tup [.ref t1, .ref t2])) := Same.upd ht3
  have d3 : (upd H2 t3 (.tup [.ref t1, .ref t2])) t3 = some (.tup [.ref t1, .ref t2]) := upd_same
  generalize upd H2 t3 (.tup [.ref t1, .ref t2]) = H3 at s3 d3
  have sH : Same H H3 := (s1.trans s2).trans s3
  have e1 : H3 t1 = some (.tup [.int g.a, .int p.a]) := s3 _ _ (s2 _ _ d1)
  have e2 : H3 t2 = some (.tup [.int g.b, .int p.b]) := s3 _ _ d2
  refine ⟨t3, rfl, ⟨_, SqT.of d3⟩, for_tup (K := K) (a := t3) (xs := [.ref t1, .ref t2])
    (fun i σ H' => (∃ v u, σ = [some (.ref G.ga), some (.ref q), some (.int p.wk), some (.int p.bk), some (.int p.a), some (.int p.b), v, u]) ∧ Same H3 H' ∧
      (1 ≤ i → decide ((p.bk : Int) ∈ aimedM g.s g.a p.a fun z => decide (z ∈ posL p)) = false) ∧ (2 ≤ i → (decide (g.b ≠ 0) && decide ((p.bk : Int) ∈ aimedM g.s g.b p.b fun z => decide (z ∈ posL p))) = false))
    ⟨⟨none, none, rfl⟩, Same.refl _, fun z => absurd z (by decide), fun z => absurd z (by decide)⟩ (fun i σ H' _ z => SqT.of (z.2.1 _ _ d3)) ?_ ?_⟩
  · rintro i x σ H' hx ⟨⟨v, u, rfl⟩, z1, z2, z3⟩
    match i, hx with
    | 0, hx =>
      have ex : V.ref t1 = x := by simpa using hx
      subst ex
      refine ⟨t1, _, rfl, SqT.of (z1 _ _ e1), rfl, _, _, rfl, _, _, rfl, rfl, ?_⟩
      refine ⟨_, rfl, rfl, _, rfl, ite2 (fun c => ?_) (fun c => ?_)⟩
      · refine ⟨_, rfl, _, rfl, G.ga, CG, G.dx, _, _, rfl, z1 _ _ (sH _ _ hG.top), T.cl, T.n1, gF_board G, _, rfl, _, rfl, _, rfl, ?_⟩
        refine ⟨G.ba, q, g.s, g.a, p.a, posL p, rfl, ((hG.same sH).same z1).board.at_, hF.s, kinds_of hF.a1 hF.a4, hp.a, SqT.of (z1 _ _ (sH _ _ hq)), fun H4 l w1 w2 w3 => ?_⟩
        refine ⟨l, _, rfl, .inl (SqL.of w3), rfl, flat_ints _, _, rfl, ?_⟩
        rw [inV_int]
        refine ite2 (fun m => ?_) (fun m => ?_)
        · have := k H4 ((sH.trans z1).trans w1)
          rw [ck, show decide ((p.bk : Int) ∈ aimedM g.s g.a p.a fun z => decide (z ∈ posL p)) = true from m, Bool.true_or] at this
          exact this
        · refine ⟨⟨_, _, rfl⟩, z1.trans w1, fun _ => b_of m, fun z => absurd z (by decide)⟩
      · exfalso
        refine c ?_
        have := hF.a1
        have nz : ¬ V.int (g.a : Int) = V.int 0 := fun z => by
          have := V.int.inj z
          omega
        show (!decide (V.int (g.a : Int) = V.int 0)) = true
        rw [decide_eq_false nz]
        rfl
    | 1, hx =>
      have ex : V.ref t2 = x := by simpa using hx
      subst ex
      refine ⟨t2, _, rfl, SqT.of (z1 _ _ e2), rfl, _, _, rfl, _, _, rfl, rfl, ?_⟩
      refine ⟨_, rfl, rfl, _, rfl, ite2 (fun c => ?_) (fun c => ?_)⟩
      · have nb : g.b ≠ 0 := fun z => by
          have c : (!decide (V.int (g.b : Int) = V.int 0)) = true := c
          rw [z] at c
          cases c
        refine ⟨_, rfl, _, rfl, G.ga, CG, G.dx, _, _, rfl, z1 _ _ (sH _ _ hG.top), T.cl, T.n1, gF_board G, _, rfl, _, rfl, _, rfl, ?_⟩
        refine ⟨G.ba, q, g.s, g.b, p.b, posL p, rfl, ((hG.same sH).same z1).board.at_, hF.s, kinds_of (by omega) hF.b4, hp.b, SqT.of (z1 _ _ (sH _ _ hq)), fun H4 l w1 w2 w3 => ?_⟩
        refine ⟨l, _, rfl, .inl (SqL.of w3), rfl, flat_ints _, _, rfl, ?_⟩
        rw [inV_int]
        refine ite2 (fun m => ?_) (fun m => ?_)
        · have := k H4 ((sH.trans z1).trans w1)
          rw [ck, show decide ((p.bk : Int) ∈ aimedM g.s g.b p.b fun z => decide (z ∈ posL p)) = true from m, decide_eq_true nb, Bool.true_and, Bool.or_true] at this
          exact this
        · refine ⟨⟨_, _, rfl⟩, z1.trans w1, fun _ => z2 (by decide), fun _ => ?_⟩
          rw [show decide ((p.bk : Int) ∈ aimedM g.s g.b p.b fun z => decide (z ∈ posL p)) = false from b_of m, Bool.and_false]
      · have nb : g.b = 0 := Classical.byContradiction fun z => c (by
          have nz : ¬ V.int (g.b : Int) = V.int 0 := fun y => by
            have := V.int.inj y
            omega
          show (!decide (V.int (g.b : Int) = V.int 0)) = true
          rw [decide_eq_false nz]
          rfl)
        refine ⟨⟨_, _, rfl⟩, z1, fun _ => z2 (by decide), fun _ => ?_⟩
        rw [decide_eq_false (fun z => z nb), Bool.false_and]
    | i + 2, hx => simp at hx
  · rintro σ H' ⟨⟨v, u, rfl⟩, z1, z2, z3⟩
    have := k H' (sH.trans z1)
    rw [ck, z2 (by show 1 ≤ 2; decide), z3 (by show 2 ≤ 2; decide), Bool.false_or] at this
    exact this
end
end Cw
end

section
set_option Elab.async false
set_option maxRecDepth 100000
set_option maxHeartbeats 4000000
/- The walk: all positions of a game, told. -/
namespace Cw
open PySem PySem.Spec PyProof.Rows L2 Ch
open PySem.W (Codec)
open Sn80 (Game stands check near whites blacks mate fair)

theorem But.of_same {d : Addr} {H H' : Hp} (s : Same H H') : But d H H' := fun b o e _ => s b o e
theorem But.trans {d : Addr} {H H1 H2 : Hp} (a : But d H H1) (b : But d H1 H2) : But d H H2 := fun c o e n => b c o (a c o e n) n
theorem But.upd {d : Addr} {H H' : Hp} {o : HO} (a : But d H H') : But d H (L2.upd H' d o) := fun c u e n => by
  rw [upd_ne n]
  exact a c u e n
theorem But.sql {K : PySem.W.Frag} {d a : Addr} {H H' : Hp} {xs : List V} (k : But d H H') (h : H a = some (.lst xs)) (t : IsT H d) : SqL K H' a xs :=
  SqL.of (k _ _ h (t.ne h (fun _ z => nomatch z) (fun _ _ z => nomatch z)))
theorem IsT.of {H : Hp} {d : Addr} {kvs : List (List Key × V)} (h : H d = some (.dT kvs)) : IsT H d := ⟨kvs, .inl h⟩
theorem foldl_snoc {α β : Type} (f : β → α → β) (b : β) {l : List α} {i : Nat} {x : α} (h : l[i]? = some x) : (l.take (i + 1)).foldl f b = f ((l.take i).foldl f b) x := by
  rw [take_more h, List.foldl_append]
  rfl
theorem chk_foldB {g : Game} {wk bk a : Nat} (l : List Nat) {cs : List (Ps × Bool)} (h : ∃ S, Chk g cs S) : ∃ S, Chk g (l.foldl (stepB g wk bk a) cs) S :=
  let ⟨S, c⟩ := h; ⟨_, Chk_fold l (fun b _ cs S h => Chk_B b cs S h) cs S c⟩
theorem chk_foldA {g : Game} {wk bk : Nat} (l : List Nat) {cs : List (Ps × Bool)} (h : ∃ S, Chk g cs S) : ∃ S, Chk g (l.foldl (stepA g wk bk) cs) S :=
  let ⟨S, c⟩ := h; ⟨_, Chk_fold l (fun b _ cs S h => Chk_A b cs S h) cs S c⟩
theorem chk_foldK {g : Game} {wk : Nat} (l : List Nat) {cs : List (Ps × Bool)} (h : ∃ S, Chk g cs S) : ∃ S, Chk g (l.foldl (stepK g wk) cs) S :=
  let ⟨S, c⟩ := h; ⟨_, Chk_fold l (fun b _ cs S h => Chk_K b cs S h) cs S c⟩
theorem chk_foldW {g : Game} (l : List Nat) {cs : List (Ps × Bool)} (h : ∃ S, Chk g cs S) : ∃ S, Chk g (l.foldl (stepW g) cs) S :=
  let ⟨S, c⟩ := h; ⟨_, Chk_fold l (fun b _ cs S h => Chk_W b cs S h) cs S c⟩
theorem places_mem {g : Game} {kind n : Nat} (h : n ∈ placesL g kind) : n ≤ g.cells ∧ (kind = 0 → n = g.cells) := by
  unfold placesL at h
  by_cases c : kind = 0
  · rw [if_pos c, List.mem_singleton] at h
    exact ⟨by omega, fun _ => h⟩
  · rw [if_neg c] at h
    have := List.mem_range.mp h
    exact ⟨by omega, fun z => absurd z c⟩

def spKings (CG CB : Addr) : Sp := fun vs H Q _ => ∃ (G : GA) (g : Game) (wk bk : Nat) (cs : List (Ps × Bool)), vs = [.ref G.ga, .int wk, .int bk] ∧ GameAt CG CB G g H ∧ Fits g ∧ H G.ca = some (.dT (encB cs)) ∧ (∃ S, Chk g cs S) ∧ wk < g.cells ∧ bk < g.cells ∧ wk ≠ bk ∧ near g.s wk bk = false ∧
  ∀ H', But G.ca H H' → H' G.ca = some (.dT (encB (withKings g wk bk cs))) → Q .non H'
def spAll (CG CB : Addr) : Sp := fun vs H Q _ => ∃ (G : GA) (g : Game), vs = [.ref G.ga] ∧ GameAt CG CB G g H ∧ Fits g ∧ H G.ca = some (.dT []) ∧
  ∀ H', But G.ca H H' → H' G.ca = some (.dT (encB (checksM g))) → Q .non H'
section
variable {P : Program} {w : World} {K : PySem.W.Frag} {mg : Str → Option Value} {base : Heap} {CG CB aS aA aL : Addr}
/-- the defs that find positions -/
structure FnP (K : PySem.W.Frag) (mg : Str → Option Value) (f1 f2 f3 f4 f5 : Addr) (fd1 fd2 fd3 fd4 fd5 : FuncData) : Prop where
  F1 : Fun K "aimed_at" "aimed_at" sAimed f1 fd1
  g1 : mg "aimed_at" = some (.ref f1)
  b1 : Binds K fd1 ["board", "piece", "cell", "standing"] []
  F2 : Fun K "is_position" "is_position" sPos f2 fd2
  g2 : mg "is_position" = some (.ref f2)
  b2 : Binds K fd2 ["game", "position"] []
  F3 : Fun K "places_of" "places_of" sPlaces f3 fd3
  g3 : mg "places_of" = some (.ref f3)
  b3 : Binds K fd3 ["game", "piece"] []
  F4 : Fun K "is_aimed_at" "is_aimed_at" sIsAimed f4 fd4
  g4 : mg "is_aimed_at" = some (.ref f4)
  b4 : Binds K fd4 ["game", "position"] []
  F5 : Fun K "find_with_kings" "find_with_kings" (topS 21) f5 fd5
  g5 : mg "find_with_kings" = some (.ref f5)
  b5 : Binds K fd5 ["game", "wk", "bk"] []
abbrev sKings : Stmt := topS 21
abbrev nKings : List Str := ["game", "wk", "bk", "a", "b", "position"]
theorem scKings : FnScope nKings ["game", "wk", "bk"] (defScope sKings) := ⟨rfl, rfl, rfl, by decide +kernel, rfl, by decide +kernel, by decide +kernel⟩
theorem ok_kings {f1 f2 f3 f4 f5 : Addr} {fd1 fd2 fd3 fd4 fd5 : FuncData} (TB : TxB K mg CB aS aA aL) (T : TxG K mg CG) (N : FnP K mg f1 f2 f3 f4 f5 fd1 fd2 fd3 fd4 fd5) : FnOk P w K mg base CX0 3 f5 fd5 ["game", "wk", "bk"] (spKings CG CB) := by
  have G2 : FnOk P w K mg base CX0 1 f2 fd2 ["game", "position"] (spPos CG CB) := ok_pos TB T N.F2
  have G3 : FnOk P w K mg base CX0 1 f3 fd3 ["game", "piece"] (spPlaces CG CB) := ok_places TB T N.F3
  have G4 : FnOk P w K mg base CX0 2 f4 fd4 ["game", "position"] (spIsAimed CG CB) := ok_isAimed TB T N.F4 N.F1 N.g1 N.b1
  refine N.F5.ok scKings (fun vs H Q E h => ?_) (fun cdv A outer s0 H vs Q E hr h => ?_)
  · obtain ⟨G, g, wk, bk, cs, rfl, _⟩ := h
    rfl
  have hu := hu_of hr
  have hr1 : Room 1 _ := hr.mono (by decide)
  refine ⟨_, pss_one (ps_for PassesOwn.never rfl (pi_list (pe_call G3 hr1 rfl N.g3 N.F3.kp N.b3 .nil pass0 (pa_cons (pv 0) (pa_cons (pe_ix ix_tup (pe_fld (pv 0) rfl) pe_int (fun _ _ => rfl)) pa_nil)))) (pg_name (i := 3) scKings.nd rfl (Or.inl rfl))
    (pss_one (ps_for PassesOwn.never rfl (pi_list (pe_call G3 hr1 rfl N.g3 N.F3.kp N.b3 .nil pass0 (pa_cons (pv 0) (pa_cons (pe_ix ix_tup (pe_fld (pv 0) rfl) pe_int (fun _ _ => rfl)) pa_nil)))) (pg_name (i := 4) scKings.nd rfl (Or.inl rfl))
      (pss_cons (ps_set (i := 5) scKings.nd rfl (Or.inl rfl) (pe_tup (pa_cons (pv 1) (pa_cons (pv 2) (pa_cons (pv 3) (pa_cons (pv 4) pa_nil))))))
      (pss_one (ps_if (pt_val (pe_call G2 hr1 rfl N.g2 N.F2.kp N.b2 .nil pass0 (pa_cons (pv 0) (pa_cons (pv 5) pa_nil))))
        (pss_one (ps_dput hu (pe_fld (pv 0) rfl) (pv 5) (pe_call G4 hr rfl N.g4 N.F4.kp N.b4 .nil pass0 (pa_cons (pv 0) (pa_cons (pv 5) pa_nil))) rfl)) pss_nil)))))), ?_⟩
  obtain ⟨G, g, wk, bk, cs, rfl, hG, hF, hc, hC, hwk, hbk, hne, hnr, k⟩ := h
  have ap := hG.apart
  refine ⟨_, rfl, _, rfl, G.ga, CG, G.dx, _, _, rfl, hG.top, T.cl, T.n2, gF_pieces G, G.pa, _, 0, _, rfl, rfl, SqT.of hG.pieces, rfl, ?_⟩
  refine ⟨G, g, g.a, rfl, hG, hF, fun H1 l1 s1 n1 e1 => ?_⟩
  have c1 := s1 _ _ hc
  refine ⟨l1, rfl, ⟨_, SqL.of e1⟩, for_list (K := K) (a := l1) (xs := (placesL g g.a).map vN)
    (fun i σ H' => (∃ v u t, σ = [some (.ref G.ga), some (.int wk), some (.int bk), v, u, t]) ∧ But G.ca H1 H' ∧ H' G.ca = some (.dT (encB (((placesL g g.a).take i).foldl (stepA g wk bk) cs))))
    ⟨⟨none, none, none, rfl⟩, But.of_same (Same.refl _), c1⟩ (fun i σ H' _ z => z.2.1.sql e1 (IsT.of c1)) ?_ ?_⟩
  · rintro i x σ H2 hx ⟨⟨v, u, t, rfl⟩, z1, z2⟩
    obtain ⟨a, ha, rfl⟩ := get_map hx
    have am := places_mem (List.mem_of_getElem? ha)
    have g2 : GameAt CG CB G g H2 := (hG.same s1).but z1 (IsT.of c1) ap.dc
    refine ⟨_, rfl, _, rfl, G.ga, CG, G.dx, _, _, rfl, g2.top, T.cl, T.n2, gF_pieces G, G.pa, _, 1, _, rfl, rfl, SqT.of g2.pieces, rfl, ?_⟩
    refine ⟨G, g, g.b, rfl, g2, hF, fun H3 l3 s3 n3 e3 => ?_⟩
    have c3 := s3 _ _ z2
    have cf := chk_foldA (wk := wk) (bk := bk) ((placesL g g.a).take i) hC
    have stepI := foldl_snoc (stepA g wk bk) cs ha
    generalize ((placesL g g.a).take i).foldl (stepA g wk bk) cs = ci at z2 c3 cf stepI
    refine ⟨l3, rfl, ⟨_, SqL.of e3⟩, for_list (K := K) (a := l3) (xs := (placesL g g.b).map vN)
      (fun j σ H' => (∃ u t, σ = [some (.ref G.ga), some (.int wk), some (.int bk), some (.int a), u, t]) ∧ But G.ca H3 H' ∧ H' G.ca = some (.dT (encB (((placesL g g.b).take j).foldl (stepB g wk bk a) ci))))
      ⟨⟨_, _, rfl⟩, But.of_same (Same.refl _), c3⟩ (fun j σ H' _ z => z.2.1.sql e3 (IsT.of c3)) ?_ ?_⟩
    · rintro j x σ H4 hx ⟨⟨u, t, rfl⟩, y1, y2⟩
      obtain ⟨b, hb, rfl⟩ := get_map hx
      have bm := places_mem (List.mem_of_getElem? hb)
      have g4 : GameAt CG CB G g H4 := (g2.same s3).but y1 (IsT.of c3) ap.dc
      have cfj := chk_foldB (wk := wk) (bk := bk) (a := a) ((placesL g g.b).take j) cf
      have step := foldl_snoc (stepB g wk bk a) ci hb
      generalize ((placesL g g.b).take j).foldl (stepB g wk bk a) ci = cj at y2 cfj step
      refine ⟨_, rfl, _, rfl, _, rfl, _, rfl, line_le (n := 4) (by decide), fun p5 hp5 => ?_⟩
      have s5 : Same H4 (upd H4 p5 (.tup [.int wk, .int bk, .int a, .int b])) := Same.upd hp5
      have d5 : TupAt (upd H4 p5 (.tup [.int wk, .int bk, .int a, .int b])) p5 ⟨wk, bk, a, b⟩ := upd_same
      generalize upd H4 p5 (.tup [.int wk, .int bk, .int a, .int b]) = H5 at s5 d5
      refine ⟨_, rfl, _, rfl, G, g, p5, ⟨wk, bk, a, b⟩, rfl, g4.same s5, hF, d5, ⟨hwk, hbk, am.1, bm.1⟩, fun z => bm.2 z, fun H6 s6 => ⟨_, rfl, ite2 (fun c => ?_) (fun c => ?_)⟩⟩
      · have sp := stands_iff.mp c
        have d6 := s6 _ _ d5
        refine ⟨_, rfl, _, rfl, G, g, p5, ⟨wk, bk, a, b⟩, rfl, (g4.same s5).same s6, hF, d6, sp, fun H7 s7 => ?_⟩
        have g7 := ((g4.same s5).same s6).same s7
        have c7 := s7 _ _ (s6 _ _ (s5 _ _ y2))
        obtain ⟨S, cS⟩ := cfj
        refine ⟨_, rfl, G.ga, CG, G.dx, _, _, rfl, g7.top, T.cl, T.n3, gF_checks G, _, rfl, G.ca, _, rfl, DPut.t (k := kp ⟨wk, bk, a, b⟩) c7 (s7 _ _ d6) ?_, ?_⟩
        · unfold encB
          rw [enc_len]
          exact line_lt (by have := cS.cap hF; omega)
        · refine ⟨⟨_, _, rfl⟩, ((y1.trans (But.of_same s5)).trans ((But.of_same s6).trans (But.of_same s7))).upd, ?_⟩
          rw [upd_same, step]
          unfold stepB stepP
          rw [if_pos c]
          unfold encB
          rw [putK_enc]
      · refine ⟨⟨_, _, rfl⟩, (y1.trans (But.of_same s5)).trans (But.of_same s6), ?_⟩
        rw [step]
        unfold stepB stepP
        rw [if_neg c]
        exact s6 _ _ (s5 _ _ y2)
    · rintro σ H4 ⟨⟨u, t, rfl⟩, y1, y2⟩
      rw [List.length_map, List.take_length] at y2
      refine ⟨⟨_, _, _, rfl⟩, z1.trans ((But.of_same s3).trans y1), ?_⟩
      rw [stepI]
      exact y2
  · rintro σ H2 ⟨⟨v, u, t, rfl⟩, z1, z2⟩
    rw [List.length_map, List.take_length] at z2
    exact k H2 ((But.of_same s1).trans z1) z2

abbrev sAll : Stmt := topS 20
abbrev nAll : List Str := ["game", "wk", "bk"]
theorem scAll : FnScope nAll ["game"] (defScope sAll) := ⟨rfl, rfl, rfl, by decide +kernel, rfl, by decide +kernel, by decide +kernel⟩
theorem ok_all {f f1 f2 f3 f4 f5 : Addr} {fd fd1 fd2 fd3 fd4 fd5 : FuncData} (TB : TxB K mg CB aS aA aL) (T : TxG K mg CG) (N : FnP K mg f1 f2 f3 f4 f5 fd1 fd2 fd3 fd4 fd5) (F : Fun K "find_positions" "find_positions" sAll f fd) : FnOk P w K mg base CX0 4 f fd ["game"] (spAll CG CB) := by
  have G5 : FnOk P w K mg base CX0 3 f5 fd5 ["game", "wk", "bk"] (spKings CG CB) := ok_kings TB T N
  refine F.ok scAll (fun vs H Q E h => ?_) (fun cdv A outer s0 H vs Q E hr h => ?_)
  · obtain ⟨G, g, rfl, _⟩ := h
    rfl
  refine ⟨_, pss_one (ps_for PassesOwn.never rfl (pi_range1 rfl TB.mr (pa_cons (pe_fld (pe_fld (pv 0) rfl) rfl) pa_nil)) (pg_name (i := 1) scAll.nd rfl (Or.inl rfl))
    (pss_one (ps_for PassesOwn.never rfl (pi_range1 rfl TB.mr (pa_cons (pe_fld (pe_fld (pv 0) rfl) rfl) pa_nil)) (pg_name (i := 2) scAll.nd rfl (Or.inl rfl))
      (pss_one (ps_if (PW.pt (pw_and (pt_cmpR op_ne (pv 1) (pv 2) (nomark _)) (pw_and1 (pt_cmpR op_notIn_seq (pv 2) (pe_ix ix_list (pe_fld (pe_fld (pv 0) rfl) rfl) (pv 1) (fun _ _ => rfl)) rfl))))
        (pss_one (ps_expr (pe_call G5 hr rfl N.g5 N.F5.kp N.b5 .nil pass0 (pa_cons (pv 0) (pa_cons (pv 1) (pa_cons (pv 2) pa_nil)))))) pss_nil))))), ?_⟩
  obtain ⟨G, g, rfl, hG, hF, hc, k⟩ := h
  have ap := hG.apart
  have cl := cells_le hF
  obtain ⟨dx, bl, kvs, h1, _⟩ := hG.board.ex
  have cb : -(2 ^ 62) ≤ (((g.s * g.s : Nat)) : Int) ∧ (((g.s * g.s : Nat)) : Int) < 2 ^ 62 := ⟨by omega, by omega⟩
  refine ⟨_, rfl, G.ga, CG, G.dx, _, _, rfl, hG.top, T.cl, T.n1, gF_board G, G.ba, CB, dx, _, _, rfl, h1, TB.cl, TB.n2, bF_off g.s bl G.ld, _, rfl, cb.1, cb.2, for_range (lo := 0) (n := g.cells)
    (fun i σ H' => (∃ v u, σ = [some (.ref G.ga), v, u]) ∧ But G.ca H H' ∧ H' G.ca = some (.dT (encB ((List.range i).foldl (stepW g) [])))) ⟨⟨none, none, rfl⟩, But.of_same (Same.refl _), hc⟩ ?_ ?_⟩
  · rintro i σ H2 hi ⟨⟨v, u, rfl⟩, z1, z2⟩
    rw [show (0 : Int) + (i : Int) = (i : Int) from Int.zero_add _]
    have g2 : GameAt CG CB G g H2 := hG.but z1 (IsT.of hc) ap.dc
    obtain ⟨dx2, bl2, kvs2, h2, _⟩ := g2.board.ex
    have cf := chk_foldW (g := g) (List.range i) ⟨_, Chk_nil g⟩
    have stepI : (List.range (i + 1)).foldl (stepW g) [] = stepW g ((List.range i).foldl (stepW g) []) i := by
      rw [List.range_succ, List.foldl_append]
      rfl
    generalize (List.range i).foldl (stepW g) [] = ci at z2 cf stepI
    refine ⟨_, rfl, G.ga, CG, G.dx, _, _, rfl, g2.top, T.cl, T.n1, gF_board G, G.ba, CB, dx2, _, _, rfl, h2, TB.cl, TB.n2, bF_off g.s bl2 G.ld, _, rfl, cb.1, cb.2, for_range (lo := 0) (n := g.cells)
      (fun j σ H' => (∃ u, σ = [some (.ref G.ga), some (.int i), u]) ∧ But G.ca H2 H' ∧ H' G.ca = some (.dT (encB ((List.range j).foldl (stepK g i) ci)))) ⟨⟨_, rfl⟩, But.of_same (Same.refl _), z2⟩ ?_ ?_⟩
    · rintro j σ H3 hj ⟨⟨u, rfl⟩, y1, y2⟩
      rw [show (0 : Int) + (j : Int) = (j : Int) from Int.zero_add _]
      have g3 : GameAt CG CB G g H3 := g2.but y1 (IsT.of z2) ap.dc
      obtain ⟨dx3, bl3, rs, r, b1, b2, b3, b4⟩ := beside_get g3.board hi
      have cfj := chk_foldK (wk := i) (List.range j) cf
      have stepJ : (List.range (j + 1)).foldl (stepK g i) ci = stepK g i ((List.range j).foldl (stepK g i) ci) j := by
        rw [List.range_succ, List.foldl_append]
        rfl
      generalize (List.range j).foldl (stepK g i) ci = cj at y2 cfj stepJ
      have no : ¬ (i ≠ j ∧ near g.s i j = false) → (∃ u, ([some (V.ref G.ga), some (V.int i), some (V.int j)] : L2.St) = [some (.ref G.ga), some (.int i), u]) ∧ But G.ca H2 H3 ∧ H3 G.ca = some (.dT (encB ((List.range (j + 1)).foldl (stepK g i) ci))) := fun c => by
        refine ⟨⟨_, rfl⟩, y1, ?_⟩
        rw [stepJ]
        unfold Ch.stepK
        rw [if_neg c]
        exact y2
      refine ⟨_, rfl, _, rfl, rfl, _, rfl, ite2 (fun c => ?_) (fun c => ?_)⟩
      · have c : (!decide (V.int (i : Int) = V.int (j : Int))) = true := c
        rw [dec_int, Bool.not_eq_true', beq_eq_false_iff_ne] at c
        have ne : i ≠ j := fun z => c (by rw [z])
        refine ⟨_, rfl, _, rfl, G.ga, CG, G.dx, _, _, rfl, g3.top, T.cl, T.n1, gF_board G, G.ba, CB, dx3, _, _, rfl, b1, TB.cl, TB.n3, bF_beside g.s bl3 G.ld, _, rfl, bl3, _, _, _, rfl, rfl, SqL.of b2, b3, r, _, rfl, .inl (SqL.of b4), rfl, flat_ints _, _, rfl, ?_⟩
        rw [inV_int, beside_mem hj]
        refine ite2 (fun c2 => ?_) (fun c2 => ?_)
        · have nr : near g.s i j = false := by
            have c2 : (!near g.s i j) = true := c2
            simpa using c2
          refine ⟨_, rfl, _, rfl, _, rfl, G, g, i, j, cj, rfl, g3, hF, y2, cfj, hi, hj, ne, nr, fun H4 w1 w2 => ?_⟩
          refine ⟨⟨_, rfl⟩, y1.trans w1, ?_⟩
          rw [stepJ]
          unfold Ch.stepK
          rw [if_pos ⟨ne, nr⟩]
          exact w2
        · refine no fun z => c2 ?_
          show (!near g.s i j) = true
          rw [z.2]
          rfl
      · refine no fun z => c ?_
        show (!decide (V.int (i : Int) = V.int (j : Int))) = true
        rw [dec_int, Bool.not_eq_true', beq_eq_false_iff_ne]
        have := z.1
        omega
    · rintro σ H3 ⟨⟨u, rfl⟩, y1, y2⟩
      refine ⟨⟨_, _, rfl⟩, z1.trans y1, ?_⟩
      rw [stepI]
      exact y2
  · rintro σ H2 ⟨⟨v, u, rfl⟩, z1, z2⟩
    exact k H2 z1 z2
end
end Cw
end

section
set_option Elab.async false
set_option maxRecDepth 100000
set_option maxHeartbeats 4000000
/- The walk: moves. -/
namespace Cw
open PySem PySem.Spec PyProof.Rows L2 Ch
open PySem.W (Codec)
open Sn80 (Game stands check near whites blacks mate fair)

/-! ## the table of checks, read -/
def ChkRd (H : Hp) (G : GA) (g : Game) : Prop := Rd H G.ca (.dT (encB (checksM g)))
theorem Rd.same {H H' : Hp} {a : Addr} {o : HO} (h : Rd H a o) (s : Same H H') : Rd H' a o := by
  rcases h with h | ⟨u, h⟩
  · exact .inl (s _ _ h)
  · exact .inr ⟨u, s _ _ h⟩
theorem ChkRd.same {H H' : Hp} {G : GA} {g : Game} (h : ChkRd H G g) (s : Same H H') : ChkRd H' G g := Rd.same h s
theorem dget_t {H : Hp} {a b : Addr} {kvs : List (List Key × V)} {k : List Key} (h : Rd H a (.dT kvs)) (hb : H b = some (.tup (k.map kV))) : DGet H a (.ref b) (valV kvs k) := .inr ⟨kvs, k, b, h, rfl, hb, rfl⟩
def safeV (kvs : List (List Key × V)) (k : List Key) : Bool := match valV kvs k with
  | some (.bl b) => !b
  | _ => false
theorem enc_val {α : Type} (f : α → V) (k : List Key) : ∀ l : List (Ps × α), (∃ x, valV (enc f l) k = some (f x)) ∨ valV (enc f l) k = none
  | [] => .inr rfl
  | e :: r => by
    by_cases c : kp e.1 = k
    · exact .inl ⟨e.2, valV_pos (p := (kp e.1, f e.2)) c⟩
    · have q : valV (enc f (e :: r)) k = valV (enc f r) k := valV_neg (p := (kp e.1, f e.2)) c
      rw [q]
      exact enc_val f k r
theorem safe_fair {g : Game} (F : Fits g) (p : Ps) : safeV (encB (checksM g)) (kp p) = fair g p := by
  unfold safeV encB
  rw [valV_enc]
  cases e : look (checksM g) p with
  | none =>
    have := checks_some F (p := p)
    rw [e] at this
    unfold fair
    rw [← this]
    rfl
  | some v =>
    obtain ⟨h1, h2⟩ := (checks_look F).mp e
    unfold fair
    rw [stands_iff.mpr h1, h2]
    rfl
theorem in_stands {g : Game} (F : Fits g) (p : Ps) : (valV (encB (checksM g)) (kp p)).isSome = stands g p := by
  unfold encB
  rw [valV_enc, ← checks_some F]
  cases look (checksM g) p <;> rfl

/-! ## lists of positions, of moves -/
structure PosR (H : Hp) (l : Addr) (rs : List Addr) (ps : List Ps) : Prop where
  top : H l = some (.lst (rs.map V.ref))
  len : rs.length = ps.length
  each : ∀ (i : Nat) (p : Ps), ps[i]? = some p → ∃ r, rs[i]? = some r ∧ TupAt H r p
def PosList (H : Hp) (l : Addr) (ps : List Ps) : Prop := ∃ rs, PosR H l rs ps
theorem PosR.same {H H' : Hp} {l : Addr} {rs : List Addr} {ps : List Ps} (h : PosR H l rs ps) (s : Same H H') : PosR H' l rs ps :=
  ⟨s _ _ h.top, h.len, fun i p e => let ⟨r, e1, e2⟩ := h.each i p e; ⟨r, e1, s _ _ e2⟩⟩
theorem PosR.but {H H' : Hp} {l d : Addr} {rs : List Addr} {ps : List Ps} (h : PosR H l rs ps) (k : But d H H') (t : IsT H d) : PosR H' l rs ps :=
  ⟨k _ _ h.top (t.ne h.top (fun _ z => nomatch z) (fun _ _ z => nomatch z)), h.len, fun i p e => let ⟨r, e1, e2⟩ := h.each i p e; ⟨r, e1, k _ _ e2 (t.ne e2 (fun _ z => nomatch z) (fun _ _ z => nomatch z))⟩⟩
theorem PosList.nil {H : Hp} {l : Addr} (h : H l = some (.lst [])) : PosList H l [] := ⟨[], h, rfl, fun i p e => by cases e⟩
theorem PosR.snoc {H : Hp} {l r : Addr} {rs : List Addr} {ps : List Ps} {p : Ps} (h : PosR H l rs ps) (hr : TupAt H r p) : PosList (upd H l (.lst (rs.map V.ref ++ [V.ref r]))) l (ps ++ [p]) := by
  have nt : ∀ t q, TupAt H t q → t ≠ l := fun t q e z => by
    unfold TupAt at e
    rw [z, h.top] at e
    cases e
  refine ⟨rs ++ [r], ?_, ?_, fun i q e => ?_⟩
  · rw [upd_same, List.map_append]
    rfl
  · rw [List.length_append, List.length_append, h.len]
    rfl
  · rcases get_snoc e with z | ⟨z1, z2⟩
    · obtain ⟨t, e1, e2⟩ := h.each i q z
      refine ⟨t, by rw [List.getElem?_append_left ((List.getElem?_eq_some_iff.mp e1).1)]; exact e1, ?_⟩
      unfold TupAt
      rw [upd_ne (nt t q e2)]
      exact e2
    · subst z1 z2
      refine ⟨r, by rw [← h.len, List.getElem?_append_right (Nat.le_refl _), Nat.sub_self]; rfl, ?_⟩
      unfold TupAt
      rw [upd_ne (nt r q hr)]
      exact hr
def MovAt (H : Hp) (r : Addr) (m : Nat × Nat × Ps) : Prop := ∃ t, H r = some (.tup [vN m.1, vN m.2.1, .ref t]) ∧ TupAt H t m.2.2
structure MovR (H : Hp) (l : Addr) (rs : List Addr) (ms : List (Nat × Nat × Ps)) : Prop where
  top : H l = some (.lst (rs.map V.ref))
  len : rs.length = ms.length
  each : ∀ (i : Nat) (m : Nat × Nat × Ps), ms[i]? = some m → ∃ r, rs[i]? = some r ∧ MovAt H r m
def MovList (H : Hp) (l : Addr) (ms : List (Nat × Nat × Ps)) : Prop := ∃ rs, MovR H l rs ms
theorem MovAt.same {H H' : Hp} {r : Addr} {m : Nat × Nat × Ps} (h : MovAt H r m) (s : Same H H') : MovAt H' r m := let ⟨t, e1, e2⟩ := h; ⟨t, s _ _ e1, s _ _ e2⟩
theorem MovR.same {H H' : Hp} {l : Addr} {rs : List Addr} {ms : List (Nat × Nat × Ps)} (h : MovR H l rs ms) (s : Same H H') : MovR H' l rs ms :=
  ⟨s _ _ h.top, h.len, fun i p e => let ⟨r, e1, e2⟩ := h.each i p e; ⟨r, e1, e2.same s⟩⟩
theorem MovList.same {H H' : Hp} {l : Addr} {ms : List (Nat × Nat × Ps)} (h : MovList H l ms) (s : Same H H') : MovList H' l ms := let ⟨rs, r⟩ := h; ⟨rs, r.same s⟩
theorem MovList.nil {H : Hp} {l : Addr} (h : H l = some (.lst [])) : MovList H l [] := ⟨[], h, rfl, fun i p e => by cases e⟩
theorem MovR.snoc {H : Hp} {l r : Addr} {rs : List Addr} {ms : List (Nat × Nat × Ps)} {m : Nat × Nat × Ps} (h : MovR H l rs ms) (hr : MovAt H r m) : MovList (upd H l (.lst (rs.map V.ref ++ [V.ref r]))) l (ms ++ [m]) := by
  have nt : ∀ t xs, H t = some (.tup xs) → t ≠ l := fun t xs e z => by
    rw [z, h.top] at e
    cases e
  have mv : ∀ t q, MovAt H t q → MovAt (upd H l (.lst (rs.map V.ref ++ [V.ref r]))) t q := fun t q e => by
    obtain ⟨u, e1, e2⟩ := e
    refine ⟨u, by rw [upd_ne (nt t _ e1)]; exact e1, ?_⟩
    unfold TupAt
    rw [upd_ne (nt u _ e2)]
    exact e2
  refine ⟨rs ++ [r], ?_, ?_, fun i q e => ?_⟩
  · rw [upd_same, List.map_append]
    rfl
  · rw [List.length_append, List.length_append, h.len]
    rfl
  · rcases get_snoc e with z | ⟨z1, z2⟩
    · obtain ⟨t, e1, e2⟩ := h.each i q z
      exact ⟨t, by rw [List.getElem?_append_left ((List.getElem?_eq_some_iff.mp e1).1)]; exact e1, mv t q e2⟩
    · subst z1 z2
      exact ⟨r, by rw [← h.len, List.getElem?_append_right (Nat.le_refl _), Nat.sub_self]; rfl, mv r _ hr⟩

/-! ## promises -/
def spSafe (CG CB : Addr) : Sp := fun vs H Q _ => ∃ (G : GA) (g : Game) (q : Addr) (k : List Key), vs = [.ref G.ga, .ref q] ∧ GameAt CG CB G g H ∧ ChkRd H G g ∧ H q = some (.tup (k.map kV)) ∧ Q (.bl (safeV (encB (checksM g)) k)) H
def spWithout (CG CB : Addr) : Sp := fun vs H Q _ => ∃ (G : GA) (g : Game) (c t : Nat), vs = [.ref G.ga, .int c, .int t] ∧ GameAt CG CB G g H ∧ Q (.int ((if c = t then g.cells else c : Nat) : Int)) H
def spBlack (CG CB : Addr) : Sp := fun vs H Q _ => ∃ (G : GA) (g : Game) (q : Addr) (p : Ps), vs = [.ref G.ga, .ref q] ∧ GameAt CG CB G g H ∧ Fits g ∧ ChkRd H G g ∧ TupAt H q p ∧ St g p ∧
  ∀ H' l, Same H H' → H l = none → PosList H' l (blacks g p) → Q (.ref l) H'
section
variable {P : Program} {w : World} {K : PySem.W.Frag} {mg : Str → Option Value} {base : Heap} {CG CB aS aA aL : Addr}
abbrev sSafe : Stmt := topS 22
theorem scSafe : FnScope ["game", "position"] ["game", "position"] (defScope sSafe) := ⟨rfl, rfl, rfl, by decide +kernel, rfl, by decide +kernel, by decide +kernel⟩
theorem ok_safe {f : Addr} {fd : FuncData} (T : TxG K mg CG) (F : Fun K "is_safe" "is_safe" sSafe f fd) : FnOk P w K mg base CX0 1 f fd ["game", "position"] (spSafe CG CB) := by
  refine F.ok scSafe (fun vs H Q E h => ?_) (fun cdv A outer s0 H vs Q E hr h => ?_)
  · obtain ⟨G, g, q, k, rfl, _⟩ := h
    rfl
  have hu := hu_of hr
  refine ⟨_, pss_one (ps_ret (pe_and (pe_cmp (pc_din hu (pv 1) (pe_fld (pv 0) rfl)) rfl) (pe_one (pe_not (pe_dget hu (pe_fld (pv 0) rfl) (pv 1) (fun _ _ => rfl)))))), ?_⟩
  obtain ⟨G, g, q, k, rfl, hG, hC, hq, r⟩ := h
  refine ⟨_, rfl, _, rfl, G.ga, CG, G.dx, _, _, rfl, hG.top, T.cl, T.n3, gF_checks G, G.ca, _, rfl, dget_t hC hq, _, rfl, ?_⟩
  unfold safeV at r
  rcases enc_val V.bl k (checksM g) with ⟨b, e⟩ | e
  · have e : valV (encB (checksM g)) k = some (.bl b) := e
    have d := dget_t hC hq
    rw [e] at d r
    rw [e]
    exact ⟨_, rfl, G.ga, CG, G.dx, _, _, rfl, hG.top, T.cl, T.n3, gF_checks G, _, rfl, G.ca, _, rfl, d, _, rfl, r⟩
  · have e : valV (encB (checksM g)) k = none := e
    rw [e] at r
    rw [e]
    exact r
abbrev sWithout : Stmt := topS 23
theorem scWithout : FnScope ["game", "cell", "taken"] ["game", "cell", "taken"] (defScope sWithout) := ⟨rfl, rfl, rfl, by decide +kernel, rfl, by decide +kernel, by decide +kernel⟩
theorem ok_without {f : Addr} {fd : FuncData} (TB : TxB K mg CB aS aA aL) (T : TxG K mg CG) (F : Fun K "without" "without" sWithout f fd) : FnOk P w K mg base CX0 1 f fd ["game", "cell", "taken"] (spWithout CG CB) := by
  refine F.ok scWithout (fun vs H Q E h => ?_) (fun cdv A outer s0 H vs Q E hr h => ?_)
  · obtain ⟨G, g, c, t, rfl, _⟩ := h
    rfl
  refine ⟨_, pss_cons (ps_if (pt_cmpR op_eq (pv 1) (pv 2) (nomark _)) (pss_one (ps_ret (pe_fld (pe_fld (pv 0) rfl) rfl))) pss_nil) (pss_one (ps_ret (pv 1))), ?_⟩
  obtain ⟨G, g, c, t, rfl, hG, r⟩ := h
  obtain ⟨dx, bl, kvs, h1, _⟩ := hG.board.ex
  refine ⟨_, rfl, _, rfl, rfl, _, rfl, ite2 (fun e => ?_) (fun e => ?_)⟩
  · have e' : c = t := by
      have := V.int.inj (of_decide_eq_true e)
      omega
    rw [if_pos e'] at r
    exact ⟨_, rfl, G.ga, CG, G.dx, _, _, rfl, hG.top, T.cl, T.n1, gF_board G, G.ba, CB, dx, _, _, rfl, h1, TB.cl, TB.n2, bF_off g.s bl G.ld, r⟩
  · have e' : ¬ c = t := fun z => e (decide_eq_true (by rw [z]))
    rw [if_neg e'] at r
    exact ⟨_, rfl, r⟩
abbrev sBlack : Stmt := topS 24
abbrev nBlack : List Str := ["game", "position", "wk", "bk", "a", "b", "found", "cell", "other"]
theorem scBlack : FnScope nBlack ["game", "position"] (defScope sBlack) := ⟨rfl, rfl, rfl, by decide +kernel, rfl, by decide +kernel, by decide +kernel⟩
/-- the defs that move -/
structure FnM (K : PySem.W.Frag) (mg : Str → Option Value) (f1 f2 f3 : Addr) (fd1 fd2 fd3 : FuncData) : Prop where
  F1 : Fun K "aimed_at" "aimed_at" sAimed f1 fd1
  g1 : mg "aimed_at" = some (.ref f1)
  b1 : Binds K fd1 ["board", "piece", "cell", "standing"] []
  F2 : Fun K "is_safe" "is_safe" sSafe f2 fd2
  g2 : mg "is_safe" = some (.ref f2)
  b2 : Binds K fd2 ["game", "position"] []
  F3 : Fun K "without" "without" sWithout f3 fd3
  g3 : mg "without" = some (.ref f3)
  b3 : Binds K fd3 ["game", "cell", "taken"] []
theorem ok_black {f f1 f2 f3 : Addr} {fd fd1 fd2 fd3 : FuncData} (TB : TxB K mg CB aS aA aL) (T : TxG K mg CG) (N : FnM K mg f1 f2 f3 fd1 fd2 fd3) (F : Fun K "black_moves" "black_moves" sBlack f fd) : FnOk P w K mg base CX0 2 f fd ["game", "position"] (spBlack CG CB) := by
  have G2 : FnOk P w K mg base CX0 1 f2 fd2 ["game", "position"] (spSafe CG CB) := ok_safe T N.F2
  have G3 : FnOk P w K mg base CX0 1 f3 fd3 ["game", "cell", "taken"] (spWithout CG CB) := ok_without TB T N.F3
  refine F.ok scBlack (fun vs H Q E h => ?_) (fun cdv A outer s0 H vs Q E hr h => ?_)
  · obtain ⟨G, g, q, p, rfl, _⟩ := h
    rfl
  refine ⟨_, pss_cons (ps_asg (pv 1) (pg_tup rfl (pgs_cons (pg_name (i := 2) scBlack.nd rfl (Or.inr rfl)) (pgs_cons (pg_name (i := 3) scBlack.nd rfl (Or.inl rfl)) (pgs_cons (pg_name (i := 4) scBlack.nd rfl (Or.inr rfl)) (pgs_cons (pg_name (i := 5) scBlack.nd rfl (Or.inr rfl)) pgs_nil))))))
    (pss_cons (ps_setLc (i := 6) (own := [("cell", 7)]) (g := gName 7) (tt := tYes) rfl scBlack.nd rfl rfl (sw_true rfl rfl rfl (by decide +kernel)) (pi_list (pe_ix ix_list (pe_fld (pe_fld (pv 0) rfl) rfl) (pv 3) (fun _ _ => rfl))) (blkOk_by (N := nBlack) (sc := defScope sBlack) (by decide +kernel))
      (fun _ _ _ _ _ => pg_name (i := 7) scBlack.nd rfl (Or.inl rfl)) (fun _ _ _ _ _ => pts_nil)
      (fun _ _ _ _ _ => pe_tup (pa_cons (pv 2) (pa_cons (pv 7) (pa_cons (pe_call G3 hr rfl N.g3 N.F3.kp N.b3 .nil pass0 (pa_cons (pv 0) (pa_cons (pv 4) (pa_cons (pv 7) pa_nil)))) (pa_cons (pe_call G3 hr rfl N.g3 N.F3.kp N.b3 .nil pass0 (pa_cons (pv 0) (pa_cons (pv 5) (pa_cons (pv 7) pa_nil)))) pa_nil))))))
    (pss_one (ps_ret (pe_lc (own := [("other", 8)]) (g := gName 8) rfl scBlack.nd (pi_list (pv 6)) (blkOk_by (N := nBlack) (sc := defScope sBlack) (by decide +kernel))
      (fun _ _ _ _ _ => pg_name (i := 8) scBlack.nd rfl (Or.inl rfl)) (fun _ _ _ _ _ => pts_one (pt_val (pe_call G2 hr rfl N.g2 N.F2.kp N.b2 .nil pass0 (pa_cons (pv 0) (pa_cons (pv 8) pa_nil))))) (fun _ _ _ _ _ => pv 8))))), ?_⟩
  obtain ⟨G, g, q, p, rfl, hG, hF, hC, hq, hp, k⟩ := h
  obtain ⟨dx, bl, rs, r, h1, h2, h3, h4⟩ := beside_get hG.board hp.bk
  have cl := cells_le hF
  have blen : (besideN g.s p.bk).length ≤ 25 := by
    refine Nat.le_trans (List.length_filter_le _ _) ?_
    rw [List.length_range]
    exact cl.1
  refine ⟨_, rfl, q, _, rfl, SqT.of hq, rfl, _, _, rfl, _, _, rfl, _, _, rfl, _, _, rfl, rfl, ?_⟩
  refine ⟨_, rfl, G.ga, CG, G.dx, _, _, rfl, hG.top, T.cl, T.n1, gF_board G, G.ba, CB, dx, _, _, rfl, h1, TB.cl, TB.n3, bF_beside g.s bl G.ld, _, rfl, bl, _, _, _, rfl, rfl, SqL.of h2, h3, r, rfl, ⟨_, SqL.of h4⟩, fun D hD => lc_list (K := K) (a := r) (xs := ((besideN g.s p.bk).map Int.ofNat).map V.int)
    (fun i H' => Same H H' ∧ PosList H' D (((besideN g.s p.bk).take i).map (bmove g p))) ⟨Same.upd hD, PosList.nil upd_same⟩ (fun i H' _ z => SqL.of (z.1 _ _ h4)) ?_ ?_⟩
  · rintro i x H' hx ⟨z1, rs2, R⟩
    obtain ⟨z, hz, rfl⟩ := get_map hx
    obtain ⟨y, hy, rfl⟩ := get_map hz
    have gm := hG.same z1
    refine ⟨rfl, ⟨_, rfl, _, rfl, _, rfl, _, rfl, _, rfl, G, g, p.a, y, rfl, gm, _, rfl, _, rfl, _, rfl, G, g, p.b, y, rfl, gm, line_le (n := 4) (by decide), fun t ht => ?_⟩⟩
    have st : Same H' (upd H' t (.tup ((posL (bmove g p y)).map V.int))) := Same.upd ht
    have dt : TupAt (upd H' t (.tup ((posL (bmove g p y)).map V.int))) t (bmove g p y) := upd_same
    have R2 := R.same st
    refine ⟨_, R2.top, ?_, Same.upd2 (z1.trans st) hD, ?_⟩
    · rw [List.length_map, R2.len, List.length_map, List.length_take]
      exact line_lt (by omega)
    · rw [take_more hy, List.map_append]
      exact R2.snoc dt
  · rintro H1 ⟨z1, z2⟩
    have et : (besideN g.s p.bk).take (((besideN g.s p.bk).map Int.ofNat).map V.int).length = besideN g.s p.bk := by
      rw [List.length_map, List.length_map, List.take_length]
    rw [et] at z2
    obtain ⟨rs2, R⟩ := z2
    refine ⟨_, rfl, D, rfl, ⟨_, SqL.of R.top⟩, fun D2 hD2 => lc_list (K := K) (a := D) (xs := rs2.map V.ref)
      (fun i H' => Same H1 H' ∧ PosList H' D2 ((((besideN g.s p.bk).map (bmove g p)).take i).filter fun o => fair g o)) ⟨Same.upd hD2, PosList.nil upd_same⟩ (fun i H' _ z => SqL.of (z.1 _ _ R.top)) ?_ ?_⟩
    · rintro i x H' hx ⟨y1, rs3, R3⟩
      obtain ⟨b, hb, rfl⟩ := get_map hx
      obtain ⟨o, ho⟩ := get_len R.len hb
      obtain ⟨b', hb', hbo⟩ := R.each i o ho
      cases hb.symm.trans hb'
      refine ⟨rfl, _, rfl, _, rfl, G, g, b, kp o, rfl, (hG.same z1).same y1, (hC.same z1).same y1, y1 _ _ hbo, _, rfl, ?_⟩
      rw [safe_fair hF]
      refine ite2 (fun c => ?_) (fun c => ?_)
      · refine ⟨_, rfl, _, R3.top, ?_, Same.upd2 y1 hD2, ?_⟩
        · rw [List.length_map, R3.len]
          refine line_lt (Nat.le_trans (filter_len _ _ _) ?_)
          rw [List.length_map]
          omega
        · rw [take_pos (fun o => fair g o) ho c]
          exact R3.snoc (y1 _ _ hbo)
      · refine ⟨y1, ?_⟩
        rw [take_neg (fun o => fair g o) ho c]
        exact ⟨rs3, R3⟩
    · rintro H2 ⟨y1, y2⟩
      rw [List.length_map, R.len, List.take_length, blacks_is hp] at y2
      exact k H2 D2 (z1.trans y1) (z1.free hD2) y2
end
end Cw
end

section
set_option Elab.async false
set_option maxRecDepth 100000
set_option maxHeartbeats 4000000
/- The walk: white's moves. -/
namespace Cw
open PySem PySem.Spec PyProof.Rows L2 Ch
open PySem.W (Codec)
open Sn80 (Game stands check near whites blacks mate fair aims)

theorem notIn_pos {p : Ps} {y : Nat} : (!decide ((Int.ofNat y) ∈ posL p)) = notIn p y := by
  refine b_eq ?_
  rw [notIn_iff, Bool.not_eq_true', decide_eq_false_iff_not]
  unfold posL
  simp only [List.mem_cons, List.not_mem_nil, or_false, Int.ofNat_eq_natCast]
  omega
theorem a_sorted {g : Game} (F : Fits g) {p : Ps} (hp : St g p) : isort (aimedM g.s g.a p.a fun z => decide (z ∈ posL p)) = (aCells g p).map Int.ofNat := by
  unfold aimedM aCells
  by_cases c : p.a = g.cells
  · have c' : p.a = g.s * g.s := c
    rw [if_pos c', if_pos c]
    rfl
  · have c' : ¬ p.a = g.s * g.s := c
    rw [if_neg c', if_neg c]
    refine aimed_sorted F.s (kinds_of F.a1 F.a4) ?_ fun z hz ne => ?_
    · have := hp.a
      show p.a < g.cells
      omega
    · rw [decide_eq_true_eq]
      unfold posL
      simp only [List.mem_cons, List.not_mem_nil, or_false]
      omega
theorem b_sorted {g : Game} (F : Fits g) {p : Ps} (hp : St g p) (hb : g.b ≠ 0) : isort (aimedM g.s g.b p.b fun z => decide (z ∈ posL p)) = (bCells g p).map Int.ofNat := by
  unfold aimedM bCells
  by_cases c : p.b = g.cells
  · have c' : p.b = g.s * g.s := c
    rw [if_pos c', if_pos c]
    rfl
  · have c' : ¬ p.b = g.s * g.s := c
    rw [if_neg c', if_neg c]
    refine aimed_sorted F.s (kinds_of (by omega) F.b4) ?_ fun z hz ne => ?_
    · have := hp.b
      show p.b < g.cells
      omega
    · rw [decide_eq_true_eq]
      unfold posL
      simp only [List.mem_cons, List.not_mem_nil, or_false]
      omega
theorem filter_range_le (s : Nat) (f : Nat → Bool) (hs : s * s ≤ 25) : ((List.range (s * s)).filter f).length ≤ 25 := by
  refine Nat.le_trans (List.length_filter_le _ _) ?_
  rw [List.length_range]
  exact hs
theorem aCells_len {g : Game} (F : Fits g) (p : Ps) : (aCells g p).length ≤ 25 := by
  unfold aCells
  split
  · exact Nat.zero_le _
  · exact filter_range_le _ _ (cells_le F).1
theorem bCells_len {g : Game} (F : Fits g) (p : Ps) : (bCells g p).length ≤ 25 := by
  unfold bCells
  split
  · exact Nat.zero_le _
  · exact filter_range_le _ _ (cells_le F).1
theorem bMoves_none {g : Game} {p : Ps} (hp : St g p) (hb : g.b = 0) : bMoves g p = [] := by
  unfold bMoves bCells
  rw [if_pos (hp.no hb)]
  rfl

theorem kings_len {g : Game} (F : Fits g) (p : Ps) : (kingMoves g p).length ≤ 25 := by
  unfold kingMoves
  rw [List.length_map]
  exact Nat.le_trans (List.length_filter_le _ _) (filter_range_le _ _ (cells_le F).1)
theorem aMoves_len {g : Game} (F : Fits g) (p : Ps) : (aMoves g p).length ≤ 25 := by
  unfold aMoves
  rw [List.length_map]
  exact Nat.le_trans (List.length_filter_le _ _) (aCells_len F p)
theorem bMoves_len {g : Game} (F : Fits g) (p : Ps) : (bMoves g p).length ≤ 25 := by
  unfold bMoves
  rw [List.length_map]
  exact Nat.le_trans (List.length_filter_le _ _) (bCells_len F p)

def spWhite (CG CB : Addr) : Sp := fun vs H Q _ => ∃ (G : GA) (g : Game) (q : Addr) (p : Ps), vs = [.ref G.ga, .ref q] ∧ GameAt CG CB G g H ∧ Fits g ∧ ChkRd H G g ∧ TupAt H q p ∧ St g p ∧
  ∀ H' l, Same H H' → H l = none → MovList H' l (wm g p) → Q (.ref l) H'
section
variable {P : Program} {w : World} {K : PySem.W.Frag} {mg : Str → Option Value} {base : Heap} {CG CB aS aA aL : Addr}
abbrev sWhite : Stmt := topS 25
abbrev nWhite : List Str := ["game", "position", "wk", "bk", "a", "b", "cell", "found", "move"]
theorem scWhite : FnScope nWhite ["game", "position"] (defScope sWhite) := ⟨rfl, rfl, rfl, by decide +kernel, rfl, by decide +kernel, by decide +kernel⟩
theorem ok_white {f f1 f2 f3 : Addr} {fd fd1 fd2 fd3 : FuncData} (TB : TxB K mg CB aS aA aL) (T : TxG K mg CG) (N : FnM K mg f1 f2 f3 fd1 fd2 fd3) (F : Fun K "white_moves" "white_moves" sWhite f fd) : FnOk P w K mg base CX0 2 f fd ["game", "position"] (spWhite CG CB) := by
  have G1 : FnOk P w K mg base CX0 1 f1 fd1 ["board", "piece", "cell", "standing"] (spAimed K CB) := ok_aimed TB N.F1
  obtain ⟨t0, q0⟩ := T.g0
  refine F.ok scWhite (fun vs H Q E h => ?_) (fun cdv A outer s0 H vs Q E hr h => ?_)
  · obtain ⟨G, g, q, p, rfl, _⟩ := h
    rfl
  have hu := hu_of hr
  refine ⟨_, pss_cons (ps_asg (pv 1) (pg_tup rfl (pgs_cons (pg_name (i := 2) scWhite.nd rfl (Or.inl rfl)) (pgs_cons (pg_name (i := 3) scWhite.nd rfl (Or.inr rfl)) (pgs_cons (pg_name (i := 4) scWhite.nd rfl (Or.inr rfl)) (pgs_cons (pg_name (i := 5) scWhite.nd rfl (Or.inr rfl)) pgs_nil))))))
    (pss_cons (ps_setLc (i := 7) (own := [("cell", 6)]) (g := gName 6) rfl scWhite.nd rfl rfl (sw_true rfl rfl rfl (by decide +kernel)) (pi_list (pe_ix ix_list (pe_fld (pe_fld (pv 0) rfl) rfl) (pv 2) (fun _ _ => rfl))) (blkOk_by (N := nWhite) (sc := defScope sWhite) (by decide +kernel))
      (fun _ _ _ _ _ => pg_name (i := 6) scWhite.nd rfl (Or.inl rfl)) (fun _ _ _ _ _ => pts_one (pt_cmpR (r := rIn K true) op_notIn_seq (pv 6) (pv 1) rfl))
      (fun _ _ _ _ _ => pe_tup (pa_cons pe_int (pa_cons (pv 6) (pa_cons (pe_tup (pa_cons (pv 6) (pa_cons (pv 3) (pa_cons (pv 4) (pa_cons (pv 5) pa_nil))))) pa_nil)))))
    (pss_cons (ps_for PassesOwn.never rfl (pi_list (pe_callB cr_sortedI (by rfl) TB.ms boot_sorted (pa_cons (pe_call G1 hr rfl N.g1 N.F1.kp N.b1 .nil pass0 (pa_cons (pe_fld (pv 0) rfl) (pa_cons (pe_ix ix_tup (pe_fld (pv 0) rfl) pe_int (fun _ _ => rfl)) (pa_cons (pv 4) (pa_cons (pv 1) pa_nil))))) pa_nil))) (pg_name (i := 6) scWhite.nd rfl (Or.inl rfl))
      (pss_one (ps_if (pt_cmpR op_notIn_seq (pv 6) (pv 1) rfl) (pss_one (ps_expr (pe_bm PySem.F.plainAttrs_list PySem.F.slot_list_append PySem.F.type_list_append mt_append (pv 7) (pa_cons (pe_tup (pa_cons pe_int (pa_cons (pv 6) (pa_cons (pe_tup (pa_cons (pv 2) (pa_cons (pv 3) (pa_cons (pv 6) (pa_cons (pv 5) pa_nil))))) pa_nil)))) pa_nil)))) pss_nil)))
    (pss_cons (ps_if (pt_cmpR op_ne (pe_ix ix_tup (pe_fld (pv 0) rfl) pe_int (fun _ _ => rfl)) (pe_glob (v := .int 0) rfl q0 ⟨_, rfl⟩) (nomark _))
      (pss_one (ps_for PassesOwn.never rfl (pi_list (pe_callB cr_sortedI (by rfl) TB.ms boot_sorted (pa_cons (pe_call G1 hr rfl N.g1 N.F1.kp N.b1 .nil pass0 (pa_cons (pe_fld (pv 0) rfl) (pa_cons (pe_ix ix_tup (pe_fld (pv 0) rfl) pe_int (fun _ _ => rfl)) (pa_cons (pv 5) (pa_cons (pv 1) pa_nil))))) pa_nil))) (pg_name (i := 6) scWhite.nd rfl (Or.inl rfl))
        (pss_one (ps_if (pt_cmpR op_notIn_seq (pv 6) (pv 1) rfl) (pss_one (ps_expr (pe_bm PySem.F.plainAttrs_list PySem.F.slot_list_append PySem.F.type_list_append mt_append (pv 7) (pa_cons (pe_tup (pa_cons pe_int (pa_cons (pv 6) (pa_cons (pe_tup (pa_cons (pv 2) (pa_cons (pv 3) (pa_cons (pv 4) (pa_cons (pv 6) pa_nil))))) pa_nil)))) pa_nil)))) pss_nil)))) pss_nil)
    (pss_one (ps_ret (pe_lc (own := [("move", 8)]) (g := gName 8) rfl scWhite.nd (pi_list (pv 7)) (blkOk_by (N := nWhite) (sc := defScope sWhite) (by decide +kernel))
      (fun _ _ _ _ _ => pg_name (i := 8) scWhite.nd rfl (Or.inl rfl)) (fun _ _ _ _ _ => pts_one (pt_cmp (pc_din hu (pe_ix (r := rIxT K) ix_tup (pv 8) pe_int (fun _ _ => rfl)) (fldK (K := K) rfl (pv 0) rfl)) rfl)) (fun _ _ _ _ _ => pv 8))))))), ?_⟩
  obtain ⟨G, g, q, p, rfl, hG, hF, hC, hq, hp, k⟩ := h
  obtain ⟨dx, bl, rs, r, h1, h2, h3, h4⟩ := beside_get hG.board hp.wk
  have cl := cells_le hF
  have blen : (besideN g.s p.wk).length ≤ 25 := filter_range_le _ _ cl.1
  refine ⟨_, rfl, q, _, rfl, SqT.of hq, rfl, _, _, rfl, _, _, rfl, _, _, rfl, _, _, rfl, rfl, ?_⟩
  refine ⟨_, rfl, G.ga, CG, G.dx, _, _, rfl, hG.top, T.cl, T.n1, gF_board G, G.ba, CB, dx, _, _, rfl, h1, TB.cl, TB.n3, bF_beside g.s bl G.ld, _, rfl, bl, _, _, _, rfl, rfl, SqL.of h2, h3, r, rfl, ⟨_, SqL.of h4⟩, fun D hD => lc_list (K := K) (a := r) (xs := ((besideN g.s p.wk).map Int.ofNat).map V.int)
    (fun i H' => Same H H' ∧ MovList H' D ((((besideN g.s p.wk).take i).filter (notIn p)).map fun y => (0, y, ({ p with wk := y } : Ps)))) ⟨Same.upd hD, MovList.nil upd_same⟩ (fun i H' _ z => SqL.of (z.1 _ _ h4)) ?_ ?_⟩
  · rintro i x H' hx ⟨z1, rs2, R⟩
    obtain ⟨z, hz, rfl⟩ := get_map hx
    obtain ⟨y, hy, rfl⟩ := get_map hz
    refine ⟨rfl, _, rfl, _, rfl, q, _, rfl, .inr (SqT.of (z1 _ _ hq)), rfl, flat_ints _, _, rfl, ?_⟩
    rw [inV_int]
    refine ite2 (fun c => ?_) (fun c => ?_)
    · have c : (!decide ((Int.ofNat y) ∈ posL p)) = true := c
      rw [notIn_pos] at c
      refine ⟨_, rfl, _, rfl, _, rfl, _, rfl, _, rfl, line_le (n := 4) (by decide), fun t ht => ?_⟩
      have st : Same H' (upd H' t (.tup [.int (Int.ofNat y), .int p.bk, .int p.a, .int p.b])) := Same.upd ht
      have dt : TupAt (upd H' t (.tup [.int (Int.ofNat y), .int p.bk, .int p.a, .int p.b])) t { p with wk := y } := upd_same
      refine ⟨line_le (n := 3) (by decide), fun t2 ht2 => ?_⟩
      generalize upd H' t (.tup [.int (Int.ofNat y), .int p.bk, .int p.a, .int p.b]) = H3 at st dt ht2
      have s2 : Same H3 (upd H3 t2 (.tup [vN 0, vN y, .ref t])) := Same.upd ht2
      have d2 : MovAt (upd H3 t2 (.tup [vN 0, vN y, .ref t])) t2 (0, y, { p with wk := y }) := ⟨t, upd_same, s2 _ _ dt⟩
      have R2 := (R.same st).same s2
      refine ⟨_, R2.top, ?_, Same.upd2 ((z1.trans st).trans s2) hD, ?_⟩
      · rw [List.length_map, R2.len, List.length_map]
        have := filter_len (notIn p) (besideN g.s p.wk) i
        exact line_lt (by omega)
      · rw [take_pos (notIn p) hy c, List.map_append]
        exact R2.snoc d2
    · have c : ¬ (!decide ((Int.ofNat y) ∈ posL p)) = true := c
      rw [notIn_pos] at c
      refine ⟨z1, ?_⟩
      rw [take_neg (notIn p) hy c]
      exact ⟨rs2, R⟩
  rintro H1 ⟨hS1, z2⟩
  have et : (besideN g.s p.wk).take (((besideN g.s p.wk).map Int.ofNat).map V.int).length = besideN g.s p.wk := by
    rw [List.length_map, List.length_map, List.take_length]
  rw [et] at z2
  obtain ⟨rs1, R1⟩ := z2
  have R1 : MovR H1 D rs1 (kingMoves g p) := R1
  have g1 := hG.same hS1
  have q1 := hS1 _ _ hq
  have last : ∀ (v : Option V) (H' : Hp), Same H H' → MovList H' D (wm0 g p) → tRet (tLc (iList K (tVar 7)) (gName 8) (tB (tDIn (tOp (rIxT K) (tVar 8) (tC (.int 2))) (tFld K (tVar 0) "checks"))) (tVar 8) [8]) { nx := fun _ H' => Q .non H', rt := Q }
      [some (.ref G.ga), some (.ref q), some (.int p.wk), some (.int p.bk), some (.int p.a), some (.int p.b), v, some (.ref D), none] H' := fun v H' sm ⟨rsZ, R⟩ => by
    refine ⟨_, rfl, D, rfl, ⟨_, SqL.of R.top⟩, fun D2 hD2 => lc_list (K := K) (a := D) (xs := rsZ.map V.ref)
      (fun i H2 => Same H' H2 ∧ MovList H2 D2 (((wm0 g p).take i).filter fun m => stands g m.2.2)) ⟨Same.upd hD2, MovList.nil upd_same⟩ (fun i H2 _ z => SqL.of (z.1 _ _ R.top)) ?_ ?_⟩
    · rintro i x H2 hx ⟨y1, rs3, R3⟩
      obtain ⟨b, hb, rfl⟩ := get_map hx
      obtain ⟨m, hm⟩ := get_len R.len hb
      obtain ⟨b', hb', t, hbt, htm⟩ := R.each i m hm
      cases hb.symm.trans hb'
      have g3 := (hG.same sm).same y1
      have c3 := (hC.same sm).same y1
      refine ⟨rfl, _, rfl, b, _, 2, _, rfl, rfl, SqT.of (y1 _ _ hbt), rfl, _, rfl, G.ga, CG, G.dx, _, _, rfl, g3.top, T.cl, T.n3, gF_checks G, G.ca, _, rfl, dget_t c3 (k := kp m.2.2) (y1 _ _ htm), _, rfl, ?_⟩
      rw [in_stands hF]
      refine ite2 (fun c => ?_) (fun c => ?_)
      · refine ⟨_, rfl, _, R3.top, ?_, Same.upd2 y1 hD2, ?_⟩
        · rw [List.length_map, R3.len]
          refine line_lt (Nat.le_trans (filter_len _ _ _) ?_)
          have := kings_len hF p
          have := aMoves_len hF p
          have := bMoves_len hF p
          unfold wm0
          rw [List.length_append, List.length_append]
          omega
        · rw [take_pos (fun m => stands g m.2.2) hm c]
          exact R3.snoc ⟨t, y1 _ _ hbt, y1 _ _ htm⟩
      · refine ⟨y1, ?_⟩
        rw [take_neg (fun m => stands g m.2.2) hm c]
        exact ⟨rs3, R3⟩
    · rintro H2 ⟨y1, y2⟩
      rw [List.length_map, R.len, List.take_length] at y2
      exact k H2 D2 (sm.trans y1) (sm.free hD2) y2

  refine ⟨_, rfl, G.ga, CG, G.dx, _, _, rfl, g1.top, T.cl, T.n1, gF_board G, _, rfl, G.ga, CG, G.dx, _, _, rfl, g1.top, T.cl, T.n2, gF_pieces G, G.pa, _, 0, _, rfl, rfl, SqT.of g1.pieces, rfl, _, rfl, _, rfl, ?_⟩
  refine ⟨G.ba, q, g.s, g.a, p.a, posL p, rfl, g1.board.at_, hF.s, kinds_of hF.a1 hF.a4, hp.a, SqT.of q1, fun Ha1 la1 sa1 na1 ea1 => ?_⟩
  refine ⟨la1, _, rfl, SqL.of ea1, fun ns1 lb1 hp1 hs1 hb1 => ?_⟩
  have es1 : ns1 = (aCells g p).map Int.ofNat := (isort_one hp1 hs1).trans (a_sorted hF hp)
  subst es1
  have sb1 : Same Ha1 (upd Ha1 lb1 (.lst (((aCells g p).map Int.ofNat).map V.int))) := Same.upd hb1
  have db1 : (upd Ha1 lb1 (.lst (((aCells g p).map Int.ofNat).map V.int))) lb1 = some (.lst (((aCells g p).map Int.ofNat).map V.int)) := upd_same
  generalize upd Ha1 lb1 (.lst (((aCells g p).map Int.ofNat).map V.int)) = Hb1 at sb1 db1
  have nlb1 : lb1 ≠ D := fun e => by
    have := sa1 _ _ R1.top
    rw [← e, hb1] at this
    cases this
  have sH1 := (hS1.trans sa1).trans sb1
  refine ⟨lb1, rfl, ⟨_, SqL.of db1⟩, for_list (K := K) (a := lb1) (xs := ((aCells g p).map Int.ofNat).map V.int)
    (fun i σ H' => (∃ v, σ = [some (.ref G.ga), some (.ref q), some (.int p.wk), some (.int p.bk), some (.int p.a), some (.int p.b), v, some (.ref D), none]) ∧ But D Hb1 H' ∧ MovList H' D (kingMoves g p ++ (((aCells g p).take i).filter (notIn p)).map fun y => (1, y, ({ p with a := y } : Ps))))
    ⟨⟨_, rfl⟩, But.of_same (Same.refl _), by rw [List.take_zero, List.filter_nil, List.map_nil, List.append_nil]; exact ⟨_, (R1.same sa1).same sb1⟩⟩ (fun i σ H' _ z => SqL.of (z.2.1 _ _ db1 nlb1)) ?_ ?_⟩
  · rintro i x σ H' hx ⟨⟨v, rfl⟩, z1, rs2, R'⟩
    obtain ⟨z, hz, rfl⟩ := get_map hx
    obtain ⟨y, hy, rfl⟩ := get_map hz
    have sm : Same H H' := fun b o e => z1 b o (sH1 b o e) (ne_of_none e hD)
    refine ⟨_, rfl, _, rfl, q, _, rfl, .inr (SqT.of (sm _ _ hq)), rfl, flat_ints _, _, rfl, ?_⟩
    rw [inV_int]
    refine ite2 (fun c => ?_) (fun c => ?_)
    · have c : (!decide ((Int.ofNat y) ∈ posL p)) = true := c
      rw [notIn_pos] at c
      refine ⟨_, rfl, Or.inl ⟨rfl, _, SqL.of R'.top⟩, _, rfl, _, rfl, _, rfl, _, rfl, _, rfl, line_le (n := 4) (by decide), fun t ht => ?_⟩
      have st : Same H' (upd H' t (.tup ((posL { p with a := y }).map V.int))) := Same.upd ht
      have dt : TupAt (upd H' t (.tup ((posL { p with a := y }).map V.int))) t { p with a := y } := upd_same
      refine ⟨line_le (n := 3) (by decide), fun t2 ht2 => ?_⟩
      have st' : Same H' (upd H' t (.tup [.int p.wk, .int p.bk, .int (Int.ofNat y), .int p.b])) := st
      have dt' : TupAt (upd H' t (.tup [.int p.wk, .int p.bk, .int (Int.ofNat y), .int p.b])) t { p with a := y } := dt
      generalize upd H' t (.tup [.int p.wk, .int p.bk, .int (Int.ofNat y), .int p.b]) = H3 at st' dt' ht2
      have s2 : Same H3 (upd H3 t2 (.tup [vN 1, vN y, .ref t])) := Same.upd ht2
      have d2 : MovAt (upd H3 t2 (.tup [vN 1, vN y, .ref t])) t2 (1, y, { p with a := y }) := ⟨t, upd_same, s2 _ _ dt'⟩
      have R2 := (R'.same st').same s2
      refine ⟨D, _, _, rfl, rfl, R2.top, ?_, ⟨_, rfl⟩, (z1.trans ((But.of_same st').trans (But.of_same s2))).upd, ?_⟩
      · rw [List.length_map, R2.len, List.length_append, List.length_map]
        have := filter_len (notIn p) (aCells g p) i
        have := aCells_len hF p
        exact line_lt (by have := kings_len hF p; omega)
      · rw [take_pos (notIn p) hy c, List.map_append, ← List.append_assoc]
        exact R2.snoc d2
    · have c : ¬ (!decide ((Int.ofNat y) ∈ posL p)) = true := c
      rw [notIn_pos] at c
      refine ⟨⟨_, rfl⟩, z1, ?_⟩
      rw [take_neg (notIn p) hy c]
      exact ⟨rs2, R'⟩
  rintro σ HE1 ⟨⟨v1, rfl⟩, zE1, rsE1, RE1⟩
  rw [List.length_map, List.length_map, List.take_length] at RE1
  have smE1 : Same H HE1 := fun b o e => zE1 b o (sH1 b o e) (ne_of_none e hD)

  have R2 : MovR HE1 D rsE1 (kingMoves g p ++ aMoves g p) := RE1
  have hS2 := smE1
  have g2 := hG.same hS2
  have q2 := hS2 _ _ hq
  refine ⟨_, rfl, G.ga, CG, G.dx, _, _, rfl, g2.top, T.cl, T.n2, gF_pieces G, G.pa, _, 1, _, rfl, rfl, SqT.of g2.pieces, rfl, rfl, _, rfl, ite2 (fun c => ?_) (fun c => ?_)⟩
  rotate_left
  · refine last _ _ hS2 ?_
    have nb : g.b = 0 := Classical.byContradiction fun z => c (by
      have nz : ¬ V.int (g.b : Int) = V.int 0 := fun y => by
        have := V.int.inj y
        omega
      show (!decide (V.int (g.b : Int) = V.int 0)) = true
      rw [decide_eq_false nz]
      rfl)
    unfold wm0
    rw [bMoves_none hp nb, List.append_nil]
    exact ⟨_, R2⟩
  have nb : g.b ≠ 0 := fun z => by
    have c : (!decide (V.int (g.b : Int) = V.int 0)) = true := c
    rw [z] at c
    cases c
  refine ⟨_, rfl, G.ga, CG, G.dx, _, _, rfl, g2.top, T.cl, T.n1, gF_board G, _, rfl, G.ga, CG, G.dx, _, _, rfl, g2.top, T.cl, T.n2, gF_pieces G, G.pa, _, 1, _, rfl, rfl, SqT.of g2.pieces, rfl, _, rfl, _, rfl, ?_⟩
  refine ⟨G.ba, q, g.s, g.b, p.b, posL p, rfl, g2.board.at_, hF.s, kinds_of (by omega) hF.b4, hp.b, SqT.of q2, fun Ha2 la2 sa2 na2 ea2 => ?_⟩
  refine ⟨la2, _, rfl, SqL.of ea2, fun ns2 lb2 hp2 hs2 hb2 => ?_⟩
  have es2 : ns2 = (bCells g p).map Int.ofNat := (isort_one hp2 hs2).trans (b_sorted hF hp nb)
  subst es2
  have sb2 : Same Ha2 (upd Ha2 lb2 (.lst (((bCells g p).map Int.ofNat).map V.int))) := Same.upd hb2
  have db2 : (upd Ha2 lb2 (.lst (((bCells g p).map Int.ofNat).map V.int))) lb2 = some (.lst (((bCells g p).map Int.ofNat).map V.int)) := upd_same
  generalize upd Ha2 lb2 (.lst (((bCells g p).map Int.ofNat).map V.int)) = Hb2 at sb2 db2
  have nlb2 : lb2 ≠ D := fun e => by
    have := sa2 _ _ R2.top
    rw [← e, hb2] at this
    cases this
  have sH2 := (hS2.trans sa2).trans sb2
  refine ⟨lb2, rfl, ⟨_, SqL.of db2⟩, for_list (K := K) (a := lb2) (xs := ((bCells g p).map Int.ofNat).map V.int)
    (fun i σ H' => (∃ v, σ = [some (.ref G.ga), some (.ref q), some (.int p.wk), some (.int p.bk), some (.int p.a), some (.int p.b), v, some (.ref D), none]) ∧ But D Hb2 H' ∧ MovList H' D ((kingMoves g p ++ aMoves g p) ++ (((bCells g p).take i).filter (notIn p)).map fun y => (2, y, ({ p with b := y } : Ps))))
    ⟨⟨_, rfl⟩, But.of_same (Same.refl _), by rw [List.take_zero, List.filter_nil, List.map_nil, List.append_nil]; exact ⟨_, (R2.same sa2).same sb2⟩⟩ (fun i σ H' _ z => SqL.of (z.2.1 _ _ db2 nlb2)) ?_ ?_⟩
  · rintro i x σ H' hx ⟨⟨v, rfl⟩, z1, rs2, R'⟩
    obtain ⟨z, hz, rfl⟩ := get_map hx
    obtain ⟨y, hy, rfl⟩ := get_map hz
    have sm : Same H H' := fun b o e => z1 b o (sH2 b o e) (ne_of_none e hD)
    refine ⟨_, rfl, _, rfl, q, _, rfl, .inr (SqT.of (sm _ _ hq)), rfl, flat_ints _, _, rfl, ?_⟩
    rw [inV_int]
    refine ite2 (fun c => ?_) (fun c => ?_)
    · have c : (!decide ((Int.ofNat y) ∈ posL p)) = true := c
      rw [notIn_pos] at c
      refine ⟨_, rfl, Or.inl ⟨rfl, _, SqL.of R'.top⟩, _, rfl, _, rfl, _, rfl, _, rfl, _, rfl, line_le (n := 4) (by decide), fun t ht => ?_⟩
      have st : Same H' (upd H' t (.tup ((posL { p with b := y }).map V.int))) := Same.upd ht
      have dt : TupAt (upd H' t (.tup ((posL { p with b := y }).map V.int))) t { p with b := y } := upd_same
      refine ⟨line_le (n := 3) (by decide), fun t2 ht2 => ?_⟩
      have st' : Same H' (upd H' t (.tup [.int p.wk, .int p.bk, .int p.a, .int (Int.ofNat y)])) := st
      have dt' : TupAt (upd H' t (.tup [.int p.wk, .int p.bk, .int p.a, .int (Int.ofNat y)])) t { p with b := y } := dt
      generalize upd H' t (.tup [.int p.wk, .int p.bk, .int p.a, .int (Int.ofNat y)]) = H3 at st' dt' ht2
      have s2 : Same H3 (upd H3 t2 (.tup [vN 2, vN y, .ref t])) := Same.upd ht2
      have d2 : MovAt (upd H3 t2 (.tup [vN 2, vN y, .ref t])) t2 (2, y, { p with b := y }) := ⟨t, upd_same, s2 _ _ dt'⟩
      have R2 := (R'.same st').same s2
      refine ⟨D, _, _, rfl, rfl, R2.top, ?_, ⟨_, rfl⟩, (z1.trans ((But.of_same st').trans (But.of_same s2))).upd, ?_⟩
      · rw [List.length_map, R2.len, List.length_append, List.length_map]
        have := filter_len (notIn p) (bCells g p) i
        have := bCells_len hF p
        exact line_lt (by have := kings_len hF p; have := aMoves_len hF p; rw [List.length_append]; omega)
      · rw [take_pos (notIn p) hy c, List.map_append, ← List.append_assoc]
        exact R2.snoc d2
    · have c : ¬ (!decide ((Int.ofNat y) ∈ posL p)) = true := c
      rw [notIn_pos] at c
      refine ⟨⟨_, rfl⟩, z1, ?_⟩
      rw [take_neg (notIn p) hy c]
      exact ⟨rs2, R'⟩
  rintro σ HE2 ⟨⟨v2, rfl⟩, zE2, rsE2, RE2⟩
  rw [List.length_map, List.length_map, List.take_length] at RE2
  have smE2 : Same H HE2 := fun b o e => zE2 b o (sH2 b o e) (ne_of_none e hD)

  exact last _ _ smE2 ⟨_, RE2⟩
end
end Cw
end

section
set_option Elab.async false
set_option maxRecDepth 100000
set_option maxHeartbeats 4000000
/- The walk: moves back. -/
namespace Cw
open PySem PySem.Spec PyProof.Rows L2 Ch
open PySem.W (Codec)
open Sn80 (Game stands check near whites blacks mate fair aims)

def spBackW (CG CB : Addr) : Sp := fun vs H Q _ => ∃ (G : GA) (g : Game) (q : Addr) (p : Ps), vs = [.ref G.ga, .ref q] ∧ GameAt CG CB G g H ∧ Fits g ∧ ChkRd H G g ∧ TupAt H q p ∧ Ch.St g p ∧
  ∀ H' l, Same H H' → H l = none → PosList H' l (bw g p) → Q (.ref l) H'
def spBackB (CG CB : Addr) : Sp := fun vs H Q _ => ∃ (G : GA) (g : Game) (q : Addr) (p : Ps), vs = [.ref G.ga, .ref q] ∧ GameAt CG CB G g H ∧ Fits g ∧ ChkRd H G g ∧ TupAt H q p ∧ Ch.St g p ∧
  ∀ H' l, Same H H' → H l = none → PosList H' l (bb g p) → Q (.ref l) H'
theorem wm_len {g : Game} (F : Fits g) (p : Ps) : (wm g p).length ≤ 75 := by
  unfold wm
  refine Nat.le_trans (List.length_filter_le _ _) ?_
  have := kings_len F p
  have := aMoves_len F p
  have := bMoves_len F p
  unfold wm0
  rw [List.length_append, List.length_append]
  omega
theorem get_filter {α : Type} {f : α → Bool} {l : List α} {i : Nat} {x : α} (h : (l.filter f)[i]? = some x) : f x = true := (List.mem_filter.mp (List.mem_of_getElem? h)).2
section
variable {P : Program} {w : World} {K : PySem.W.Frag} {mg : Str → Option Value} {base : Heap} {CG CB aS aA aL : Addr}
abbrev sBackW : Stmt := topS 26
abbrev nBackW : List Str := ["game", "position", "move"]
theorem scBackW : FnScope nBackW ["game", "position"] (defScope sBackW) := ⟨rfl, rfl, rfl, by decide +kernel, rfl, by decide +kernel, by decide +kernel⟩
theorem ok_backW {f f1 f2 f3 f4 : Addr} {fd fd1 fd2 fd3 fd4 : FuncData} (TB : TxB K mg CB aS aA aL) (T : TxG K mg CG) (N : FnM K mg f1 f2 f3 fd1 fd2 fd3) (F4 : Fun K "white_moves" "white_moves" sWhite f4 fd4) (g4 : mg "white_moves" = some (.ref f4)) (b4 : Binds K fd4 ["game", "position"] [])
    (F : Fun K "before_white" "before_white" sBackW f fd) : FnOk P w K mg base CX0 3 f fd ["game", "position"] (spBackW CG CB) := by
  have G2 : FnOk P w K mg base CX0 1 f2 fd2 ["game", "position"] (spSafe CG CB) := ok_safe T N.F2
  have G4 : FnOk P w K mg base CX0 2 f4 fd4 ["game", "position"] (spWhite CG CB) := ok_white TB T N F4
  refine F.ok scBackW (fun vs H Q E h => ?_) (fun cdv A outer s0 H vs Q E hr h => ?_)
  · obtain ⟨G, g, q, p, rfl, _⟩ := h
    rfl
  have hr1 : Room 1 _ := hr.mono (by decide)
  refine ⟨_, pss_one (ps_ret (pe_lc (own := [("move", 2)]) (g := gName 2) rfl scBackW.nd (pi_list (pe_call G4 hr rfl g4 F4.kp b4 .nil pass0 (pa_cons (pv 0) (pa_cons (pv 1) pa_nil)))) (blkOk_by (N := nBackW) (sc := defScope sBackW) (by decide +kernel))
      (fun _ _ _ _ _ => pg_name (i := 2) scBackW.nd rfl (Or.inl rfl)) (fun _ _ _ _ _ => pts_one (pt_val (pe_call G2 hr1 rfl N.g2 N.F2.kp N.b2 .nil pass0 (pa_cons (pv 0) (pa_cons (pe_ix (r := rIxT K) ix_tup (pv 2) pe_int (fun _ _ => rfl)) pa_nil)))))
      (fun _ _ _ _ _ => pe_ix (r := rIxT K) ix_tup (pv 2) pe_int (fun _ _ => rfl)))), ?_⟩
  obtain ⟨G, g, q, p, rfl, hG, hF, hC, hq, hp, k⟩ := h
  refine ⟨_, rfl, _, rfl, G, g, q, p, rfl, hG, hF, hC, hq, hp, fun H1 l1 s1 n1 ⟨rs, R⟩ => ?_⟩
  refine ⟨l1, rfl, ⟨_, SqL.of R.top⟩, fun D hD => lc_list (K := K) (a := l1) (xs := rs.map V.ref)
    (fun i H' => Same H1 H' ∧ PosList H' D ((((wm g p).map fun m => m.2.2).take i).filter fun o => fair g o)) ⟨Same.upd hD, PosList.nil upd_same⟩ (fun i H' _ z => SqL.of (z.1 _ _ R.top)) ?_ ?_⟩
  · rintro i x H' hx ⟨y1, rs3, R3⟩
    obtain ⟨b, hb, rfl⟩ := get_map hx
    obtain ⟨m, hm⟩ := get_len R.len hb
    obtain ⟨b', hb', t, hbt, htm⟩ := R.each i m hm
    cases hb.symm.trans hb'
    have hm' : ((wm g p).map fun m => m.2.2)[i]? = some m.2.2 := by rw [List.getElem?_map, hm]; rfl
    refine ⟨rfl, _, rfl, _, rfl, b, _, 2, _, rfl, rfl, SqT.of (y1 _ _ hbt), rfl, G, g, t, kp m.2.2, rfl, (hG.same s1).same y1, (hC.same s1).same y1, y1 _ _ htm, _, rfl, ?_⟩
    rw [safe_fair hF]
    refine ite2 (fun c => ?_) (fun c => ?_)
    · refine ⟨_, rfl, b, _, 2, _, rfl, rfl, SqT.of (y1 _ _ hbt), rfl, _, R3.top, ?_, Same.upd2 y1 hD, ?_⟩
      · rw [List.length_map, R3.len]
        refine line_lt (Nat.le_trans (filter_len _ _ _) ?_)
        rw [List.length_map]
        have := wm_len hF p
        omega
      · rw [take_pos (fun o => fair g o) hm' c]
        exact R3.snoc (y1 _ _ htm)
    · refine ⟨y1, ?_⟩
      rw [take_neg (fun o => fair g o) hm' c]
      exact ⟨rs3, R3⟩
  · rintro H2 ⟨y1, y2⟩
    rw [List.length_map, R.len, show (wm g p).length = ((wm g p).map fun m => m.2.2).length from (List.length_map _).symm, List.take_length, wm_whites hp] at y2
    exact k H2 D (s1.trans y1) (s1.free hD) y2
abbrev sBackB : Stmt := topS 27
abbrev nBackB : List Str := ["game", "position", "wk", "bk", "a", "b", "found", "cell", "other"]
theorem scBackB : FnScope nBackB ["game", "position"] (defScope sBackB) := ⟨rfl, rfl, rfl, by decide +kernel, rfl, by decide +kernel, by decide +kernel⟩
theorem ok_backB {f : Addr} {fd : FuncData} (TB : TxB K mg CB aS aA aL) (T : TxG K mg CG) (F : Fun K "before_black" "before_black" sBackB f fd) : FnOk P w K mg base CX0 1 f fd ["game", "position"] (spBackB CG CB) := by
  refine F.ok scBackB (fun vs H Q E h => ?_) (fun cdv A outer s0 H vs Q E hr h => ?_)
  · obtain ⟨G, g, q, p, rfl, _⟩ := h
    rfl
  have hu := hu_of hr
  refine ⟨_, pss_cons (ps_asg (pv 1) (pg_tup rfl (pgs_cons (pg_name (i := 2) scBackB.nd rfl (Or.inl rfl)) (pgs_cons (pg_name (i := 3) scBackB.nd rfl (Or.inl rfl)) (pgs_cons (pg_name (i := 4) scBackB.nd rfl (Or.inl rfl)) (pgs_cons (pg_name (i := 5) scBackB.nd rfl (Or.inl rfl)) pgs_nil))))))
    (pss_cons (ps_set (i := 6) scBackB.nd rfl (Or.inl rfl) (pe_lst pa_nil))
    (pss_cons (ps_for PassesOwn.never rfl (pi_list (pe_ix ix_list (pe_fld (pe_fld (pv 0) rfl) rfl) (pv 3) (fun _ _ => rfl))) (pg_name (i := 7) scBackB.nd rfl (Or.inl rfl))
      (pss_cons (ps_expr (pe_bm PySem.F.plainAttrs_list PySem.F.slot_list_append PySem.F.type_list_append mt_append (pv 6) (pa_cons (pe_tup (pa_cons (pv 2) (pa_cons (pv 7) (pa_cons (pv 4) (pa_cons (pv 5) pa_nil))))) pa_nil)))
      (pss_cons (ps_if (pt_cmpR op_eq (pv 4) (pe_fld (pe_fld (pv 0) rfl) rfl) (nomark _)) (pss_one (ps_expr (pe_bm PySem.F.plainAttrs_list PySem.F.slot_list_append PySem.F.type_list_append mt_append (pv 6) (pa_cons (pe_tup (pa_cons (pv 2) (pa_cons (pv 7) (pa_cons (pv 3) (pa_cons (pv 5) pa_nil))))) pa_nil)))) pss_nil)
      (pss_one (ps_if (pt_cmpR op_eq (pv 5) (pe_fld (pe_fld (pv 0) rfl) rfl) (nomark _)) (pss_one (ps_expr (pe_bm PySem.F.plainAttrs_list PySem.F.slot_list_append PySem.F.type_list_append mt_append (pv 6) (pa_cons (pe_tup (pa_cons (pv 2) (pa_cons (pv 7) (pa_cons (pv 4) (pa_cons (pv 3) pa_nil))))) pa_nil)))) pss_nil)))))
    (pss_one (ps_ret (pe_lc (own := [("other", 8)]) (g := gName 8) rfl scBackB.nd (pi_list (pv 6)) (blkOk_by (N := nBackB) (sc := defScope sBackB) (by decide +kernel))
      (fun _ _ _ _ _ => pg_name (i := 8) scBackB.nd rfl (Or.inl rfl)) (fun _ _ _ _ _ => pts_one (pt_cmp (pc_din hu (pv 8) (fldK (K := K) rfl (pv 0) rfl)) rfl)) (fun _ _ _ _ _ => pv 8)))))), ?_⟩
  obtain ⟨G, g, q, p, rfl, hG, hF, hC, hq, hp, k⟩ := h
  obtain ⟨dx, bl, rs, r, h1, h2, h3, h4⟩ := beside_get hG.board hp.bk
  have cl := cells_le hF
  have blen : (besideN g.s p.bk).length ≤ 25 := filter_range_le _ _ cl.1
  refine ⟨_, rfl, q, _, rfl, SqT.of hq, rfl, _, _, rfl, _, _, rfl, _, _, rfl, _, _, rfl, rfl, ?_⟩
  refine ⟨line_le (n := 0) (by decide), fun D hD => ?_⟩
  have s1 : Same H (upd H D (.lst [])) := Same.upd hD
  have d1 : PosList (upd H D (.lst [])) D [] := PosList.nil upd_same
  generalize upd H D (.lst []) = H1 at s1 d1
  -- one place appended to
  have add : ∀ (H2 H3 : Hp) (ps : List Ps) (o : Ps) (Q2 : Hp → Prop), Same H H2 → PosList H2 D ps → ps.length ≤ 1000 → (∀ H4, Same H H4 → PosList H4 D (ps ++ [o]) → Q2 H4) → ∀ t, H2 t = none → H3 = upd H2 t (.tup ((posL o).map V.int)) →
      rAppend (.ref D) [.ref t] H3 (fun _ H4 => Q2 H4) := fun H2 H3 ps o Q2 sm ⟨rs2, R⟩ len kk t ht e => by
    subst e
    have st : Same H2 (upd H2 t (.tup ((posL o).map V.int))) := Same.upd ht
    have dt : TupAt (upd H2 t (.tup ((posL o).map V.int))) t o := upd_same
    have R2 := R.same st
    refine ⟨D, _, _, rfl, rfl, R2.top, ?_, ?_⟩
    · rw [List.length_map, R2.len]
      exact line_lt (by omega)
    · exact kk _ (Same.upd2 (sm.trans st) hD) (R2.snoc dt)
  refine ⟨_, rfl, G.ga, CG, G.dx, _, _, rfl, s1 _ _ hG.top, T.cl, T.n1, gF_board G, G.ba, CB, dx, _, _, rfl, s1 _ _ h1, TB.cl, TB.n3, bF_beside g.s bl G.ld, _, rfl, bl, _, _, _, rfl, rfl, SqL.of (s1 _ _ h2), h3, r, rfl, ⟨_, SqL.of (s1 _ _ h4)⟩, for_list (K := K) (a := r) (xs := ((besideN g.s p.bk).map Int.ofNat).map V.int)
    (fun i σ H' => (∃ v, σ = [some (.ref G.ga), some (.ref q), some (.int p.wk), some (.int p.bk), some (.int p.a), some (.int p.b), some (.ref D), v, none]) ∧ Same H H' ∧ PosList H' D (((besideN g.s p.bk).take i).flatMap (bb1 g p)) ∧ (((besideN g.s p.bk).take i).flatMap (bb1 g p)).length ≤ 3 * i)
    ⟨⟨_, rfl⟩, s1, d1, Nat.le_refl _⟩ (fun i σ H' _ z => SqL.of (z.2.1 _ _ h4)) ?_ ?_⟩
  · rintro i x σ H' hx ⟨⟨v, rfl⟩, z1, z2, z3⟩
    obtain ⟨z, hz, rfl⟩ := get_map hx
    obtain ⟨y, hy, rfl⟩ := get_map hz
    have il := (List.getElem?_eq_some_iff.mp hy).1
    have ft : ((besideN g.s p.bk).take (i + 1)).flatMap (bb1 g p) = ((besideN g.s p.bk).take i).flatMap (bb1 g p) ++ bb1 g p y := by
      rw [take_more hy, List.flatMap_append]
      simp
    rw [ft]
    generalize ((besideN g.s p.bk).take i).flatMap (bb1 g p) = ps at z2 z3
    have b1len : (bb1 g p y).length ≤ 3 := by
      unfold bb1
      rw [List.length_cons, List.length_append]
      split <;> split <;> simp
    obtain ⟨rs2, R⟩ := id z2
    refine ⟨_, rfl, Or.inl ⟨rfl, _, SqL.of R.top⟩, _, rfl, _, rfl, _, rfl, _, rfl, line_le (n := 4) (by decide), fun t ht => ?_⟩
    refine add H' _ ps ⟨p.wk, y, p.a, p.b⟩ _ z1 z2 (by omega) (fun H2 y1 y2 => ?_) t ht rfl
    have fin : ∀ H4, Same H H4 → ∀ ps4, PosList H4 D ps4 → ps4 = ps ++ bb1 g p y →
        (∃ v, ([some (V.ref G.ga), some (V.ref q), some (V.int p.wk), some (V.int p.bk), some (V.int p.a), some (V.int p.b), some (V.ref D), some (V.int (Int.ofNat y)), none] : L2.St) = [some (.ref G.ga), some (.ref q), some (.int p.wk), some (.int p.bk), some (.int p.a), some (.int p.b), some (.ref D), v, none]) ∧
          Same H H4 ∧ PosList H4 D (ps ++ bb1 g p y) ∧ (ps ++ bb1 g p y).length ≤ 3 * (i + 1) := fun H4 w1 ps4 w2 e => by
      subst e
      refine ⟨⟨_, rfl⟩, w1, w2, ?_⟩
      rw [List.length_append]
      omega
    have offA : decide (V.int (p.a : Int) = V.int ((g.s * g.s : Nat) : Int)) = decide (p.a = g.cells) := by
      refine b_eq ?_
      rw [decide_eq_true_eq, decide_eq_true_eq]
      constructor
      · intro z
        have := V.int.inj z
        show p.a = g.s * g.s
        omega
      · intro z
        rw [z]
        rfl
    have offB : decide (V.int (p.b : Int) = V.int ((g.s * g.s : Nat) : Int)) = decide (p.b = g.cells) := by
      refine b_eq ?_
      rw [decide_eq_true_eq, decide_eq_true_eq]
      constructor
      · intro z
        have := V.int.inj z
        show p.b = g.s * g.s
        omega
      · intro z
        rw [z]
        rfl
    refine ⟨_, rfl, _, rfl, G.ga, CG, G.dx, _, _, rfl, y1 _ _ hG.top, T.cl, T.n1, gF_board G, G.ba, CB, dx, _, _, rfl, y1 _ _ h1, TB.cl, TB.n2, bF_off g.s bl G.ld, rfl, _, rfl, ?_⟩
    rw [offA]
    by_cases ca : p.a = g.cells
    · rw [decide_eq_true ca]
      obtain ⟨RAs, RA⟩ := id y2
      refine ⟨_, rfl, Or.inl ⟨rfl, _, SqL.of RA.top⟩, _, rfl, _, rfl, _, rfl, _, rfl, line_le (n := 4) (by decide), fun tRA htRA => ?_⟩
      refine add H2 _ (ps ++ [⟨p.wk, y, p.a, p.b⟩]) ⟨p.wk, y, p.bk, p.b⟩ _ y1 y2 (by rw [List.length_append]; simp only [List.length_append, List.length_cons, List.length_nil]; omega) (fun H3 u1 u2 => ?_) tRA htRA rfl
      refine ⟨_, rfl, _, rfl, G.ga, CG, G.dx, _, _, rfl, u1 _ _ hG.top, T.cl, T.n1, gF_board G, G.ba, CB, dx, _, _, rfl, u1 _ _ h1, TB.cl, TB.n2, bF_off g.s bl G.ld, rfl, _, rfl, ?_⟩
      rw [offB]
      by_cases cb : p.b = g.cells
      · rw [decide_eq_true cb]
        obtain ⟨RBs, RB⟩ := id u2
        refine ⟨_, rfl, Or.inl ⟨rfl, _, SqL.of RB.top⟩, _, rfl, _, rfl, _, rfl, _, rfl, line_le (n := 4) (by decide), fun tRB htRB => ?_⟩
        refine add H3 _ (ps ++ [⟨p.wk, y, p.a, p.b⟩] ++ [⟨p.wk, y, p.bk, p.b⟩]) ⟨p.wk, y, p.a, p.bk⟩ _ u1 u2 (by rw [List.length_append]; simp only [List.length_append, List.length_cons, List.length_nil]; omega) (fun H4 w1 w2 => ?_) tRB htRB rfl
        exact fin H4 w1 _ w2 (by unfold bb1; rw [if_pos ca, if_pos cb]; simp)
      · rw [decide_eq_false cb]
        exact fin H3 u1 _ u2 (by unfold bb1; rw [if_pos ca, if_neg cb]; simp)
    · rw [decide_eq_false ca]
      refine ⟨_, rfl, _, rfl, G.ga, CG, G.dx, _, _, rfl, y1 _ _ hG.top, T.cl, T.n1, gF_board G, G.ba, CB, dx, _, _, rfl, y1 _ _ h1, TB.cl, TB.n2, bF_off g.s bl G.ld, rfl, _, rfl, ?_⟩
      rw [offB]
      by_cases cb : p.b = g.cells
      · rw [decide_eq_true cb]
        obtain ⟨RBs, RB⟩ := id y2
        refine ⟨_, rfl, Or.inl ⟨rfl, _, SqL.of RB.top⟩, _, rfl, _, rfl, _, rfl, _, rfl, line_le (n := 4) (by decide), fun tRB htRB => ?_⟩
        refine add H2 _ (ps ++ [⟨p.wk, y, p.a, p.b⟩]) ⟨p.wk, y, p.a, p.bk⟩ _ y1 y2 (by rw [List.length_append]; simp only [List.length_append, List.length_cons, List.length_nil]; omega) (fun H4 w1 w2 => ?_) tRB htRB rfl
        exact fin H4 w1 _ w2 (by unfold bb1; rw [if_neg ca, if_pos cb]; simp)
      · rw [decide_eq_false cb]
        exact fin H2 y1 _ y2 (by unfold bb1; rw [if_neg ca, if_neg cb]; simp)
  · rintro σ H' ⟨⟨v, rfl⟩, z1, ⟨rs2, R⟩, z3⟩
    rw [List.length_map, List.length_map, List.take_length] at R z3
    refine ⟨_, rfl, D, rfl, ⟨_, SqL.of R.top⟩, fun D2 hD2 => lc_list (K := K) (a := D) (xs := rs2.map V.ref)
      (fun i H2 => Same H' H2 ∧ PosList H2 D2 ((((besideN g.s p.bk).flatMap (bb1 g p)).take i).filter fun o => stands g o)) ⟨Same.upd hD2, PosList.nil upd_same⟩ (fun i H2 _ z => SqL.of (z.1 _ _ R.top)) ?_ ?_⟩
    · rintro i x H2 hx ⟨y1, rs3, R3⟩
      obtain ⟨b, hb, rfl⟩ := get_map hx
      obtain ⟨o, ho⟩ := get_len R.len hb
      obtain ⟨b', hb', hbo⟩ := R.each i o ho
      cases hb.symm.trans hb'
      have g3 := (hG.same z1).same y1
      refine ⟨rfl, _, rfl, _, rfl, G.ga, CG, G.dx, _, _, rfl, g3.top, T.cl, T.n3, gF_checks G, G.ca, _, rfl, dget_t ((hC.same z1).same y1) (k := kp o) (y1 _ _ hbo), _, rfl, ?_⟩
      rw [in_stands hF]
      refine ite2 (fun c => ?_) (fun c => ?_)
      · refine ⟨_, rfl, _, R3.top, ?_, Same.upd2 y1 hD2, ?_⟩
        · rw [List.length_map, R3.len]
          refine line_lt (Nat.le_trans (filter_len _ _ _) ?_)
          omega
        · rw [take_pos (fun o => stands g o) ho c]
          exact R3.snoc (y1 _ _ hbo)
      · refine ⟨y1, ?_⟩
        rw [take_neg (fun o => stands g o) ho c]
        exact ⟨rs3, R3⟩
    · rintro H2 ⟨y1, y2⟩
      rw [List.length_map, R.len, List.take_length] at y2
      exact k H2 D2 (z1.trans y1) (z1.free hD2) y2
end
end Cw
end

section
set_option Elab.async false
set_option maxRecDepth 100000
set_option maxHeartbeats 4000000
/- The walk: mates, rounds. -/
namespace Cw
open PySem PySem.Spec PyProof.Rows L2 Ch
open PySem.W (Codec)
open Sn80 (Game stands check near whites blacks mate fair aims)

/-! ## all but some things is as it was -/
def Keep (X : List Addr) (H H' : Hp) : Prop := ∀ b o, H b = some o → b ∉ X → H' b = some o
theorem Keep.of_same {X : List Addr} {H H' : Hp} (s : Same H H') : Keep X H H' := fun b o e _ => s b o e
theorem Keep.trans {X : List Addr} {H H1 H2 : Hp} (a : Keep X H H1) (b : Keep X H1 H2) : Keep X H H2 := fun c o e n => b c o (a c o e n) n
theorem Keep.upd {X : List Addr} {H H' : Hp} {d : Addr} {o : HO} (a : Keep X H H') (h : d ∈ X ∨ H d = none) : Keep X H (L2.upd H' d o) := fun c u e n => by
  have ne : c ≠ d := by
    rcases h with h | h
    · exact fun z => n (z ▸ h)
    · exact ne_of_none e h
  rw [upd_ne ne]
  exact a c u e n
theorem IsT.tup {H : Hp} {X : List Addr} {b : Addr} {xs : List V} (t : ∀ x, x ∈ X → IsT H x) (h : H b = some (.tup xs)) : b ∉ X := fun m => (t b m).ne h (fun _ z => nomatch z) (fun _ _ z => nomatch z) rfl
theorem IsT.lst {H : Hp} {X : List Addr} {b : Addr} {xs : List V} (t : ∀ x, x ∈ X → IsT H x) (h : H b = some (.lst xs)) : b ∉ X := fun m => (t b m).ne h (fun _ z => nomatch z) (fun _ _ z => nomatch z) rfl
theorem IsT.ins {H : Hp} {X : List Addr} {b C dx : Addr} {fs : List (Str × V)} (t : ∀ x, x ∈ X → IsT H x) (h : H b = some (.ins C dx fs)) : b ∉ X := fun m => (t b m).ne h (fun _ z => nomatch z) (fun _ _ z => nomatch z) rfl
theorem LinesAt.keep {X : List Addr} {H H' : Hp} {q : Addr} {Ls : List (List Int)} (h : LinesAt H q Ls) (k : Keep X H H') (t : ∀ x, x ∈ X → IsT H x) : LinesAt H' q Ls := by
  obtain ⟨rs, h1, h2, h3⟩ := h
  refine ⟨rs, k _ _ h1 (IsT.lst t h1), h2, fun i L e => ?_⟩
  obtain ⟨r, e1, e2, e3⟩ := h3 i L e
  exact ⟨r, e1, k _ _ e2 (IsT.lst t e2), e3⟩
theorem GameAt.keep {CG CB : Addr} {G : GA} {g : Game} {H H' : Hp} {X : List Addr} (h : GameAt CG CB G g H) (k : Keep X H H') (t : ∀ x, x ∈ X → IsT H x) (ne : G.ld ∉ X) : GameAt CG CB G g H' := by
  obtain ⟨dx, bl, kvs, h1, h2, h3, h4⟩ := h.board.ex
  refine ⟨k _ _ h.top (IsT.ins t h.top), k _ _ h.pieces (IsT.tup t h.pieces), ⟨dx, bl, kvs, k _ _ h1 (IsT.ins t h1), h2.keep k t, k _ _ h3 ne, fun kind c hk hc => ?_⟩, h.apart⟩
  obtain ⟨r, e1, e2⟩ := h4 kind c hk hc
  exact ⟨r, e1, e2.keep k t⟩
theorem PosR.keep {H H' : Hp} {l : Addr} {rs : List Addr} {ps : List Ps} {X : List Addr} (h : PosR H l rs ps) (k : Keep X H H') (t : ∀ x, x ∈ X → IsT H x) : PosR H' l rs ps :=
  ⟨k _ _ h.top (IsT.lst t h.top), h.len, fun i p e => let ⟨r, e1, e2⟩ := h.each i p e; ⟨r, e1, k _ _ e2 (IsT.tup t e2)⟩⟩
theorem PosList.same {H H' : Hp} {l : Addr} {ps : List Ps} (h : PosList H l ps) (s : Same H H') : PosList H' l ps := let ⟨rs, R⟩ := h; ⟨rs, R.same s⟩
theorem PosList.but {H H' : Hp} {l d : Addr} {ps : List Ps} (h : PosList H l ps) (k : But d H H') (t : IsT H d) : PosList H' l ps := let ⟨rs, R⟩ := h; ⟨rs, R.but k t⟩
theorem But.upd0 {H : Hp} {d : Addr} {o : HO} : But d H (L2.upd H d o) := fun b u e n => by rw [upd_ne n]; exact e

/-- left, loses and what's found, as they stand -/
structure LAt (G : GA) (g : Game) (X : List Addr) (H : Hp) (D : Addr) (st : MS) (H' : Hp) : Prop where
  keep : Keep X H H'
  c : ChkRd H' G g
  f : H' G.fa = some (.dT (encI st.F))
  l : H' G.la = some (.dT (encN st.L))
  d : PosList H' D st.fd
section
variable {G : GA} {g : Game} {X : List Addr} {H H' H2 : Hp} {D : Addr} {st : MS}
theorem LAt.same (h : LAt G g X H D st H') (s : Same H' H2) : LAt G g X H D st H2 := ⟨h.keep.trans (Keep.of_same s), h.c.same s, s _ _ h.f, s _ _ h.l, h.d.same s⟩
theorem ChkRd.but {d : Addr} (h : ChkRd H G g) (k : But d H H') (ne : G.ca ≠ d) : ChkRd H' G g := by
  rcases h with h | ⟨u, h⟩
  · exact .inl (k _ _ h ne)
  · exact .inr ⟨u, k _ _ h ne⟩
theorem LAt.putF (ap : Apart G) (h : LAt G g X H D st H') (m : G.fa ∈ X) (p : Ps) (v : Int) : LAt G g X H D ⟨put st.F p v, st.L, st.fd⟩ (upd H' G.fa (.dT (encI (put st.F p v)))) :=
  ⟨h.keep.upd (.inl m), h.c.but But.upd0 ap.cf, upd_same, by rw [upd_ne ap.lf]; exact h.l, h.d.but But.upd0 (IsT.of h.f)⟩
theorem LAt.putL (ap : Apart G) (h : LAt G g X H D st H') (m : G.la ∈ X) (p : Ps) (v : Nat) : LAt G g X H D ⟨st.F, put st.L p v, st.fd⟩ (upd H' G.la (.dT (encN (put st.L p v)))) :=
  ⟨h.keep.upd (.inl m), h.c.but But.upd0 ap.cl, by rw [upd_ne (Ne.symm ap.lf)]; exact h.f, upd_same, h.d.but But.upd0 (IsT.of h.l)⟩
theorem Rd.upd {a l : Addr} {kvs : List (List Key × V)} {xs ys : List V} (h : Rd H a (.dT kvs)) (e : H l = some (.lst xs)) : Rd (L2.upd H l (.lst ys)) a (.dT kvs) := by
  rcases h with h | ⟨u, h⟩
  · exact .inl (by rw [upd_ne (ne_of h e (fun z => nomatch z))]; exact h)
  · exact .inr ⟨u, by rw [upd_ne (ne_of h e (fun z => nomatch z))]; exact h⟩
theorem LAt.app {r : Addr} {p : Ps} {rs : List Addr} (h : LAt G g X H D st H') (hD : H D = none) (R : PosR H' D rs st.fd) (hr : TupAt H' r p) : LAt G g X H D ⟨st.F, st.L, st.fd ++ [p]⟩ (upd H' D (.lst (rs.map V.ref ++ [V.ref r]))) :=
  ⟨h.keep.upd (.inr hD), Rd.upd h.c R.top, by rw [upd_ne (ne_of h.f R.top (fun z => nomatch z))]; exact h.f, by rw [upd_ne (ne_of h.l R.top (fun z => nomatch z))]; exact h.l, R.snoc hr⟩
end

/-! ## for position in a locked table -/
theorem for_keysT {d : Addr} {o : Obj} {kvs : List (List Key × V)} {g : TG} {tb : TS} {D : Ends} {τ : L2.St} {J : Hp} (Pv : Nat → L2.St → Hp → Prop) (start : Pv 0 τ J) (lies : ∀ i τ J, Pv i τ J → J d = some (.frz o (.dT kvs)))
    (turn : ∀ i k v q τ J, kvs[i]? = some (k, v) → J q = some (.tup (k.map kV)) → Pv i τ J → g (.ref q) τ J fun τ2 J2 => tb { D with nx := Pv (i + 1), ct := Pv (i + 1), bk := D.nx } τ2 J2) (over : ∀ τ J, Pv kvs.length τ J → D.nx τ J) :
    ∃ At : Nat → Nat → L2.St → Hp → Prop,
      (∃ left, At 0 left τ J) ∧
      ∀ i left τ J, At i left τ J →
        ((Itkt d o kvs).stop i J ∧ D.nx τ J) ∨
        ((Itkt d o kvs).go i J ∧ ∃ Nx : L2.St → Hp → Prop, (∀ τ' J', Nx τ' J' → ∃ left', left' < left ∧ At (i + 1) left' τ' J') ∧
          ∀ x J', (Itkt d o kvs).yld i J x J' → g x τ J' fun τ2 J2 => tb { D with nx := Nx, ct := Nx, bk := D.nx } τ2 J2) := by
  refine ⟨fun i left τ J => left + i = kvs.length ∧ Pv i τ J, ⟨kvs.length, rfl, start⟩, fun i left τ J ⟨sum, p⟩ => ?_⟩
  have here := lies i τ J p
  cases left with
  | zero =>
    have e : kvs.length = i := by omega
    exact .inl ⟨⟨here, Nat.le_of_eq e⟩, over τ J (e ▸ p)⟩
  | succ more =>
    refine .inr ⟨⟨here, by omega⟩, Pv (i + 1), fun τ' J' p' => ⟨more, Nat.lt_succ_self _, by omega, p'⟩, fun x J' y => ?_⟩
    obtain ⟨same, k, v, t, h1, rfl, h3⟩ := y
    subst same
    exact turn i k v t τ _ h1 h3 p
theorem enc_get {α : Type} {f : α → V} {l : List (Ps × α)} {i : Nat} {k : List Key} {v : V} (h : (enc f l)[i]? = some (k, v)) : ∃ e, l[i]? = some e ∧ k = kp e.1 ∧ v = f e.2 := by
  obtain ⟨e, he, z⟩ := get_map h
  exact ⟨e, he, congrArg Prod.fst z, congrArg Prod.snd z⟩

def spMates (CG CB : Addr) : Sp := fun vs H Q _ => ∃ (G : GA) (g : Game), vs = [.ref G.ga] ∧ GameAt CG CB G g H ∧ Fits g ∧ H G.ca = some (.dT (encB (checksM g))) ∧ H G.fa = some (.dT []) ∧ H G.la = some (.dT []) ∧
  ∀ H' D, H D = none → LAt G g [G.fa, G.la] H D (mates g (keysM g)) H' → Q (.ref D) H'
section
variable {P : Program} {w : World} {K : PySem.W.Frag} {mg : Str → Option Value} {base : Heap} {CG CB aS aA aL : Addr}
abbrev sMates : Stmt := topS 28
abbrev nMates : List Str := ["game", "found", "position"]
theorem scMates : FnScope nMates ["game"] (defScope sMates) := ⟨rfl, rfl, rfl, by decide +kernel, rfl, by decide +kernel, by decide +kernel⟩
theorem ok_mates {f f1 f2 f3 f4 : Addr} {fd fd1 fd2 fd3 fd4 : FuncData} (TB : TxB K mg CB aS aA aL) (T : TxG K mg CG) (N : FnM K mg f1 f2 f3 fd1 fd2 fd3) (F4 : Fun K "black_moves" "black_moves" sBlack f4 fd4) (g4 : mg "black_moves" = some (.ref f4)) (b4 : Binds K fd4 ["game", "position"] [])
    (F : Fun K "find_mates" "find_mates" sMates f fd) : FnOk P w K mg base CX0 3 f fd ["game"] (spMates CG CB) := by
  have G4 : FnOk P w K mg base CX0 2 f4 fd4 ["game", "position"] (spBlack CG CB) := ok_black TB T N F4
  refine F.ok scMates (fun vs H Q E h => ?_) (fun cdv A outer s0 H vs Q E hr h => ?_)
  · obtain ⟨G, g, rfl, _⟩ := h
    rfl
  have hu := hu_of hr
  refine ⟨_, pss_cons (ps_set (i := 1) scMates.nd rfl (Or.inl rfl) (pe_lst pa_nil))
    (pss_cons (ps_lock (ps_for PassesOwn.never rfl (pi_keys (pe_fld (pv 0) rfl)) (pg_name (i := 2) scMates.nd rfl (Or.inl rfl))
      (pss_cons (ps_dput hu (pe_fld (pv 0) rfl) (pv 2) (pe_callB call_len_seq (by rfl) T.mlen boot_len (pa_cons (pe_call G4 hr rfl g4 F4.kp b4 .nil pass0 (pa_cons (pv 0) (pa_cons (pv 2) pa_nil))) pa_nil)) rfl)
      (pss_one (ps_if (PW.pt (pw_and (pt_cmpR op_eq (pe_dget hu (pe_fld (pv 0) rfl) (pv 2) (fun _ _ => rfl)) pe_int (nomark _)) (pw_and1 (pt_val (pe_dget hu (pe_fld (pv 0) rfl) (pv 2) (fun _ _ => rfl))))))
        (pss_cons (ps_dput hu (pe_fld (pv 0) rfl) (pv 2) pe_int rfl)
        (pss_one (ps_expr (pe_bm PySem.F.plainAttrs_list PySem.F.slot_list_append PySem.F.type_list_append mt_append (pv 1) (pa_cons (pv 2) pa_nil))))) pss_nil)))))
    (pss_one (ps_ret (pv 1)))), ?_⟩
  obtain ⟨G, g, rfl, hG, hF, hc, hf, hl, k⟩ := h
  have ap := hG.apart
  refine ⟨line_le (n := 0) (by decide), fun D hD => ?_⟩
  have s1 : Same H (upd H D (.lst [])) := Same.upd hD
  have d1 : PosList (upd H D (.lst [])) D [] := PosList.nil upd_same
  generalize upd H D (.lst []) = H1 at s1 d1
  refine ⟨G.ca, _, s1 _ _ hc, trivial, fun od => ?_⟩
  have tX : ∀ x, x ∈ [G.fa, G.la, G.ca] → IsT H x := fun x hx => by
    simp only [List.mem_cons, List.not_mem_nil, or_false] at hx
    rcases hx with rfl | rfl | rfl
    · exact IsT.of hf
    · exact IsT.of hl
    · exact IsT.of hc
  have nX : G.ld ∉ [G.fa, G.la, G.ca] := by
    simp only [List.mem_cons, List.not_mem_nil, or_false]
    rintro (z | z | z)
    · exact ap.df z
    · exact ap.dl z
    · exact ap.dc z
  have L0 : LAt G g [G.fa, G.la, G.ca] H D (mates g []) (upd H1 G.ca (.frz od (.dT (encB (checksM g))))) :=
    ⟨(Keep.of_same s1).upd (.inl (by simp)), .inr ⟨od, upd_same⟩, by rw [upd_ne (Ne.symm ap.cf)]; exact s1 _ _ hf, by rw [upd_ne (Ne.symm ap.cl)]; exact s1 _ _ hl, d1.but But.upd0 (IsT.of (s1 _ _ hc))⟩
  have g0 := hG.keep L0.keep tX nX
  have z0 : (upd H1 G.ca (.frz od (.dT (encB (checksM g))))) G.ca = some (.frz od (.dT (encB (checksM g)))) := upd_same
  generalize upd H1 G.ca (.frz od (.dT (encB (checksM g)))) = H2 at L0 g0 z0
  refine ⟨_, rfl, G.ga, CG, G.dx, _, _, rfl, g0.top, T.cl, T.n3, gF_checks G, G.ca, od, rfl, .inr ⟨_, z0, for_keysT (d := G.ca) (o := od) (kvs := encB (checksM g))
    (fun i σ H' => (∃ v, σ = [some (.ref G.ga), some (.ref D), v]) ∧ LAt G g [G.fa, G.la, G.ca] H D (mates g ((keysM g).take i)) H' ∧ H' G.ca = some (.frz od (.dT (encB (checksM g)))))
    ⟨⟨none, rfl⟩, L0, z0⟩ (fun i σ H' z => z.2.2) ?_ ?_⟩⟩
  · rintro i kk vv q σ H' hi hq ⟨⟨v, rfl⟩, L, zc⟩
    obtain ⟨⟨p, b⟩, he, rfl, rfl⟩ := enc_get hi
    have hk : (keysM g)[i]? = some p := by
      unfold keysM
      rw [List.getElem?_map, he]
      rfl
    have hlook := look_of_mem (Chk_all hF).nd (List.mem_of_getElem? he)
    obtain ⟨sp, hb⟩ := (checks_look hF).mp hlook
    have bound := mates_pre hF (List.take_append_drop i (keysM g)).symm
    have g1 := hG.keep L.keep tX nX
    have mstep : mates g ((keysM g).take (i + 1)) = stepM g (mates g ((keysM g).take i)) p := by
      rw [take_more hk, mates_snoc]
    rw [mstep]
    generalize mates g ((keysM g).take i) = st at L bound
    refine ⟨_, rfl, _, rfl, G, g, q, p, rfl, g1, hF, L.c, hq, sp, fun H3 l3 s3 n3 ⟨rs3, R3⟩ => ?_⟩
    have L3 := L.same s3
    have g3 := g1.same s3
    have hq3 : TupAt H3 q p := s3 _ _ hq
    refine ⟨l3, _, rfl, .inl (SqL.of R3.top), _, rfl, G.ga, CG, G.dx, _, _, rfl, g3.top, T.cl, T.n6, gF_left G, _, rfl, G.fa, _, rfl, DPut.t (k := kp p) L3.f hq3 ?_, ?_⟩
    · unfold encI
      rw [enc_len]
      exact line_lt (by omega)
    rw [List.length_map, R3.len]
    have ep : putK (encI st.F) (kp p) (V.int ((blacks g p).length : Int)) = encI (put st.F p ((blacks g p).length : Int)) := putK_enc _ _ _ _
    rw [ep]
    have L4 := L3.putF ap (by simp) p ((blacks g p).length : Int)
    have g4' := hG.keep L4.keep tX nX
    have hq4 : TupAt (upd H3 G.fa (.dT (encI (put st.F p ((blacks g p).length : Int))))) q p := by
      unfold TupAt
      rw [upd_ne (ne_of hq3 L3.f (fun z => nomatch z))]
      exact hq3
    have zc4 : (upd H3 G.fa (.dT (encI (put st.F p ((blacks g p).length : Int))))) G.ca = some (.frz od (.dT (encB (checksM g)))) := by
      rw [upd_ne ap.cf]
      exact s3 _ _ zc
    generalize upd H3 G.fa (.dT (encI (put st.F p ((blacks g p).length : Int)))) = H4 at L4 g4' hq4 zc4
    have gv : DGet H4 G.fa (.ref q) (some (.int ((blacks g p).length : Int))) := by
      have := dget_t (k := kp p) (.inl L4.f) hq4
      unfold encI at this
      rw [valV_enc, look_put, if_pos rfl] at this
      exact this
    have gc : DGet H4 G.ca (.ref q) (some (.bl b)) := by
      have := dget_t (k := kp p) L4.c hq4
      unfold encB at this
      rw [valV_enc, hlook] at this
      exact this
    have no : ¬ ((blacks g p).length = 0 ∧ check g p = true) → (∃ v, ([some (V.ref G.ga), some (V.ref D), some (V.ref q)] : L2.St) = [some (.ref G.ga), some (.ref D), v]) ∧ LAt G g [G.fa, G.la, G.ca] H D (stepM g st p) H4 ∧ H4 G.ca = some (.frz od (.dT (encB (checksM g)))) := fun c => by
      unfold stepM
      rw [if_neg c]
      exact ⟨⟨_, rfl⟩, L4, zc4⟩
    refine ⟨_, rfl, G.ga, CG, G.dx, _, _, rfl, g4'.top, T.cl, T.n6, gF_left G, _, rfl, G.fa, _, rfl, gv, rfl, _, rfl, ite2 (fun c => ?_) (fun c => ?_)⟩
    · have c0 : (blacks g p).length = 0 := by
        have := V.int.inj (of_decide_eq_true c)
        omega
      refine ⟨_, rfl, G.ga, CG, G.dx, _, _, rfl, g4'.top, T.cl, T.n3, gF_checks G, _, rfl, G.ca, _, rfl, gc, _, rfl, ite2 (fun c2 => ?_) (fun c2 => ?_)⟩
      · have c1 : check g p = true := by rw [← hb]; exact c2
        refine ⟨_, rfl, G.ga, CG, G.dx, _, _, rfl, g4'.top, T.cl, T.n5, gF_loses G, _, rfl, G.la, _, rfl, DPut.t (k := kp p) L4.l hq4 ?_, ?_⟩
        · unfold encN
          rw [enc_len]
          exact line_lt (by have := bound.2.1; show st.L.length ≤ _; omega)
        have ep2 : putK (encN st.L) (kp p) (V.int 0) = encN (put st.L p 0) := putK_enc vN _ _ 0
        rw [show (⟨put st.F p ((blacks g p).length : Int), st.L, st.fd⟩ : MS).L = st.L from rfl, ep2]
        have L5 := L4.putL ap (by simp) p 0
        have hq5 : TupAt (upd H4 G.la (.dT (encN (put st.L p 0)))) q p := by
          unfold TupAt
          rw [upd_ne (ne_of hq4 L4.l (fun z => nomatch z))]
          exact hq4
        have zc5 : (upd H4 G.la (.dT (encN (put st.L p 0)))) G.ca = some (.frz od (.dT (encB (checksM g)))) := by
          rw [upd_ne ap.cl]
          exact zc4
        generalize upd H4 G.la (.dT (encN (put st.L p 0))) = H5 at L5 hq5 zc5
        obtain ⟨rs5, R5⟩ := id L5.d
        refine ⟨_, rfl, Or.inl ⟨rfl, _, SqL.of R5.top⟩, _, rfl, D, _, _, rfl, rfl, R5.top, ?_, ⟨_, rfl⟩, ?_, ?_⟩
        · rw [List.length_map, R5.len]
          exact line_lt (by have := bound.2.2; show st.fd.length ≤ _; omega)
        · unfold stepM
          rw [if_pos ⟨c0, c1⟩]
          exact L5.app hD R5 hq5
        · rw [upd_ne (ne_of zc5 R5.top (fun z => nomatch z))]
          exact zc5
      · exact no fun z => c2 (by rw [hb]; exact z.2)
    · refine no fun z => c ?_
      rw [z.1]
      rfl
  · rintro σ H' ⟨⟨v, rfl⟩, L, zc⟩
    have e1 : (keysM g).take (encB (checksM g)).length = keysM g := by
      unfold encB keysM
      rw [enc_len]
      exact List.take_of_length_le (by rw [List.length_map]; exact Nat.le_refl _)
    rw [e1] at L
    refine ⟨zc, _, rfl, k _ D hD ⟨fun b o e n => ?_, .inl upd_same, ?_, ?_, ?_⟩⟩
    · by_cases z : b = G.ca
      · subst z
        rw [upd_same, ← e, hc]
      · rw [upd_ne z]
        refine L.keep b o e ?_
        simp only [List.mem_cons, List.not_mem_nil, or_false] at n ⊢
        rintro (y | y | y)
        · exact n (.inl y)
        · exact n (.inr y)
        · exact z y
    · rw [upd_ne (Ne.symm ap.cf)]; exact L.f
    · rw [upd_ne (Ne.symm ap.cl)]; exact L.l
    · exact L.d.but But.upd0 ⟨_, .inr ⟨od, zc⟩⟩
end
end Cw
end

section
set_option Elab.async false
set_option maxRecDepth 100000
set_option maxHeartbeats 4000000
/- The walk: the rounds. -/
namespace Cw
open PySem PySem.Spec PyProof.Rows L2 Ch
open PySem.W (Codec)
open Sn80 (Game stands check near whites blacks mate fair aims)

/-- wins and what's found, as they stand -/
structure WAt (G : GA) (g : Game) (X : List Addr) (H : Hp) (D : Addr) (st : List (Ps × Nat) × List Ps) (H' : Hp) : Prop where
  keep : Keep X H H'
  c : ChkRd H' G g
  w : H' G.wa = some (.dT (encN st.1))
  d : PosList H' D st.2
section
variable {G : GA} {g : Game} {X : List Addr} {H H' H2 : Hp} {D : Addr} {st : List (Ps × Nat) × List Ps}
theorem WAt.same (h : WAt G g X H D st H') (s : Same H' H2) : WAt G g X H D st H2 := ⟨h.keep.trans (Keep.of_same s), h.c.same s, s _ _ h.w, h.d.same s⟩
theorem WAt.put (ap : Apart G) (h : WAt G g X H D st H') (m : G.wa ∈ X) (p : Ps) (v : Nat) : WAt G g X H D (put st.1 p v, st.2) (upd H' G.wa (.dT (encN (put st.1 p v)))) :=
  ⟨h.keep.upd (.inl m), h.c.but But.upd0 ap.cw, upd_same, h.d.but But.upd0 (IsT.of h.w)⟩
theorem WAt.app {r : Addr} {p : Ps} {rs : List Addr} (h : WAt G g X H D st H') (hD : H D = none) (R : PosR H' D rs st.2) (hr : TupAt H' r p) : WAt G g X H D (st.1, st.2 ++ [p]) (upd H' D (.lst (rs.map V.ref ++ [V.ref r]))) :=
  ⟨h.keep.upd (.inr hD), Rd.upd h.c R.top, by rw [upd_ne (ne_of h.w R.top (fun z => nomatch z))]; exact h.w, R.snoc hr⟩
end
theorem flat_pre {f : Ps → List Ps} {l : List Ps} {i : Nat} {p : Ps} (h : l[i]? = some p) (j : Nat) : l.flatMap f = ((l.take i).flatMap f ++ (f p).take j) ++ ((f p).drop j ++ (l.drop (i + 1)).flatMap f) := by
  have e : l = l.take i ++ p :: l.drop (i + 1) := by
    have lt := (List.getElem?_eq_some_iff.mp h).1
    have ep : l[i] = p := (List.getElem?_eq_some_iff.mp h).2
    rw [← ep, ← List.drop_eq_getElem_cons lt, List.take_append_drop]
  have e2 : l.flatMap f = (l.take i ++ p :: l.drop (i + 1)).flatMap f := congrArg (fun x => List.flatMap f x) e
  rw [e2, List.flatMap_append, List.flatMap_cons, List.append_assoc, ← List.append_assoc ((f p).take j), List.take_append_drop]
theorem flat_next {f : Ps → List Ps} {l : List Ps} {i : Nat} {p : Ps} (h : l[i]? = some p) : (l.take (i + 1)).flatMap f = (l.take i).flatMap f ++ f p := by
  rw [take_more h, List.flatMap_append]
  simp
theorem mem_drop {α : Type} {l : List α} {j : Nat} {o : α} (h : l[j]? = some o) : o ∈ l.drop j := by
  have lt := (List.getElem?_eq_some_iff.mp h).1
  have e : l[j] = o := (List.getElem?_eq_some_iff.mp h).2
  rw [List.drop_eq_getElem_cons lt, e]
  exact List.mem_cons_self

def spWon (CG CB : Addr) : Sp := fun vs H Q _ => ∃ (G : GA) (g : Game) (l : Addr) (k : Nat) (r : RS), vs = [.ref G.ga, .ref l, .int ((k + 1 : Nat) : Int)] ∧ GameAt CG CB G g H ∧ Fits g ∧ ChkRd H G g ∧ Good g k r ∧ H G.wa = some (.dT (encN r.W)) ∧ PosList H l r.lost ∧
  ∀ H' D, H D = none → WAt G g [G.wa] H D (wonOf g k r) H' → Q (.ref D) H'
def spLost (CG CB : Addr) : Sp := fun vs H Q _ => ∃ (G : GA) (g : Game) (l : Addr) (k : Nat) (r : RS), vs = [.ref G.ga, .ref l, .int ((k + 1 : Nat) : Int)] ∧ GameAt CG CB G g H ∧ Fits g ∧ ChkRd H G g ∧ Good g k r ∧ H G.fa = some (.dT (encI r.F)) ∧ H G.la = some (.dT (encN r.L)) ∧ PosList H l (wonOf g k r).2 ∧
  ∀ H' D, H D = none → LAt G g [G.fa, G.la] H D (lostOf g k r) H' → Q (.ref D) H'
section
variable {P : Program} {w : World} {K : PySem.W.Frag} {mg : Str → Option Value} {base : Heap} {CG CB aS aA aL : Addr}
abbrev sWon : Stmt := topS 29
abbrev nWon : List Str := ["game", "lost", "k", "found", "position", "other"]
theorem scWon : FnScope nWon ["game", "lost", "k"] (defScope sWon) := ⟨rfl, rfl, rfl, by decide +kernel, rfl, by decide +kernel, by decide +kernel⟩
theorem ok_won {f f1 f2 f3 f4 f5 : Addr} {fd fd1 fd2 fd3 fd4 fd5 : FuncData} (TB : TxB K mg CB aS aA aL) (T : TxG K mg CG) (N : FnM K mg f1 f2 f3 fd1 fd2 fd3) (F4 : Fun K "white_moves" "white_moves" sWhite f4 fd4) (g4 : mg "white_moves" = some (.ref f4)) (b4 : Binds K fd4 ["game", "position"] [])
    (F5 : Fun K "before_white" "before_white" sBackW f5 fd5) (g5 : mg "before_white" = some (.ref f5)) (b5 : Binds K fd5 ["game", "position"] [])
    (F : Fun K "newly_won" "newly_won" sWon f fd) : FnOk P w K mg base CX0 4 f fd ["game", "lost", "k"] (spWon CG CB) := by
  have G5 : FnOk P w K mg base CX0 3 f5 fd5 ["game", "position"] (spBackW CG CB) := ok_backW TB T N F4 g4 b4 F5
  refine F.ok scWon (fun vs H Q E h => ?_) (fun cdv A outer s0 H vs Q E hr h => ?_)
  · obtain ⟨G, g, l, k, r, rfl, _⟩ := h
    rfl
  have hu := hu_of hr
  refine ⟨_, pss_cons (ps_set (i := 3) scWon.nd rfl (Or.inl rfl) (pe_lst pa_nil))
    (pss_cons (ps_for PassesOwn.never rfl (pi_list (pv 1)) (pg_name (i := 4) scWon.nd rfl (Or.inl rfl))
      (pss_one (ps_for PassesOwn.never rfl (pi_list (pe_call G5 hr rfl g5 F5.kp b5 .nil pass0 (pa_cons (pv 0) (pa_cons (pv 4) pa_nil)))) (pg_name (i := 5) scWon.nd rfl (Or.inl rfl))
        (pss_one (ps_if (pt_cmp (pc_dnotin hu (pv 5) (pe_fld (pv 0) rfl)) rfl)
          (pss_cons (ps_dput hu (pe_fld (pv 0) rfl) (pv 5) (pv 2) rfl)
          (pss_one (ps_expr (pe_bm PySem.F.plainAttrs_list PySem.F.slot_list_append PySem.F.type_list_append mt_append (pv 3) (pa_cons (pv 5) pa_nil))))) pss_nil)))))
    (pss_one (ps_ret (pv 3)))), ?_⟩
  obtain ⟨G, g, l, k, r, rfl, hG, hF, hC, hGo, hw, ⟨ll, hL⟩, kk⟩ := h
  have ap := hG.apart
  have tX : ∀ x, x ∈ [G.wa] → IsT H x := fun x hx => by
    rw [List.mem_singleton] at hx
    subst hx
    exact IsT.of hw
  have nX : G.ld ∉ [G.wa] := fun z => ap.dw (List.mem_singleton.mp z)
  refine ⟨line_le (n := 0) (by decide), fun D hD => ?_⟩
  have L0 : WAt G g [G.wa] H D (wonS r.W (k + 1) []) (upd H D (.lst [])) := ⟨Keep.of_same (Same.upd hD), hC.same (Same.upd hD), (Same.upd hD) _ _ hw, PosList.nil upd_same⟩
  generalize upd H D (.lst []) = H1 at L0
  refine ⟨_, rfl, l, rfl, ⟨_, SqL.of (hL.keep L0.keep tX).top⟩, for_list (K := K) (a := l) (xs := ll.map V.ref)
    (fun i σ H' => (∃ v u, σ = [some (.ref G.ga), some (.ref l), some (.int ((k + 1 : Nat) : Int)), some (.ref D), v, u]) ∧ WAt G g [G.wa] H D (wonS r.W (k + 1) ((r.lost.take i).flatMap (bw g))) H')
    ⟨⟨_, _, rfl⟩, L0⟩ (fun i σ H' _ z => SqL.of (hL.keep z.2.keep tX).top) ?_ ?_⟩
  · rintro i x σ H2 hx ⟨⟨v, u, rfl⟩, L⟩
    obtain ⟨b, hb, rfl⟩ := get_map hx
    obtain ⟨p, hp⟩ := get_len hL.len hb
    obtain ⟨b', hb', hbp⟩ := (hL.keep L.keep tX).each i p hp
    cases hb.symm.trans hb'
    have sp := ((hGo.lost p).mp (List.mem_of_getElem? hp)).1
    have g2 := hG.keep L.keep tX nX
    refine ⟨_, rfl, _, rfl, G, g, b, p, rfl, g2, hF, L.c, hbp, sp, fun H3 l3 s3 n3 ⟨rs3, R3⟩ => ?_⟩
    have L3 := L.same s3
    have tW : ∀ x, x ∈ [G.wa] → IsT H3 x := fun x hx => by
      rw [List.mem_singleton] at hx
      subst hx
      exact IsT.of L3.w
    have hD3 : ∀ H', Keep [G.wa] H H' → True := fun _ _ => trivial
    have nD : l3 ≠ D := fun e => by
      obtain ⟨rsD, RD⟩ := L.d
      rw [e, RD.top] at n3
      cases n3
    refine ⟨l3, rfl, ⟨_, SqL.of R3.top⟩, for_list (K := K) (a := l3) (xs := rs3.map V.ref)
      (fun j σ H' => (∃ u, σ = [some (.ref G.ga), some (.ref l), some (.int ((k + 1 : Nat) : Int)), some (.ref D), some (.ref b), u]) ∧ WAt G g [G.wa] H D (wonS r.W (k + 1) ((r.lost.take i).flatMap (bw g) ++ (bw g p).take j)) H' ∧ Keep [G.wa, D] H3 H')
      ⟨⟨_, rfl⟩, by rw [List.take_zero, List.append_nil]; exact L3, Keep.of_same (Same.refl _)⟩ (fun j σ H' _ z => SqL.of (z.2.2 _ _ R3.top (by
        simp only [List.mem_cons, List.not_mem_nil, or_false]
        rintro (y | y)
        · exact IsT.lst tW R3.top (List.mem_singleton.mpr y)
        · exact nD y))) ?_ ?_⟩
    · rintro j x σ H4 hx ⟨⟨u, rfl⟩, L4, K4⟩
      obtain ⟨c, hc, rfl⟩ := get_map hx
      obtain ⟨o, ho⟩ := get_len R3.len hc
      obtain ⟨c', hc', hco⟩ := R3.each j o ho
      cases hc.symm.trans hc'
      have hco4 : TupAt H4 c o := K4 _ _ hco (by
        simp only [List.mem_cons, List.not_mem_nil, or_false]
        rintro (y | y)
        · exact IsT.tup tW hco (List.mem_singleton.mpr y)
        · obtain ⟨rsD, RD⟩ := L3.d
          have := RD.top
          unfold TupAt at hco
          rw [← y, hco] at this
          cases this)
      have bound := hGo.won_pre hF (flat_pre (f := bw g) hp j)
      have step : wonS r.W (k + 1) ((r.lost.take i).flatMap (bw g) ++ (bw g p).take (j + 1)) = stepWon (k + 1) (wonS r.W (k + 1) ((r.lost.take i).flatMap (bw g) ++ (bw g p).take j)) o := by
        rw [take_more ho, ← List.append_assoc, wonS_snoc]
      rw [step]
      generalize wonS r.W (k + 1) ((r.lost.take i).flatMap (bw g) ++ (bw g p).take j) = st at L4 bound
      have g4' := hG.keep L4.keep tX nX
      have gv : DGet H4 G.wa (.ref c) ((look st.1 o).map vN) := by
        have := dget_t (k := kp o) (.inl L4.w) hco4
        unfold encN at this
        rw [valV_enc] at this
        exact this
      refine ⟨_, rfl, _, rfl, G.ga, CG, G.dx, _, _, rfl, g4'.top, T.cl, T.n4, gF_wins G, G.wa, _, rfl, gv, _, rfl, ?_⟩
      have es : ((look st.1 o).map vN).isSome = (look st.1 o).isSome := by cases look st.1 o <;> rfl
      rw [es]
      refine ite2 (fun c1 => ?_) (fun c1 => ?_)
      · have c2 : ¬ (look st.1 o).isSome = true := by
          intro z
          rw [z] at c1
          cases c1
        refine ⟨_, rfl, _, rfl, G.ga, CG, G.dx, _, _, rfl, g4'.top, T.cl, T.n4, gF_wins G, _, rfl, G.wa, _, rfl, DPut.t (k := kp o) L4.w hco4 ?_, ?_⟩
        · unfold encN
          rw [enc_len]
          exact line_lt (by omega)
        have ep : putK (encN st.1) (kp o) (V.int ((k + 1 : Nat) : Int)) = encN (put st.1 o (k + 1)) := putK_enc vN _ _ (k + 1)
        rw [ep]
        have L5 := L4.put ap (by simp) o (k + 1)
        have hco5 : TupAt (upd H4 G.wa (.dT (encN (put st.1 o (k + 1))))) c o := by
          unfold TupAt
          rw [upd_ne (ne_of hco4 L4.w (fun z => nomatch z))]
          exact hco4
        have K5 : Keep [G.wa, D] H3 (upd H4 G.wa (.dT (encN (put st.1 o (k + 1))))) := K4.upd (.inl (by simp))
        generalize upd H4 G.wa (.dT (encN (put st.1 o (k + 1)))) = H5 at L5 hco5 K5
        obtain ⟨rs5, R5⟩ := id L5.d
        refine ⟨_, rfl, Or.inl ⟨rfl, _, SqL.of R5.top⟩, _, rfl, D, _, _, rfl, rfl, R5.top, ?_, ⟨_, rfl⟩, ?_, K5.upd (.inl (by simp))⟩
        · rw [List.length_map, R5.len]
          exact line_lt (by have := bound.2; show st.2.length ≤ _; omega)
        · unfold stepWon
          rw [if_neg c2]
          exact L5.app hD R5 hco5
      · have c2 : (look st.1 o).isSome = true := by
          cases e : (look st.1 o).isSome with
          | true => rfl
          | false => rw [e] at c1; exact absurd rfl c1
        refine ⟨⟨_, rfl⟩, ?_, K4⟩
        unfold stepWon
        rw [if_pos c2]
        exact L4
    · rintro σ H4 ⟨⟨u, rfl⟩, L4, K4⟩
      rw [List.length_map, R3.len, List.take_length, ← flat_next hp] at L4
      exact ⟨⟨_, _, rfl⟩, L4⟩
  · rintro σ H2 ⟨⟨v, u, rfl⟩, L⟩
    rw [List.length_map, hL.len, List.take_length] at L
    exact ⟨_, rfl, kk _ D hD L⟩

abbrev sLost : Stmt := topS 30
abbrev nLost : List Str := ["game", "won", "k", "found", "position", "other"]
theorem scLost : FnScope nLost ["game", "won", "k"] (defScope sLost) := ⟨rfl, rfl, rfl, by decide +kernel, rfl, by decide +kernel, by decide +kernel⟩
theorem ok_lost {f f5 : Addr} {fd fd5 : FuncData} (TB : TxB K mg CB aS aA aL) (T : TxG K mg CG)
    (F5 : Fun K "before_black" "before_black" sBackB f5 fd5) (g5 : mg "before_black" = some (.ref f5)) (b5 : Binds K fd5 ["game", "position"] [])
    (F : Fun K "newly_lost" "newly_lost" sLost f fd) : FnOk P w K mg base CX0 2 f fd ["game", "won", "k"] (spLost CG CB) := by
  have G5 : FnOk P w K mg base CX0 1 f5 fd5 ["game", "position"] (spBackB CG CB) := ok_backB TB T F5
  refine F.ok scLost (fun vs H Q E h => ?_) (fun cdv A outer s0 H vs Q E hr h => ?_)
  · obtain ⟨G, g, l, k, r, rfl, _⟩ := h
    rfl
  have hu := hu_of hr
  refine ⟨_, pss_cons (ps_set (i := 3) scLost.nd rfl (Or.inl rfl) (pe_lst pa_nil))
    (pss_cons (ps_for PassesOwn.never rfl (pi_list (pv 1)) (pg_name (i := 4) scLost.nd rfl (Or.inl rfl))
      (pss_one (ps_for PassesOwn.never rfl (pi_list (pe_call G5 hr rfl g5 F5.kp b5 .nil pass0 (pa_cons (pv 0) (pa_cons (pv 4) pa_nil)))) (pg_name (i := 5) scLost.nd rfl (Or.inl rfl))
        (pss_cons (ps_dput hu (pe_fld (pv 0) rfl) (pv 5) (pe_op op_sub (pe_dget hu (pe_fld (pv 0) rfl) (pv 5) (fun _ _ => rfl)) pe_int) rfl)
        (pss_one (ps_if (pt_cmpR op_eq (pe_dget hu (pe_fld (pv 0) rfl) (pv 5) (fun _ _ => rfl)) pe_int (nomark _))
          (pss_cons (ps_dput hu (pe_fld (pv 0) rfl) (pv 5) (pv 2) rfl)
          (pss_one (ps_expr (pe_bm PySem.F.plainAttrs_list PySem.F.slot_list_append PySem.F.type_list_append mt_append (pv 3) (pa_cons (pv 5) pa_nil))))) pss_nil))))))
    (pss_one (ps_ret (pv 3)))), ?_⟩
  obtain ⟨G, g, l, k, r, rfl, hG, hF, hC, hGo, hf, hl, ⟨ll, hL⟩, kk⟩ := h
  have ap := hG.apart
  have tX : ∀ x, x ∈ [G.fa, G.la] → IsT H x := fun x hx => by
    simp only [List.mem_cons, List.not_mem_nil, or_false] at hx
    rcases hx with rfl | rfl
    · exact IsT.of hf
    · exact IsT.of hl
  have nX : G.ld ∉ [G.fa, G.la] := by
    simp only [List.mem_cons, List.not_mem_nil, or_false]
    rintro (z | z)
    · exact ap.df z
    · exact ap.dl z
  refine ⟨line_le (n := 0) (by decide), fun D hD => ?_⟩
  have L0 : LAt G g [G.fa, G.la] H D (lostS r.F r.L (k + 1) []) (upd H D (.lst [])) := ⟨Keep.of_same (Same.upd hD), hC.same (Same.upd hD), (Same.upd hD) _ _ hf, (Same.upd hD) _ _ hl, PosList.nil upd_same⟩
  generalize upd H D (.lst []) = H1 at L0
  generalize hwon : (wonOf g k r).2 = won at hL
  refine ⟨_, rfl, l, rfl, ⟨_, SqL.of (hL.keep L0.keep tX).top⟩, for_list (K := K) (a := l) (xs := ll.map V.ref)
    (fun i σ H' => (∃ v u, σ = [some (.ref G.ga), some (.ref l), some (.int ((k + 1 : Nat) : Int)), some (.ref D), v, u]) ∧ LAt G g [G.fa, G.la] H D (lostS r.F r.L (k + 1) ((won.take i).flatMap (bb g))) H')
    ⟨⟨_, _, rfl⟩, L0⟩ (fun i σ H' _ z => SqL.of (hL.keep z.2.keep tX).top) ?_ ?_⟩
  · rintro i x σ H2 hx ⟨⟨v, u, rfl⟩, L⟩
    obtain ⟨b, hb, rfl⟩ := get_map hx
    obtain ⟨p, hp⟩ := get_len hL.len hb
    obtain ⟨b', hb', hbp⟩ := (hL.keep L.keep tX).each i p hp
    cases hb.symm.trans hb'
    have sp : Ch.St g p := by
      have m := List.mem_of_getElem? hp
      rw [← hwon] at m
      exact (fair_iff.mp ((hGo.won hF).mp m).1).1
    have g2 := hG.keep L.keep tX nX
    refine ⟨_, rfl, _, rfl, G, g, b, p, rfl, g2, hF, L.c, hbp, sp, fun H3 l3 s3 n3 ⟨rs3, R3⟩ => ?_⟩
    have L3 := L.same s3
    have tW : ∀ x, x ∈ [G.fa, G.la] → IsT H3 x := fun x hx => by
      simp only [List.mem_cons, List.not_mem_nil, or_false] at hx
      rcases hx with rfl | rfl
      · exact IsT.of L3.f
      · exact IsT.of L3.l
    have nD : l3 ≠ D := fun e => by
      obtain ⟨rsD, RD⟩ := L.d
      rw [e, RD.top] at n3
      cases n3
    refine ⟨l3, rfl, ⟨_, SqL.of R3.top⟩, for_list (K := K) (a := l3) (xs := rs3.map V.ref)
      (fun j σ H' => (∃ u, σ = [some (.ref G.ga), some (.ref l), some (.int ((k + 1 : Nat) : Int)), some (.ref D), some (.ref b), u]) ∧ LAt G g [G.fa, G.la] H D (lostS r.F r.L (k + 1) ((won.take i).flatMap (bb g) ++ (bb g p).take j)) H' ∧ Keep [G.fa, G.la, D] H3 H')
      ⟨⟨_, rfl⟩, by rw [List.take_zero, List.append_nil]; exact L3, Keep.of_same (Same.refl _)⟩ (fun j σ H' _ z => SqL.of (z.2.2 _ _ R3.top (by
        have nt := IsT.lst tW R3.top
        simp only [List.mem_cons, List.not_mem_nil, or_false] at nt ⊢
        rintro (y | y | y)
        · exact nt (.inl y)
        · exact nt (.inr y)
        · exact nD y))) ?_ ?_⟩
    · rintro j x σ H4 hx ⟨⟨u, rfl⟩, L4, K4⟩
      obtain ⟨c, hc, rfl⟩ := get_map hx
      obtain ⟨o, ho⟩ := get_len R3.len hc
      obtain ⟨c', hc', hco⟩ := R3.each j o ho
      cases hc.symm.trans hc'
      have hco4 : TupAt H4 c o := K4 _ _ hco (by
        have nt := IsT.tup tW hco
        simp only [List.mem_cons, List.not_mem_nil, or_false] at nt ⊢
        rintro (y | y | y)
        · exact nt (.inl y)
        · exact nt (.inr y)
        · obtain ⟨rsD, RD⟩ := L3.d
          have := RD.top
          unfold TupAt at hco
          rw [← y, hco] at this
          cases this)
      have fp := flat_pre (f := bb g) hp j
      rw [← hwon] at fp
      have bound := hGo.lost_pre hF fp
      rw [hwon] at bound
      obtain ⟨bF', bL', bD', bV⟩ := bound
      obtain ⟨vo, hvo⟩ := bV o (List.mem_append.mpr (.inl (mem_drop ho)))
      have step : lostS r.F r.L (k + 1) ((won.take i).flatMap (bb g) ++ (bb g p).take (j + 1)) = stepLost (k + 1) (lostS r.F r.L (k + 1) ((won.take i).flatMap (bb g) ++ (bb g p).take j)) o := by
        rw [take_more ho, ← List.append_assoc, lostS_snoc]
      rw [step]
      generalize lostS r.F r.L (k + 1) ((won.take i).flatMap (bb g) ++ (bb g p).take j) = st at L4 bF' bL' bD' hvo
      have g4' := hG.keep L4.keep tX nX
      have gv : DGet H4 G.fa (.ref c) (some (.int vo)) := by
        have := dget_t (k := kp o) (.inl L4.f) hco4
        unfold encI at this
        rw [valV_enc, hvo] at this
        exact this
      refine ⟨_, rfl, G.ga, CG, G.dx, _, _, rfl, g4'.top, T.cl, T.n6, gF_left G, _, rfl, G.fa, _, rfl, gv, _, _, rfl, rfl, _, rfl, G.ga, CG, G.dx, _, _, rfl, g4'.top, T.cl, T.n6, gF_left G, _, rfl, G.fa, _, rfl, DPut.t (k := kp o) L4.f hco4 ?_, ?_⟩
      · unfold encI
        rw [enc_len]
        exact line_lt (by omega)
      have ep : putK (encI st.F) (kp o) (V.int (vo - 1)) = encI (put st.F o (vo - 1)) := putK_enc V.int _ _ (vo - 1)
      rw [ep]
      have L5 := L4.putF ap (by simp) o (vo - 1)
      have hco5 : TupAt (upd H4 G.fa (.dT (encI (put st.F o (vo - 1))))) c o := by
        unfold TupAt
        rw [upd_ne (ne_of hco4 L4.f (fun z => nomatch z))]
        exact hco4
      have K5 : Keep [G.fa, G.la, D] H3 (upd H4 G.fa (.dT (encI (put st.F o (vo - 1))))) := K4.upd (.inl (by simp))
      generalize upd H4 G.fa (.dT (encI (put st.F o (vo - 1)))) = H5 at L5 hco5 K5
      have g5' := hG.keep L5.keep tX nX
      have gv5 : DGet H5 G.fa (.ref c) (some (.int (vo - 1))) := by
        have := dget_t (k := kp o) (.inl L5.f) hco5
        unfold encI at this
        rw [valV_enc, look_put, if_pos rfl] at this
        exact this
      have ev : (look st.F o).getD 0 - 1 = vo - 1 := by rw [hvo]; rfl
      refine ⟨_, rfl, G.ga, CG, G.dx, _, _, rfl, g5'.top, T.cl, T.n6, gF_left G, _, rfl, G.fa, _, rfl, gv5, rfl, _, rfl, ite2 (fun c1 => ?_) (fun c1 => ?_)⟩
      · have c2 : vo - 1 = 0 := V.int.inj (of_decide_eq_true c1)
        refine ⟨_, rfl, _, rfl, G.ga, CG, G.dx, _, _, rfl, g5'.top, T.cl, T.n5, gF_loses G, _, rfl, G.la, _, rfl, DPut.t (k := kp o) L5.l hco5 ?_, ?_⟩
        · unfold encN
          rw [enc_len]
          exact line_lt (by show st.L.length ≤ _; omega)
        have ep2 : putK (encN st.L) (kp o) (V.int ((k + 1 : Nat) : Int)) = encN (put st.L o (k + 1)) := putK_enc vN _ _ (k + 1)
        rw [show (⟨put st.F o (vo - 1), st.L, st.fd⟩ : MS).L = st.L from rfl, ep2]
        have L6 := L5.putL ap (by simp) o (k + 1)
        have hco6 : TupAt (upd H5 G.la (.dT (encN (put st.L o (k + 1))))) c o := by
          unfold TupAt
          rw [upd_ne (ne_of hco5 L5.l (fun z => nomatch z))]
          exact hco5
        have K6 : Keep [G.fa, G.la, D] H3 (upd H5 G.la (.dT (encN (put st.L o (k + 1))))) := K5.upd (.inl (by simp))
        have e6 : (⟨put st.F o (vo - 1), st.L, st.fd⟩ : MS).L = st.L := rfl
        rw [e6] at L6
        generalize upd H5 G.la (.dT (encN (put st.L o (k + 1)))) = H6 at L6 hco6 K6
        obtain ⟨rs6, R6⟩ := id L6.d
        refine ⟨_, rfl, Or.inl ⟨rfl, _, SqL.of R6.top⟩, _, rfl, D, _, _, rfl, rfl, R6.top, ?_, ⟨_, rfl⟩, ?_, K6.upd (.inl (by simp))⟩
        · rw [List.length_map, R6.len]
          exact line_lt (by show st.fd.length ≤ _; omega)
        · unfold stepLost
          rw [ev, if_pos c2]
          exact L6.app hD R6 hco6
      · have c2 : ¬ vo - 1 = 0 := fun z => c1 (by rw [z]; rfl)
        refine ⟨⟨_, rfl⟩, ?_, K5⟩
        unfold stepLost
        rw [ev, if_neg c2]
        exact L5
    · rintro σ H4 ⟨⟨u, rfl⟩, L4, K4⟩
      rw [List.length_map, R3.len, List.take_length, ← flat_next hp] at L4
      exact ⟨⟨_, _, rfl⟩, L4⟩
  · rintro σ H2 ⟨⟨v, u, rfl⟩, L⟩
    rw [List.length_map, hL.len, List.take_length] at L
    refine ⟨_, rfl, kk _ D hD ?_⟩
    unfold lostOf
    rw [hwon]
    exact L
end
end Cw
end

section
set_option Elab.async false
set_option maxRecDepth 100000
set_option maxHeartbeats 4000000
/- The walk: a game made, a game worked out. -/
namespace Cw
open PySem PySem.Spec PyProof.Rows L2 Ch
open PySem.W (Codec)
open Sn80 (Game stands check near whites blacks mate fair aims)

theorem BoardL.but' {CB : Addr} {H H' : Hp} {ba : Addr} {s : Nat} {ld d : Addr} (h : BoardL CB H ba s ld) (k : But d H H') (n1 : ba ≠ d) (n2 : ld ≠ d) (nl : ∀ xs, H d ≠ some (.lst xs)) : BoardL CB H' ba s ld := by
  obtain ⟨dx, bl, kvs, h1, h2, h3, h4⟩ := h.ex
  refine ⟨dx, bl, kvs, k _ _ h1 n1, h2.but k nl, k _ _ h3 n2, fun kind c hk hc => ?_⟩
  obtain ⟨r, e1, e2⟩ := h4 kind c hk hc
  exact ⟨r, e1, e2.but k nl⟩

def gF1 (b : Addr) : List (Str × V) := [("board", .ref b)]
def gF2 (b p : Addr) : List (Str × V) := [("board", .ref b), ("pieces", .ref p)]
def gF3 (b p c : Addr) : List (Str × V) := [("board", .ref b), ("pieces", .ref p), ("checks", .ref c)]
def gF4 (b p c w : Addr) : List (Str × V) := [("board", .ref b), ("pieces", .ref p), ("checks", .ref c), ("wins", .ref w)]
def gF5 (b p c w l : Addr) : List (Str × V) := [("board", .ref b), ("pieces", .ref p), ("checks", .ref c), ("wins", .ref w), ("loses", .ref l)]
theorem gF_p1 (b : Addr) : putF "board" (.ref b) [] = gF1 b := rfl
theorem gF_p2 (b p : Addr) : putF "pieces" (.ref p) (gF1 b) = gF2 b p := (put_past (by decide +kernel)).trans rfl
theorem gF_p3 (b p c : Addr) : putF "checks" (.ref c) (gF2 b p) = gF3 b p c := (put_past (by decide +kernel)).trans (congrArg _ ((put_past (by decide +kernel)).trans rfl))
theorem gF_p4 (b p c w : Addr) : putF "wins" (.ref w) (gF3 b p c) = gF4 b p c w := (put_past (by decide +kernel)).trans (congrArg _ ((put_past (by decide +kernel)).trans (congrArg _ ((put_past (by decide +kernel)).trans rfl))))
theorem gF_p5 (b p c w l : Addr) : putF "loses" (.ref l) (gF4 b p c w) = gF5 b p c w l := (put_past (by decide +kernel)).trans (congrArg _ ((put_past (by decide +kernel)).trans (congrArg _ ((put_past (by decide +kernel)).trans (congrArg _ ((put_past (by decide +kernel)).trans rfl))))))
theorem gF_p6 (G : GA) : putF "left" (.ref G.fa) (gF5 G.ba G.pa G.ca G.wa G.la) = gF G := (put_past (by decide +kernel)).trans (congrArg _ ((put_past (by decide +kernel)).trans (congrArg _ ((put_past (by decide +kernel)).trans (congrArg _ ((put_past (by decide +kernel)).trans (congrArg _ ((put_past (by decide +kernel)).trans rfl))))))))

/-- a new thing at a, then p (an instance) is written -/
theorem put_new {H : Hp} {p a : Addr} {o u : HO} (ha : H a = none) (hp : H p = some u) (o' : HO) : a ≠ p ∧ But p H (upd (upd H a o) p o') ∧ (upd (upd H a o) p o') a = some o ∧ (upd (upd H a o) p o') p = some o' := by
  have ne : a ≠ p := (ne_of_none hp ha).symm
  refine ⟨ne, fun b v e n => ?_, ?_, upd_same⟩
  · rw [upd_ne n, upd_ne (ne_of_none e ha)]
    exact e
  · rw [upd_ne ne, upd_same]

def spGame (CG CB : Addr) : Sp := fun vs H Q _ => ∃ (p dx : Addr) (g : Game), vs = [.ref p, .int g.s, .int g.a, .int g.b] ∧ g.s ∈ sizes ∧ H p = some (.ins CG dx []) ∧
  ∀ (H' : Hp) (G : GA), G.ga = p → (H G.ca = none ∧ H G.wa = none ∧ H G.la = none ∧ H G.fa = none) → But p H H' → GameAt CG CB G g H' → H' G.ca = some (.dT []) → H' G.wa = some (.dT []) → H' G.la = some (.dT []) → H' G.fa = some (.dT []) → Q .non H'
section
variable {P : Program} {w : World} {K : PySem.W.Frag} {mg : Str → Option Value} {base : Heap} {CG CB aS aA aL : Addr}
abbrev sGame : Stmt := inClass (topS 16) 0
abbrev nGame : List Str := ["self", "s", "a", "b"]
theorem scGame : FnScope nGame ["self", "s", "a", "b"] (defScope sGame) := ⟨rfl, rfl, rfl, by decide +kernel, rfl, by decide +kernel, by decide +kernel⟩
theorem ok_game {f f1 : Addr} {fd fd1 : FuncData} (T : TxG K mg CG) (M : Mk K CB f1) (gB : mg "Board" = some (.ref CB)) (G1 : FnOk P w K mg base CX0 4 f1 fd1 ["self", "s"] (spBoard CB)) (b1 : Binds K fd1 ["self", "s"] [])
    (F : Fun K "__init__" "Game.__init__" sGame f fd) : FnOk P w K mg base CX0 6 f fd ["self", "s", "a", "b"] (spGame CG CB) := by
  refine F.ok scGame (fun vs H Q E h => ?_) (fun cdv A outer s0 H vs Q E hr h => ?_)
  · obtain ⟨p, dx, g, rfl, _⟩ := h
    rfl
  refine ⟨_, pss_cons (ps_fld (pv 0) (pe_make M G1 hr rfl gB b1 .nil pass0 (pa_cons (pv 1) pa_nil)) rfl)
    (pss_cons (ps_fld (pv 0) (pe_tup (pa_cons (pv 2) (pa_cons (pv 3) pa_nil))) rfl)
    (pss_cons (ps_fld (pv 0) pe_dnewT rfl)
    (pss_cons (ps_fld (pv 0) pe_dnewT rfl)
    (pss_cons (ps_fld (pv 0) pe_dnewT rfl)
    (pss_one (ps_fld (pv 0) pe_dnewT rfl)))))), ?_⟩
  obtain ⟨p, dx, g, rfl, hs, hp, k⟩ := h
  refine ⟨_, rfl, fun x dxb nx nd ne => ⟨x, dxb, g.s, rfl, hs, upd_same, fun H1 b1' B1 => ⟨rfl, ?_⟩⟩⟩
  have s1 : Same H H1 := Same.made nx nd b1'
  have npx : x ≠ p := (ne_of_none hp nx).symm
  obtain ⟨ld, B1⟩ := B1.l
  have p1 := s1 _ _ hp
  have nld : ld ≠ p := by
    obtain ⟨_, _, _, _, _, h3, _⟩ := B1.ex
    exact ne_of h3 p1 (fun z => nomatch z)
  have notlst : ∀ (Hn : Hp) (fs : List (Str × V)), Hn p = some (.ins CG dx fs) → ∀ xs, Hn p ≠ some (.lst xs) := fun Hn fs e xs z => by
    rw [e] at z
    cases z
  -- board
  refine ⟨_, rfl, p, CG, dx, _, rfl, p1, T.cl, T.n1, (by show 0 < 1000; decide), ?_⟩
  rw [gF_p1]
  have k1 : But p H1 (upd H1 p (.ins CG dx (gF1 x))) := fun b v e n => by rw [upd_ne n]; exact e
  have t1 : (upd H1 p (.ins CG dx (gF1 x))) p = some (.ins CG dx (gF1 x)) := upd_same
  have B2 := B1.but' k1 npx nld (notlst _ _ p1)
  have K1 : But p H (upd H1 p (.ins CG dx (gF1 x))) := (But.of_same s1).trans k1
  generalize upd H1 p (.ins CG dx (gF1 x)) = H2 at t1 B2 K1
  -- pieces
  refine ⟨_, rfl, _, rfl, line_le (n := 2) (by decide), fun pa hpa => ?_⟩
  obtain ⟨n2, k2, v2, t2⟩ := put_new (o := .tup [.int g.a, .int g.b]) hpa t1 (.ins CG dx (gF2 x pa))
  refine ⟨_, rfl, p, CG, dx, gF1 x, rfl, ?_, T.cl, T.n2, (by show 1 < 1000; decide), ?_⟩
  · rw [upd_ne n2.symm]; exact t1
  rw [gF_p2]
  have B3 := B2.but' k2 npx nld (notlst _ _ t1)
  have K2 := K1.trans k2
  generalize upd (upd H2 pa (.tup [.int g.a, .int g.b])) p (.ins CG dx (gF2 x pa)) = H3 at v2 t2 B3 K2
  -- checks
  intro ca hca
  obtain ⟨n3, k3, v3, t3⟩ := put_new (o := .dT []) hca t2 (.ins CG dx (gF3 x pa ca))
  refine ⟨_, rfl, p, CG, dx, gF2 x pa, rfl, ?_, T.cl, T.n3, (by show 2 < 1000; decide), ?_⟩
  · rw [upd_ne n3.symm]; exact t2
  rw [gF_p3]
  have B4 := B3.but' k3 npx nld (notlst _ _ t2)
  have nlc : ld ≠ ca := by
    obtain ⟨_, _, _, _, _, h3, _⟩ := B3.ex
    exact ne_of_none h3 hca
  have K3 := K2.trans k3
  have v2' := k3 _ _ v2 n2
  generalize upd (upd H3 ca (.dT [])) p (.ins CG dx (gF3 x pa ca)) = H4 at v3 t3 B4 K3 v2'
  -- wins
  intro wa hwa
  obtain ⟨n4, k4, v4, t4⟩ := put_new (o := .dT []) hwa t3 (.ins CG dx (gF4 x pa ca wa))
  refine ⟨_, rfl, p, CG, dx, gF3 x pa ca, rfl, ?_, T.cl, T.n4, (by show 3 < 1000; decide), ?_⟩
  · rw [upd_ne n4.symm]; exact t3
  rw [gF_p4]
  have B5 := B4.but' k4 npx nld (notlst _ _ t3)
  have nlw : ld ≠ wa := by
    obtain ⟨_, _, _, _, _, h3, _⟩ := B4.ex
    exact ne_of_none h3 hwa
  have cw := ne_of_none v3 hwa
  have K4 := K3.trans k4
  have v2' := k4 _ _ v2' n2
  have v3 := k4 _ _ v3 n3
  generalize upd (upd H4 wa (.dT [])) p (.ins CG dx (gF4 x pa ca wa)) = H5 at v4 t4 B5 K4 v2' v3
  -- loses
  intro la hla
  obtain ⟨n5, k5, v5, t5⟩ := put_new (o := .dT []) hla t4 (.ins CG dx (gF5 x pa ca wa la))
  refine ⟨_, rfl, p, CG, dx, gF4 x pa ca wa, rfl, ?_, T.cl, T.n5, (by show 4 < 1000; decide), ?_⟩
  · rw [upd_ne n5.symm]; exact t4
  rw [gF_p5]
  have B6 := B5.but' k5 npx nld (notlst _ _ t4)
  have nll : ld ≠ la := by
    obtain ⟨_, _, _, _, _, h3, _⟩ := B5.ex
    exact ne_of_none h3 hla
  have clx := ne_of_none v3 hla
  have wl := ne_of_none v4 hla
  have K5 := K4.trans k5
  have v2' := k5 _ _ v2' n2
  have v3 := k5 _ _ v3 n3
  have v4 := k5 _ _ v4 n4
  generalize upd (upd H5 la (.dT [])) p (.ins CG dx (gF5 x pa ca wa la)) = H6 at v5 t5 B6 K5 v2' v3 v4
  -- left
  intro fa hfa
  obtain ⟨n6, k6, v6, t6⟩ := put_new (o := .dT []) hfa t5 (.ins CG dx (gF ⟨p, dx, x, ld, pa, ca, wa, la, fa⟩))
  refine ⟨_, rfl, p, CG, dx, gF5 x pa ca wa la, rfl, ?_, T.cl, T.n6, (by show 5 < 1000; decide), ?_⟩
  · rw [upd_ne n6.symm]; exact t5
  have e6 := gF_p6 ⟨p, dx, x, ld, pa, ca, wa, la, fa⟩
  rw [show putF "left" (V.ref fa) (gF5 x pa ca wa la) = gF ⟨p, dx, x, ld, pa, ca, wa, la, fa⟩ from e6]
  have B7 := B6.but' k6 npx nld (notlst _ _ t5)
  have nlf : ld ≠ fa := by
    obtain ⟨_, _, _, _, _, h3, _⟩ := B6.ex
    exact ne_of_none h3 hfa
  have cf := ne_of_none v3 hfa
  have wf := ne_of_none v4 hfa
  have lf := ne_of_none v5 hfa
  have new : ∀ (Hn : Hp) (y : Addr), But p H Hn → Hn y = none → y ≠ p → H y = none := fun Hn y kb e n => by
    cases q : H y with
    | none => rfl
    | some o =>
      rw [kb _ _ q n] at e
      cases e
  exact k _ ⟨p, dx, x, ld, pa, ca, wa, la, fa⟩ rfl ⟨new _ _ K2 hca n3, new _ _ K3 hwa n4, new _ _ K4 hla n5, new _ _ K5 hfa n6⟩ (K5.trans k6) ⟨t6, k6 _ _ v2' n2, B7, ⟨cw, clx, cf, wl, wf, lf, nlc, nlw, nll, nlf⟩⟩ (k6 _ _ v3 n3) (k6 _ _ v4 n4) (k6 _ _ v5 n5) v6
end

/-- a game worked out -/
structure GDone (CG CB : Addr) (G : GA) (g : Game) (r : RS) (H : Hp) : Prop where
  at_ : GameAt CG CB G g H
  c : H G.ca = some (.dT (encB (checksM g)))
  w : H G.wa = some (.dT (encN r.W))
  l : H G.la = some (.dT (encN r.L))
  done : Done g r
theorem GDone.same {CG CB : Addr} {G : GA} {g : Game} {r : RS} {H H' : Hp} (h : GDone CG CB G g r H) (s : Same H H') : GDone CG CB G g r H' := ⟨h.at_.same s, s _ _ h.c, s _ _ h.w, s _ _ h.l, h.done⟩
def posD (p : Ps) : PyData := .tuple ((posL p).map PyData.int)
theorem dp_ints {K : PySem.W.Frag} {H : Hp} : ∀ xs : List Int, DpAll K H (xs.map V.int) (xs.map PyData.int)
  | [] => .nil
  | x :: r => .cons (.int x) (dp_ints r)
theorem dp_all {K : PySem.W.Frag} {H : Hp} : ∀ (rs : List Addr) (ps : List Ps), rs.length = ps.length → (∀ (i : Nat) (p : Ps), ps[i]? = some p → ∃ r, rs[i]? = some r ∧ TupAt H r p) → DpAll K H (rs.map V.ref) (ps.map posD)
  | [], [], _, _ => .nil
  | r :: rs, p :: ps, hl, h => by
    obtain ⟨r', e1, e2⟩ := h 0 p rfl
    have : r = r' := by simpa using e1
    subst this
    refine .cons (.tup (SqT.of e2) (dp_ints _)) (dp_all rs ps (Nat.succ.inj hl) fun i q hq => ?_)
    obtain ⟨t, t1, t2⟩ := h (i + 1) q (by simpa using hq)
    exact ⟨t, by simpa using t1, t2⟩
theorem PosList.dp {K : PySem.W.Frag} {H : Hp} {l : Addr} {ps : List Ps} (h : PosList H l ps) : Dp K H (.ref l) (.list (ps.map posD)) := by
  obtain ⟨rs, R⟩ := h
  exact .lst (SqL.of R.top) (dp_all rs ps R.len R.each)
theorem lay_all : ∀ ps : List Ps, PyData.canLayAll0 (ps.map posD) = true ∧ PyData.depthAll (ps.map posD) ≤ 2
  | [] => ⟨rfl, Nat.zero_le _⟩
  | p :: ps => by
    obtain ⟨h1, h2⟩ := lay_all ps
    refine ⟨?_, ?_⟩
    · show (PyData.canLay0 (posD p) && PyData.canLayAll0 (ps.map posD)) = true
      rw [h1]
      rfl
    · show max (PyData.depth (posD p)) (PyData.depthAll (ps.map posD)) ≤ 2
      have : PyData.depth (posD p) = 1 := rfl
      omega
theorem shaped_pos (ps : List Ps) : SeqAt.shaped (.list (ps.map posD)) = true := by
  obtain ⟨h1, h2⟩ := lay_all ps
  show (PyData.canLayAll0 (ps.map posD) && decide (PyData.depthAll (ps.map posD) + 1 ≤ 64)) = true
  rw [h1, decide_eq_true (by omega)]
  rfl
theorem eqv_nil (ps : List Ps) : PyData.eqv (.list (ps.map posD)) (.list []) = ps.isEmpty := by
  cases ps <;> rfl

def spGameOf (CG CB : Addr) : Sp := fun vs H Q _ => ∃ g : Game, vs = [.int g.s, .int g.a, .int g.b] ∧ Fits g ∧
  ∀ H' (G : GA) r, Same H H' → GDone CG CB G g r H' → Q (.ref G.ga) H'
section
variable {P : Program} {w : World} {K : PySem.W.Frag} {mg : Str → Option Value} {base : Heap} {CG CB aS aA aL : Addr}
abbrev sGameOf : Stmt := topS 31
abbrev nGameOf : List Str := ["s", "a", "b", "game", "lost", "k"]
theorem scGameOf : FnScope nGameOf ["s", "a", "b"] (defScope sGameOf) := ⟨rfl, rfl, rfl, by decide +kernel, rfl, by decide +kernel, by decide +kernel⟩
theorem ok_gameOf {f f1 f2 f3 f4 f5 : Addr} {fd fd1 fd2 fd3 fd4 fd5 : FuncData} (M : Mk K CG f1) (gG : mg "Game" = some (.ref CG)) (G1 : FnOk P w K mg base CX0 6 f1 fd1 ["self", "s", "a", "b"] (spGame CG CB)) (b1 : Binds K fd1 ["self", "s", "a", "b"] [])
    (G2 : FnOk P w K mg base CX0 4 f2 fd2 ["game"] (spAll CG CB)) (k2 : PySem.W.keepIn K (.ref f2) = true) (g2 : mg "find_positions" = some (.ref f2)) (b2 : Binds K fd2 ["game"] [])
    (G3 : FnOk P w K mg base CX0 3 f3 fd3 ["game"] (spMates CG CB)) (k3 : PySem.W.keepIn K (.ref f3) = true) (g3 : mg "find_mates" = some (.ref f3)) (b3 : Binds K fd3 ["game"] [])
    (G4 : FnOk P w K mg base CX0 4 f4 fd4 ["game", "lost", "k"] (spWon CG CB)) (k4 : PySem.W.keepIn K (.ref f4) = true) (g4 : mg "newly_won" = some (.ref f4)) (b4 : Binds K fd4 ["game", "lost", "k"] [])
    (G5 : FnOk P w K mg base CX0 2 f5 fd5 ["game", "won", "k"] (spLost CG CB)) (k5 : PySem.W.keepIn K (.ref f5) = true) (g5 : mg "newly_lost" = some (.ref f5)) (b5 : Binds K fd5 ["game", "won", "k"] [])
    (F : Fun K "game_of" "game_of" sGameOf f fd) : FnOk P w K mg base CX0 8 f fd ["s", "a", "b"] (spGameOf CG CB) := by
  refine F.ok scGameOf (fun vs H Q E h => ?_) (fun cdv A outer s0 H vs Q E hr h => ?_)
  · obtain ⟨g, rfl, _⟩ := h
    rfl
  have hr4 : Room 4 _ := hr.mono (by decide)
  have hr3 : Room 3 _ := hr.mono (by decide)
  have hr2 : Room 2 _ := hr.mono (by decide)
  refine ⟨_, pss_cons (ps_set (i := 3) scGameOf.nd rfl (Or.inl rfl) (pe_make M G1 hr rfl gG b1 .nil pass0 (pa_cons (pv 0) (pa_cons (pv 1) (pa_cons (pv 2) pa_nil)))))
    (pss_cons (ps_expr (pe_call G2 hr4 rfl g2 k2 b2 .nil pass0 (pa_cons (pv 3) pa_nil)))
    (pss_cons (ps_set (i := 4) scGameOf.nd rfl (Or.inl rfl) (pe_call G3 hr3 rfl g3 k3 b3 .nil pass0 (pa_cons (pv 3) pa_nil)))
    (pss_cons (ps_set (i := 5) scGameOf.nd rfl (Or.inl rfl) pe_int)
    (pss_cons (ps_while PassesOwn.never (pt_cmpR (op_neD hr.units) (pv 4) (pe_lst pa_nil) (nomark _))
      (pss_cons (ps_set (i := 5) scGameOf.nd rfl (Or.inl rfl) (pe_op op_add (pv 5) pe_int))
      (pss_one (ps_set (i := 4) scGameOf.nd rfl (Or.inl rfl) (pe_call G5 hr2 rfl g5 k5 b5 .nil pass0 (pa_cons (pv 3) (pa_cons (pe_call G4 hr4 rfl g4 k4 b4 .nil pass0 (pa_cons (pv 3) (pa_cons (pv 4) (pa_cons (pv 5) pa_nil)))) (pa_cons (pv 5) pa_nil))))))))
    (pss_one (ps_ret (pv 3))))))), ?_⟩
  obtain ⟨g, rfl, hF, k⟩ := h
  refine ⟨_, rfl, _, rfl, _, rfl, fun x dx nx nd ne => ⟨x, dx, g, rfl, hF.s, upd_same, fun H1 G eG new0 K1 hG hc hw hl hf => ⟨rfl, ?_⟩⟩⟩
  subst eG
  have s1 : Same H H1 := Same.made nx nd K1
  have new : ∀ y, (upd (upd H dx (.own G.ga)) G.ga (.ins CG dx [])) y = none → H y = none := fun y e => by
    cases q : H y with
    | none => rfl
    | some o =>
      rw [upd_ne (ne_of_none q nx), upd_ne (ne_of_none q nd), q] at e
      cases e
  obtain ⟨nc, nw, nl, nf⟩ := new0
  have nc := new _ nc
  have nw := new _ nw
  have nl := new _ nl
  have nf := new _ nf
  have ap := hG.apart
  -- find_positions
  refine ⟨_, rfl, G, g, rfl, hG, hF, hc, fun H2 K2 c2 => ?_⟩
  have g2' := hG.but K2 (IsT.of hc) ap.dc
  have s2 : Same H H2 := fun b o e => K2 b o (s1 b o e) (ne_of_none e nc)
  have w2 := K2 _ _ hw (Ne.symm ap.cw)
  have l2 := K2 _ _ hl (Ne.symm ap.cl)
  have f2 := K2 _ _ hf (Ne.symm ap.cf)
  -- find_mates
  refine ⟨_, rfl, G, g, rfl, g2', hF, c2, f2, l2, fun H3 D nD L3 => ?_⟩
  obtain ⟨KK, hK, hKn⟩ := ends hF
  have keep2 : ∀ {Ha Hb : Hp} {X : List Addr}, Keep X Ha Hb → (∀ y, y ∈ X → y = G.wa ∨ y = G.la ∨ y = G.fa) → Same H Ha → Same H Hb := fun {Ha Hb X} kp hx sa b o e => kp b o (sa b o e) fun m => by
    rcases hx b m with rfl | rfl | rfl
    · rw [nw] at e; cases e
    · rw [nl] at e; cases e
    · rw [nf] at e; cases e
  have tab : ∀ {Ha : Hp} {kw kl kf : List (List Key × V)}, Ha G.wa = some (.dT kw) → Ha G.la = some (.dT kl) → Ha G.fa = some (.dT kf) → (∀ y, y ∈ [G.wa] → IsT Ha y) ∧ (∀ y, y ∈ [G.fa, G.la] → IsT Ha y) := fun {Ha kw kl kf} ew el ef => by
    refine ⟨fun y m => ?_, fun y m => ?_⟩
    · rw [List.mem_singleton] at m
      subst m
      exact IsT.of ew
    · simp only [List.mem_cons, List.not_mem_nil, or_false] at m
      rcases m with rfl | rfl
      · exact IsT.of ef
      · exact IsT.of el
  have nW : G.ld ∉ [G.wa] := fun z => ap.dw (List.mem_singleton.mp z)
  have nL : G.ld ∉ [G.fa, G.la] := by
    simp only [List.mem_cons, List.not_mem_nil, or_false]
    rintro (z | z)
    · exact ap.df z
    · exact ap.dl z
  refine ⟨fun m σ H' => ∃ (i : Nat) (l : Addr), m = KK - i ∧ i ≤ KK ∧ σ = [some (.int g.s), some (.int g.a), some (.int g.b), some (.ref G.ga), some (.ref l), some (.int i)] ∧ Same H H' ∧ GameAt CG CB G g H' ∧ H' G.ca = some (.dT (encB (checksM g))) ∧
      H' G.wa = some (.dT (encN (roundsM g i).W)) ∧ H' G.la = some (.dT (encN (roundsM g i).L)) ∧ H' G.fa = some (.dT (encI (roundsM g i).F)) ∧ PosList H' l (roundsM g i).lost,
    ⟨KK, 0, D, rfl, Nat.zero_le _, rfl, ?_, ?_, ?_, ?_, L3.l, L3.f, L3.d⟩, ?_⟩
  · exact keep2 L3.keep (fun y m => by
      simp only [List.mem_cons, List.not_mem_nil, or_false] at m
      rcases m with rfl | rfl
      · exact .inr (.inr rfl)
      · exact .inr (.inl rfl)) s2
  · exact g2'.keep L3.keep (tab w2 l2 f2).2 nL
  · refine L3.keep _ _ c2 ?_
    simp only [List.mem_cons, List.not_mem_nil, or_false]
    rintro (z | z)
    · exact ap.cf z
    · exact ap.cl z
  · refine L3.keep _ _ w2 ?_
    simp only [List.mem_cons, List.not_mem_nil, or_false]
    rintro (z | z)
    · exact ap.wf z
    · exact ap.wl z
  rintro m σ H4 ⟨i, l, rfl, hi, rfl, s4, a4, c4, w4, l4, f4, p4⟩
  have Go := good hF i
  refine ⟨_, rfl, line_le (n := 0) (by decide), fun E0 hE0 => ?_⟩
  have sE : Same H4 (upd H4 E0 (.lst [])) := Same.upd hE0
  have dE : (upd H4 E0 (.lst [])) E0 = some (.lst []) := upd_same
  generalize upd H4 E0 (.lst []) = H5 at sE dE
  refine ⟨_, _, (p4.same sE).dp, .lst (SqL.of dE) .nil, shaped_pos _, by decide, _, rfl, ?_⟩
  rw [eqv_nil]
  refine ite2 (fun c => ?_) (fun c => ?_)
  · have hne : (roundsM g i).lost ≠ [] := fun z => by
      rw [z] at c
      cases c
    have lt : i < KK := by
      refine Nat.lt_of_le_of_ne hi fun z => ?_
      rw [z] at hne
      exact hne hK
    refine ⟨fun σ' H' => ∃ (j : Nat) (l : Addr), j = i + 1 ∧ σ' = [some (.int g.s), some (.int g.a), some (.int g.b), some (.ref G.ga), some (.ref l), some (.int j)] ∧ Same H H' ∧ GameAt CG CB G g H' ∧ H' G.ca = some (.dT (encB (checksM g))) ∧
      H' G.wa = some (.dT (encN (roundsM g j).W)) ∧ H' G.la = some (.dT (encN (roundsM g j).L)) ∧ H' G.fa = some (.dT (encI (roundsM g j).F)) ∧ PosList H' l (roundsM g j).lost, ?_, ?_⟩
    · rintro σ' H' ⟨j, l', rfl, rfl, y⟩
      exact ⟨KK - (i + 1), by omega, i + 1, l', rfl, lt, rfl, y⟩
    have a5 := a4.same sE
    refine ⟨_, rfl, _, _, rfl, rfl, ?_⟩
    refine ⟨_, rfl, _, rfl, _, rfl, _, rfl, G, g, l, i, roundsM g i, rfl, a5, hF, .inl (sE _ _ c4), Go, sE _ _ w4, p4.same sE, fun H6 D6 n6 W6 => ?_⟩
    have tw := tab (sE _ _ w4) (sE _ _ l4) (sE _ _ f4)
    have a6 := a5.keep W6.keep tw.1 nW
    have nf6 : G.fa ∉ [G.wa] := fun z => ap.wf (List.mem_singleton.mp z).symm
    have nl6 : G.la ∉ [G.wa] := fun z => ap.wl (List.mem_singleton.mp z).symm
    have f6 := W6.keep _ _ (sE _ _ f4) nf6
    have l6 := W6.keep _ _ (sE _ _ l4) nl6
    have c6 := W6.keep _ _ (sE _ _ c4) (fun z => ap.cw (List.mem_singleton.mp z))
    refine ⟨_, rfl, G, g, D6, i, roundsM g i, rfl, a6, hF, W6.c, Go, f6, l6, W6.d, fun H7 D7 n7 L7 => ?_⟩
    have tl := tab W6.w l6 f6
    refine ⟨i + 1, D7, rfl, rfl, ?_, a6.keep L7.keep tl.2 nL, ?_, ?_, L7.l, L7.f, L7.d⟩
    · refine keep2 L7.keep (fun y m => ?_) (keep2 W6.keep (fun y m => .inl (List.mem_singleton.mp m)) (s4.trans sE))
      simp only [List.mem_cons, List.not_mem_nil, or_false] at m
      rcases m with rfl | rfl
      · exact .inr (.inr rfl)
      · exact .inr (.inl rfl)
    · refine L7.keep _ _ c6 ?_
      simp only [List.mem_cons, List.not_mem_nil, or_false]
      rintro (z | z)
      · exact ap.cf z
      · exact ap.cl z
    · refine L7.keep _ _ W6.w ?_
      simp only [List.mem_cons, List.not_mem_nil, or_false]
      rintro (z | z)
      · exact ap.wf z
      · exact ap.wl z
  · have he : (roundsM g i).lost = [] := by
      cases q : (roundsM g i).lost with
      | nil => rfl
      | cons x t => rw [q] at c; exact absurd rfl c
    exact ⟨_, rfl, k H5 G (roundsM g i) (s4.trans sE) ⟨a4.same sE, sE _ _ c4, sE _ _ w4, sE _ _ l4, done Go he⟩⟩
end
end Cw
end

section
set_option Elab.async false
set_option maxRecDepth 100000
set_option maxHeartbeats 4000000
/- The walk: what's asked of a game. -/
namespace Cw
open PySem PySem.Spec PyProof.Rows L2 Ch
open PySem.W (Codec)
open Sn80 (Game stands check near whites blacks mate fair aims tableOf longestOf)

/-- any four ints -/
def k4 (x y z w : Int) : List Key := [.inl x, .inl y, .inl z, .inl w]
theorem k4_pos {x y z w : Int} {p : Ps} (h : posI x y z w = some p) : k4 x y z w = kp p := by
  unfold posI at h
  split at h
  · rename_i c
    have e := Option.some.inj h
    subst e
    unfold k4 kp
    show [Sum.inl x, Sum.inl y, Sum.inl z, Sum.inl w] = [Sum.inl ((x.toNat : Nat) : Int), Sum.inl ((y.toNat : Nat) : Int), Sum.inl ((z.toNat : Nat) : Int), Sum.inl ((w.toNat : Nat) : Int)]
    rw [Int.toNat_of_nonneg c.1, Int.toNat_of_nonneg c.2.1, Int.toNat_of_nonneg c.2.2.1, Int.toNat_of_nonneg c.2.2.2]
  · cases h
theorem k4_none {x y z w : Int} (h : posI x y z w = none) (p : Ps) : kp p ≠ k4 x y z w := fun e => by
  unfold k4 kp at e
  simp only [List.cons.injEq, Sum.inl.injEq, and_true] at e
  unfold posI at h
  rw [if_pos ⟨by omega, by omega, by omega, by omega⟩] at h
  cases h
theorem valV_k4 {α : Type} (f : α → V) (l : List (Ps × α)) (x y z w : Int) : valV (enc f l) (k4 x y z w) = (posI x y z w).bind fun p => (look l p).map f := by
  cases e : posI x y z w with
  | some p =>
    rw [k4_pos e, valV_enc]
    rfl
  | none =>
    show _ = none
    induction l with
    | nil => rfl
    | cons a r ih =>
      have q : valV (enc f (a :: r)) (k4 x y z w) = valV (enc f r) (k4 x y z w) := valV_neg (p := (kp a.1, f a.2)) (k4_none e a.1)
      rw [q, ih]
theorem safe_k4 {g : Game} (F : Fits g) (x y z w : Int) : safeV (encB (checksM g)) (k4 x y z w) = match posI x y z w with
    | some p => fair g p
    | none => false := by
  cases e : posI x y z w with
  | some p =>
    rw [k4_pos e, safe_fair F]
  | none =>
    unfold safeV encB
    rw [valV_k4, e]
    rfl

/-- what the top has of the answers -/
structure TxA (mg : Str → Option Value) : Prop where
  gP : ∃ t, mg "NO_POSITION" = some (.int (-3) t)
  gL : ∃ t, mg "NOT_LOST" = some (.int (-4) t)
  mmax : mg "max" = none

def spBest (CG CB : Addr) : Sp := fun vs H Q _ => ∃ (G : GA) (g : Game) (r : RS) (q : Addr) (p : Ps) (k : Nat) (m : Nat × Nat × Ps), vs = [.ref G.ga, .ref q] ∧ GDone CG CB G g r H ∧ Fits g ∧ TupAt H q p ∧ fair g p = true ∧ look r.W p = some k ∧ (wm g p).find? (isBest r k) = some m ∧
  ∀ H' l, Same H H' → H l = none → H' l = some (.lst [vN m.1, vN m.2.1]) → Q (.ref l) H'
def spMost (CG CB : Addr) : Sp := fun vs H Q _ => ∃ (G : GA) (g : Game) (r : RS), vs = [.ref G.ga] ∧ GDone CG CB G g r H ∧ Fits g ∧
  ∀ H', Same H H' → Q (.int ((longestOf (tableOf g) : Nat) : Int)) H'
def spAsk (CG CB : Addr) (A : Game → Int → Int → Int → Int → List Int) : Sp := fun vs H Q _ => ∃ (G : GA) (g : Game) (r : RS) (q : Addr) (x y z w : Int), vs = [.ref G.ga, .ref q] ∧ GDone CG CB G g r H ∧ Fits g ∧ H q = some (.tup [.int x, .int y, .int z, .int w]) ∧
  ∀ H' l, Same H H' → H l = none → H' l = some (.lst ((A g x y z w).map V.int)) → Q (.ref l) H'
/-- over a locked table's keys -/
theorem lc_keysT {d : Addr} {o : Obj} {kvs : List (List Key × V)} {g : TG} {tt : TT} {te : TE} {vs : List Nat} {τ : L2.St} {J : Hp} {D : Addr} {Qd : Hp → Prop} (Pv : Nat → Hp → Prop) (start : Pv 0 (upd J D (.lst []))) (lies : ∀ i H, Pv i H → H d = some (.frz o (.dT kvs)))
    (turn : ∀ i k v q H, kvs[i]? = some (k, v) → H q = some (.tup (k.map kV)) → Pv i H → g (.ref q) (wipe τ vs) H fun τ2 H2 => wipe τ2 vs = wipe τ vs ∧ tt τ2 H2 fun b H3 =>
      if b = true then te τ2 H3 fun y H4 => ∃ got, H4 D = some (.lst got) ∧ got.length < sizeLine ∧ Pv (i + 1) (upd H4 D (.lst (got ++ [y]))) else Pv (i + 1) H3) (over : ∀ H, Pv kvs.length H → Qd H) :
    ∃ At : Nat → Nat → Hp → Prop,
      (∃ left, At 0 left (upd J D (.lst []))) ∧
      ∀ i left H, At i left H →
        ((Itkt d o kvs).stop i H ∧ Qd H) ∨
        ((Itkt d o kvs).go i H ∧ ∃ Nx : Hp → Prop, (∀ H', Nx H' → ∃ left', left' < left ∧ At (i + 1) left' H') ∧
          ∀ x H', (Itkt d o kvs).yld i H x H' → g x (wipe τ vs) H' fun τ2 H2 => wipe τ2 vs = wipe τ vs ∧ tt τ2 H2 fun b H3 =>
            if b = true then te τ2 H3 fun y H4 => ∃ got, H4 D = some (.lst got) ∧ got.length < sizeLine ∧ Nx (upd H4 D (.lst (got ++ [y])))
            else Nx H3) := by
  refine ⟨fun i left H => left + i = kvs.length ∧ Pv i H, ⟨kvs.length, rfl, start⟩, fun i left H ⟨sum, p⟩ => ?_⟩
  have here := lies i H p
  cases left with
  | zero =>
    have e : kvs.length = i := by omega
    exact .inl ⟨⟨here, Nat.le_of_eq e⟩, over H (e ▸ p)⟩
  | succ more =>
    refine .inr ⟨⟨here, by omega⟩, Pv (i + 1), fun H' p' => ⟨more, Nat.lt_succ_self _, by omega, p'⟩, fun x H' y => ?_⟩
    obtain ⟨same, k, v, t, h1, rfl, h3⟩ := y
    subst same
    exact turn i k v t _ h1 h3 p
section
variable {P : Program} {w : World} {K : PySem.W.Frag} {mg : Str → Option Value} {base : Heap} {CG CB aS aA aL : Addr}
abbrev sBest : Stmt := topS 32
abbrev nBest : List Str := ["game", "position", "k", "what", "cell", "other"]
theorem scBest : FnScope nBest ["game", "position"] (defScope sBest) := ⟨rfl, rfl, rfl, by decide +kernel, rfl, by decide +kernel, by decide +kernel⟩
theorem ok_best {f f4 : Addr} {fd fd4 : FuncData} (T : TxG K mg CG) (G4 : FnOk P w K mg base CX0 2 f4 fd4 ["game", "position"] (spWhite CG CB)) (k4 : PySem.W.keepIn K (.ref f4) = true) (g4 : mg "white_moves" = some (.ref f4)) (b4 : Binds K fd4 ["game", "position"] [])
    (F : Fun K "best_move" "best_move" sBest f fd) : FnOk P w K mg base CX0 3 f fd ["game", "position"] (spBest CG CB) := by
  refine F.ok scBest (fun vs H Q E h => ?_) (fun cdv A outer s0 H vs Q E hr h => ?_)
  · obtain ⟨G, g, r, q, p, k, m, rfl, _⟩ := h
    rfl
  have hu := hu_of hr
  refine ⟨_, pss_cons (ps_set (i := 2) scBest.nd rfl (Or.inl rfl) (pe_dget hu (pe_fld (pv 0) rfl) (pv 1) (fun _ _ => rfl)))
    (pss_cons (ps_for PassesOwn.never rfl (pi_list (pe_call G4 hr rfl g4 k4 b4 .nil pass0 (pa_cons (pv 0) (pa_cons (pv 1) pa_nil)))) (pg_tup rfl (pgs_cons (pg_name (i := 3) scBest.nd rfl (Or.inl rfl)) (pgs_cons (pg_name (i := 4) scBest.nd rfl (Or.inl rfl)) (pgs_cons (pg_name (i := 5) scBest.nd rfl (Or.inl rfl)) pgs_nil))))
      (pss_one (ps_if (PW.pt (pw_and (pt_cmp (pc_din hu (pv 5) (pe_fld (pv 0) rfl)) rfl) (pw_and1 (pt_cmpR op_eq (pe_dget hu (pe_fld (pv 0) rfl) (pv 5) (fun _ _ => rfl)) (pe_op op_sub (pv 2) pe_int) (nomark _)))))
        (pss_one (ps_ret (pe_lst (pa_cons (pv 3) (pa_cons (pv 4) pa_nil))))) pss_nil)))
    (pss_one (ps_ret (pe_lst (pa_cons pe_int (pa_cons pe_int pa_nil)))))), ?_⟩
  obtain ⟨G, g, r, q, p, k, m, rfl, hD, hF, hq, hp, hk, hm, kk⟩ := h
  have hG := hD.at_
  have sp := (fair_iff.mp hp).1
  have k0 : k ≠ 0 := fun z => by
    subst z
    exact no_Wins_zero ((hD.done.w p 0).mp hk).2
  have gw : DGet H G.wa (.ref q) (some (.int k)) := by
    have := dget_t (k := kp p) (.inl hD.w) hq
    unfold encN at this
    rw [valV_enc, hk] at this
    exact this
  refine ⟨_, rfl, G.ga, CG, G.dx, _, _, rfl, hG.top, T.cl, T.n4, gF_wins G, _, rfl, G.wa, _, rfl, gw, ?_⟩
  refine ⟨_, rfl, _, rfl, G, g, q, p, rfl, hG, hF, .inl hD.c, hq, sp, fun H1 l1 s1 n1 ⟨rs, R⟩ => ?_⟩
  refine ⟨l1, rfl, ⟨_, SqL.of R.top⟩, for_list (K := K) (a := l1) (xs := rs.map V.ref)
    (fun i σ H' => (∃ a b c, σ = [some (.ref G.ga), some (.ref q), some (.int k), a, b, c]) ∧ Same H1 H' ∧ ∀ (j : Nat) (m : Nat × Nat × Ps), j < i → (wm g p)[j]? = some m → isBest r k m = false)
    ⟨⟨_, _, _, rfl⟩, Same.refl _, fun j m hj => absurd hj (Nat.not_lt_zero j)⟩ (fun i σ H' _ z => SqL.of (z.2.1 _ _ R.top)) ?_ ?_⟩
  · rintro i x σ H2 hx ⟨⟨a, b, c, rfl⟩, z1, z2⟩
    obtain ⟨e, he, rfl⟩ := get_map hx
    obtain ⟨n, hn⟩ := get_len R.len he
    obtain ⟨e', he', t, hbt, htm⟩ := R.each i n hn
    cases he.symm.trans he'
    have D2 := (hD.same s1).same z1
    have go : isBest r k n = false → ∃ a b c, ([some (V.ref G.ga), some (V.ref q), some (V.int k), some (vN n.1), some (vN n.2.1), some (V.ref t)] : L2.St) = [some (.ref G.ga), some (.ref q), some (.int k), a, b, c] ∧ Same H1 H2 ∧ ∀ (j : Nat) (m : Nat × Nat × Ps), j < i + 1 → (wm g p)[j]? = some m → isBest r k m = false := fun nb =>
      ⟨_, _, _, rfl, z1, fun j m' hj hm' => by
        by_cases c : j = i
        · subst c
          cases hn.symm.trans hm'
          exact nb
        · exact z2 j m' (by omega) hm'⟩
    have go' : isBest r k n = false → (∃ a b c, ([some (V.ref G.ga), some (V.ref q), some (V.int k), some (vN n.1), some (vN n.2.1), some (V.ref t)] : L2.St) = [some (.ref G.ga), some (.ref q), some (.int k), a, b, c]) ∧ Same H1 H2 ∧ ∀ (j : Nat) (m : Nat × Nat × Ps), j < i + 1 → (wm g p)[j]? = some m → isBest r k m = false := fun nb => by
      obtain ⟨_, _, _, _, q1, q2⟩ := go nb
      exact ⟨⟨_, _, _, rfl⟩, q1, q2⟩
    have gl : DGet H2 G.la (.ref t) ((look r.L n.2.2).map vN) := by
      have := dget_t (k := kp n.2.2) (.inl D2.l) (z1 _ _ htm)
      unfold encN at this
      rw [valV_enc] at this
      exact this
    refine ⟨e, _, rfl, SqT.of (z1 _ _ hbt), rfl, _, _, rfl, _, _, rfl, _, _, rfl, rfl, ?_⟩
    refine ⟨_, rfl, _, rfl, G.ga, CG, G.dx, _, _, rfl, D2.at_.top, T.cl, T.n5, gF_loses G, G.la, _, rfl, gl, _, rfl, ite2 (fun c1 => ?_) (fun c1 => ?_)⟩
    · obtain ⟨v, hv⟩ : ∃ v, look r.L n.2.2 = some v := by
        cases e : look r.L n.2.2 with
        | none => rw [e] at c1; cases c1
        | some v => exact ⟨v, rfl⟩
      rw [hv] at gl
      refine ⟨_, rfl, G.ga, CG, G.dx, _, _, rfl, D2.at_.top, T.cl, T.n5, gF_loses G, _, rfl, G.la, _, rfl, gl, _, rfl, _, _, rfl, rfl, rfl, _, rfl, ite2 (fun c2 => ?_) (fun c2 => ?_)⟩
      · have ev : v = k - 1 := by
          have := V.int.inj (of_decide_eq_true c2)
          omega
        have bn : isBest r k n = true := by
          unfold isBest
          rw [hv, ev]
          simp
        have := find_first hn bn z2
        rw [hm] at this
        cases this
        refine ⟨_, rfl, _, rfl, line_le (n := 2) (by decide), fun l2 hl2 => ?_⟩
        exact kk _ l2 ((s1.trans z1).trans (Same.upd hl2)) ((s1.trans z1).free hl2) upd_same
      · refine go' ?_
        unfold isBest
        rw [hv]
        have : ¬ v = k - 1 := fun z => c2 (decide_eq_true (by
          show V.int (v : Int) = V.int ((k : Int) - 1)
          congr 1
          omega))
        simp [this]
    · refine go' ?_
      have : look r.L n.2.2 = none := by
        cases e : look r.L n.2.2 with
        | none => rfl
        | some v => rw [e] at c1; exact absurd rfl c1
      unfold isBest
      rw [this]
      simp
  · rintro σ H2 ⟨⟨a, b, c, rfl⟩, z1, z2⟩
    exfalso
    rw [List.length_map, R.len] at z2
    have := find_nothing (f := isBest r k) (l := wm g p) fun j y hj => z2 j y (List.getElem?_eq_some_iff.mp hj).1 hj
    rw [hm] at this
    cases this

abbrev sMost : Stmt := topS 36
abbrev nMost : List Str := ["game", "position"]
theorem scMost : FnScope nMost ["game"] (defScope sMost) := ⟨rfl, rfl, rfl, by decide +kernel, rfl, by decide +kernel, by decide +kernel⟩
theorem ok_most {f : Addr} {fd : FuncData} (T : TxG K mg CG) (TA : TxA mg) (F : Fun K "most_moves" "most_moves" sMost f fd) : FnOk P w K mg base CX0 1 f fd ["game"] (spMost CG CB) := by
  refine F.ok scMost (fun vs H Q E h => ?_) (fun cdv A outer s0 H vs Q E hr h => ?_)
  · obtain ⟨G, g, r, rfl, _⟩ := h
    rfl
  have hu := hu_of hr
  refine ⟨_, pss_one (ps_ret (pe_callB (cr_max rfl) (by rfl) TA.mmax PyProof.Rows.boot_max (pa_cons (pe_op op_cat
    (pe_lock (pe_lc (own := [("position", 1)]) (g := gName 1) (tt := tYes) rfl scMost.nd (pi_keys (pe_fld (pv 0) rfl)) (blkOk_by (N := nMost) (sc := defScope sMost) (by decide +kernel))
      (fun _ _ _ _ _ => pg_name (i := 1) scMost.nd rfl (Or.inl rfl)) (fun _ _ _ _ _ => pts_nil) (fun _ _ _ _ _ => pe_dget hu (fldK (K := K) rfl (pv 0) rfl) (pv 1) (fun _ _ => rfl))))
    (pe_lst (pa_cons pe_int pa_nil))) pa_nil))), ?_⟩
  obtain ⟨G, g, r, rfl, hD, hF, k⟩ := h
  have hG := hD.at_
  have ap := hG.apart
  have cap := hD.done.w_cap hF
  refine ⟨G.wa, _, hD.w, trivial, fun od => ?_⟩
  have kb : But G.wa H (upd H G.wa (.frz od (.dT (encN r.W)))) := But.upd0
  have g0 := hG.but kb (IsT.of hD.w) ap.dw
  have z0 : (upd H G.wa (.frz od (.dT (encN r.W)))) G.wa = some (.frz od (.dT (encN r.W))) := upd_same
  generalize upd H G.wa (.frz od (.dT (encN r.W))) = H1 at kb g0 z0
  refine ⟨_, rfl, G.ga, CG, G.dx, _, _, rfl, g0.top, T.cl, T.n4, gF_wins G, G.wa, od, rfl, .inr ⟨_, z0, fun D hD' => lc_keysT (d := G.wa) (o := od) (kvs := encN r.W)
    (fun i H' => Same H1 H' ∧ H' D = some (.lst (((r.W.take i).map fun (e : Ps × Nat) => (e.2 : Int)).map V.int))) ⟨Same.upd hD', upd_same⟩ (fun i H' z => z.1 _ _ z0) ?_ ?_⟩⟩
  · rintro i kk v q H2 hi hq ⟨z1, z2⟩
    obtain ⟨e, he, rfl, rfl⟩ := enc_get hi
    have gv : DGet H2 G.wa (.ref q) (some (vN e.2)) := by
      have := dget_t (k := kp e.1) (.inr ⟨od, z1 _ _ z0⟩) hq
      unfold encN at this
      rw [valV_enc, look_of_mem hD.done.nW (List.mem_of_getElem? he)] at this
      exact this
    refine ⟨rfl, ⟨_, rfl, G.ga, CG, G.dx, _, _, rfl, z1 _ _ g0.top, T.cl, T.n4, gF_wins G, _, rfl, G.wa, _, rfl, gv, _, z2, ?_, Same.upd2 z1 hD', ?_⟩⟩
    · rw [List.length_map, List.length_map, List.length_take]
      exact line_lt (by omega)
    · rw [upd_same, take_more he, List.map_append, List.map_append]
      rfl
  · rintro H2 ⟨z1, z2⟩
    have el : (encN r.W).length = r.W.length := enc_len _ _
    rw [el, List.take_length] at z2
    refine ⟨z1 _ _ z0, ?_⟩
    have nDw : D ≠ G.wa := fun e => by rw [e, z0] at hD'; cases hD'
    have s3 : Same H (upd H2 G.wa (.dT (encN r.W))) := fun b o e => by
      by_cases c : b = G.wa
      · subst c
        rw [upd_same, ← e, hD.w]
      · rw [upd_ne c]
        exact z1 _ _ (kb b o e c)
    have d3 : (upd H2 G.wa (.dT (encN r.W))) D = some (.lst ((r.W.map fun (e : Ps × Nat) => (e.2 : Int)).map V.int)) := by
      rw [upd_ne nDw]
      exact z2
    generalize upd H2 G.wa (.dT (encN r.W)) = H3 at s3 d3
    refine ⟨line_le (n := 1) (by decide), fun b hb => ?_⟩
    have s4 : Same H3 (upd H3 b (.lst [.int 0])) := Same.upd hb
    refine ⟨D, b, _, _, rfl, rfl, s4 _ _ d3, upd_same, ?_, fun l hl => ?_⟩
    · rw [List.length_map, List.length_map, List.length_singleton]
      exact line_le (by omega)
    have d5 : (upd (upd H3 b (.lst [.int 0])) l (.lst ((r.W.map fun (e : Ps × Nat) => (e.2 : Int)).map V.int ++ [.int 0]))) l = some (.lst ((r.W.map (fun (e : Ps × Nat) => (e.2 : Int)) ++ [0]).map V.int)) := by
      rw [upd_same, List.map_append]
      rfl
    refine ⟨l, _, rfl, SqL.of d5, ?_, fun m hm1 hm2 => ?_⟩
    · rw [List.length_append, List.length_singleton]
      omega
    · rw [hD.done.longest hm1 hm2]
      exact k _ ((s3.trans s4).trans (Same.upd hl))

abbrev sWinsT : Stmt := topS 37
abbrev nAsk : List Str := ["game", "position"]
theorem scWinsT : FnScope nAsk nAsk (defScope sWinsT) := ⟨rfl, rfl, rfl, by decide +kernel, rfl, by decide +kernel, by decide +kernel⟩
theorem ok_winsT {f f1 : Addr} {fd fd1 : FuncData} (T : TxG K mg CG) (TA : TxA mg) (G1 : FnOk P w K mg base CX0 1 f1 fd1 nAsk (spSafe CG CB)) (k1 : PySem.W.keepIn K (.ref f1) = true) (g1 : mg "is_safe" = some (.ref f1)) (b1 : Binds K fd1 nAsk [])
    (F : Fun K "wins_told" "wins_told" sWinsT f fd) : FnOk P w K mg base CX0 2 f fd nAsk (spAsk CG CB fun g x y z w => [winsA g x y z w]) := by
  obtain ⟨tP, gP⟩ := TA.gP
  refine F.ok scWinsT (fun vs H Q E h => ?_) (fun cdv A outer s0 H vs Q E hr h => ?_)
  · obtain ⟨G, g, r, q, x, y, z, w', rfl, _⟩ := h
    rfl
  have hu := hu_of hr
  refine ⟨_, pss_cons (ps_if (pt_not (pt_val (pe_call G1 hr rfl g1 k1 b1 .nil pass0 (pa_cons (pv 0) (pa_cons (pv 1) pa_nil)))))
      (pss_one (ps_ret (pe_lst (pa_cons (pe_glob (v := .int (-3)) rfl gP ⟨_, rfl⟩) pa_nil)))) pss_nil)
    (pss_one (ps_ret (pe_lst (pa_cons (pe_dget2 hu (pe_fld (pv 0) rfl) (pv 1) pe_int ⟨rfl, rfl, rfl, rfl⟩) pa_nil)))), ?_⟩
  obtain ⟨G, g, r, q, x, y, z, w', rfl, hD, hF, hq, k⟩ := h
  have hG := hD.at_
  have ea := winsA_eq hD.done x y z w'
  have hq' : H q = some (.tup ((k4 x y z w').map kV)) := hq
  have es := safe_k4 hF x y z w'
  have fin : ∀ v : Int, v = winsA g x y z w' → ∀ l, H l = none → Q (.ref l) (upd H l (.lst [.int v])) := fun v ev l hl => by
    subst ev
    exact k _ l (Same.upd hl) hl upd_same
  refine ⟨_, rfl, _, rfl, G, g, q, k4 x y z w', rfl, hG, .inl hD.c, hq', _, rfl, ?_⟩
  refine ite2 (fun c => ?_) (fun c => ?_)
  · refine ⟨line_le (n := 1) (by decide), fin (-3) ?_⟩
    rw [ea]
    cases e : posI x y z w' with
    | none => rfl
    | some p =>
      rw [e] at es
      simp only at es
      simp only
      rw [if_neg]
      intro f
      rw [es, f] at c
      cases c
  · have gw : DGet H G.wa (.ref q) (valV (encN r.W) (k4 x y z w')) := dget_t (.inl hD.w) hq'
    unfold encN at gw
    rw [valV_k4] at gw
    refine ⟨_, rfl, G.ga, CG, G.dx, _, _, rfl, hG.top, T.cl, T.n4, gF_wins G, G.wa, rfl, .inr ⟨_, .inl hD.w⟩, _, rfl, _, gw, ?_⟩
    refine ⟨line_le (n := 1) (by decide), fun l hl => ?_⟩
    cases e : posI x y z w' with
    | none =>
      rw [e] at es
      simp only at es
      rw [es] at c
      exact absurd rfl c
    | some p =>
      rw [e] at es ea
      simp only at es ea
      have f : fair g p = true := by
        rw [es] at c
        cases q : fair g p with
        | true => rfl
        | false => rw [q] at c; exact absurd rfl c
      rw [if_pos f] at ea
      cases e2 : look r.W p with
      | none =>
        rw [e2] at ea
        have z := fin 0 ea.symm l hl
        show Q (.ref l) (upd H l (.lst [(Option.map vN (look r.W p)).getD (.int 0)]))
        rw [e2]
        exact z
      | some v =>
        rw [e2] at ea
        have z := fin v ea.symm l hl
        show Q (.ref l) (upd H l (.lst [(Option.map vN (look r.W p)).getD (.int 0)]))
        rw [e2]
        exact z

theorem in_k4 {g : Game} (F : Fits g) (x y z w : Int) : (valV (encB (checksM g)) (k4 x y z w)).isSome = match posI x y z w with
    | some p => stands g p
    | none => false := by
  cases e : posI x y z w with
  | some p =>
    rw [k4_pos e, in_stands F]
  | none =>
    unfold encB
    rw [valV_k4, e]
    rfl
abbrev sLosesT : Stmt := topS 38
theorem scLosesT : FnScope nAsk nAsk (defScope sLosesT) := ⟨rfl, rfl, rfl, by decide +kernel, rfl, by decide +kernel, by decide +kernel⟩
theorem ok_losesT {f : Addr} {fd : FuncData} (T : TxG K mg CG) (TA : TxA mg) (F : Fun K "loses_told" "loses_told" sLosesT f fd) : FnOk P w K mg base CX0 1 f fd nAsk (spAsk CG CB fun g x y z w => [losesA g x y z w]) := by
  obtain ⟨tP, gP⟩ := TA.gP
  obtain ⟨tL, gL⟩ := TA.gL
  refine F.ok scLosesT (fun vs H Q E h => ?_) (fun cdv A outer s0 H vs Q E hr h => ?_)
  · obtain ⟨G, g, r, q, x, y, z, w', rfl, _⟩ := h
    rfl
  have hu := hu_of hr
  refine ⟨_, pss_cons (ps_if (pt_cmp (pc_dnotin hu (pv 1) (pe_fld (pv 0) rfl)) rfl)
      (pss_one (ps_ret (pe_lst (pa_cons (pe_glob (v := .int (-3)) rfl gP ⟨_, rfl⟩) pa_nil)))) pss_nil)
    (pss_one (ps_ret (pe_lst (pa_cons (pe_dget2 hu (pe_fld (pv 0) rfl) (pv 1) (pe_glob (v := .int (-4)) rfl gL ⟨_, rfl⟩) ⟨rfl, rfl, rfl, rfl⟩) pa_nil)))), ?_⟩
  obtain ⟨G, g, r, q, x, y, z, w', rfl, hD, hF, hq, k⟩ := h
  have hG := hD.at_
  have ea := losesA_eq hD.done x y z w'
  have hq' : H q = some (.tup ((k4 x y z w').map kV)) := hq
  have es := in_k4 hF x y z w'
  have fin : ∀ v : Int, v = losesA g x y z w' → ∀ l, H l = none → Q (.ref l) (upd H l (.lst [.int v])) := fun v ev l hl => by
    subst ev
    exact k _ l (Same.upd hl) hl upd_same
  refine ⟨_, rfl, _, rfl, G.ga, CG, G.dx, _, _, rfl, hG.top, T.cl, T.n3, gF_checks G, G.ca, _, rfl, dget_t (.inl hD.c) hq', _, rfl, ?_⟩
  refine ite2 (fun c => ?_) (fun c => ?_)
  · refine ⟨line_le (n := 1) (by decide), fin (-3) ?_⟩
    rw [ea]
    cases e : posI x y z w' with
    | none => rfl
    | some p =>
      rw [e] at es
      simp only at es
      simp only
      rw [if_neg]
      intro f
      rw [es, f] at c
      cases c
  · have gw : DGet H G.la (.ref q) (valV (encN r.L) (k4 x y z w')) := dget_t (.inl hD.l) hq'
    unfold encN at gw
    rw [valV_k4] at gw
    refine ⟨_, rfl, G.ga, CG, G.dx, _, _, rfl, hG.top, T.cl, T.n5, gF_loses G, G.la, rfl, .inr ⟨_, .inl hD.l⟩, _, rfl, _, gw, ?_⟩
    refine ⟨line_le (n := 1) (by decide), fun l hl => ?_⟩
    cases e : posI x y z w' with
    | none =>
      rw [e] at es
      simp only at es
      rw [es] at c
      exact absurd rfl c
    | some p =>
      rw [e] at es ea
      simp only at es ea
      have f : stands g p = true := by
        rw [es] at c
        cases q : stands g p with
        | true => rfl
        | false => rw [q] at c; exact absurd rfl c
      rw [if_pos f] at ea
      cases e2 : look r.L p with
      | none =>
        rw [e2] at ea
        have z := fin (-4) ea.symm l hl
        show Q (.ref l) (upd H l (.lst [(Option.map vN (look r.L p)).getD (.int (-4))]))
        rw [e2]
        exact z
      | some v =>
        rw [e2] at ea
        have z := fin v ea.symm l hl
        show Q (.ref l) (upd H l (.lst [(Option.map vN (look r.L p)).getD (.int (-4))]))
        rw [e2]
        exact z

abbrev sBestT : Stmt := topS 39
abbrev nBestT : List Str := ["game", "position", "found"]
theorem scBestT : FnScope nBestT nAsk (defScope sBestT) := ⟨rfl, rfl, rfl, by decide +kernel, rfl, by decide +kernel, by decide +kernel⟩
theorem ok_bestT {f f1 f2 : Addr} {fd fd1 fd2 : FuncData} (G1 : FnOk P w K mg base CX0 2 f1 fd1 nAsk (spAsk CG CB fun g x y z w => [winsA g x y z w])) (k1 : PySem.W.keepIn K (.ref f1) = true) (g1 : mg "wins_told" = some (.ref f1)) (b1 : Binds K fd1 nAsk [])
    (G2 : FnOk P w K mg base CX0 3 f2 fd2 nAsk (spBest CG CB)) (k2 : PySem.W.keepIn K (.ref f2) = true) (g2 : mg "best_move" = some (.ref f2)) (b2 : Binds K fd2 nAsk [])
    (F : Fun K "best_told" "best_told" sBestT f fd) : FnOk P w K mg base CX0 4 f fd nAsk (spAsk CG CB bestA) := by
  refine F.ok scBestT (fun vs H Q E h => ?_) (fun cdv A outer s0 H vs Q E hr h => ?_)
  · obtain ⟨G, g, r, q, x, y, z, w', rfl, _⟩ := h
    rfl
  have hr2 : Room 2 _ := hr.mono (by decide)
  refine ⟨_, pss_cons (ps_set (i := 2) scBestT.nd rfl (Or.inl rfl) (pe_call G1 hr2 rfl g1 k1 b1 .nil pass0 (pa_cons (pv 0) (pa_cons (pv 1) pa_nil))))
    (pss_cons (ps_if (pt_cmpR op_gt (pe_ix ix_list (pv 2) pe_int (fun _ _ => rfl)) pe_int (nomark _))
      (pss_one (ps_ret (pe_op op_cat (pv 2) (pe_call G2 hr rfl g2 k2 b2 .nil pass0 (pa_cons (pv 0) (pa_cons (pv 1) pa_nil)))))) pss_nil)
    (pss_one (ps_ret (pv 2)))), ?_⟩
  obtain ⟨G, g, r, q, x, y, z, w', rfl, hD, hF, hq, k⟩ := h
  refine ⟨_, rfl, _, rfl, G, g, r, q, x, y, z, w', rfl, hD, hF, hq, fun H1 l1 s1 n1 e1 => ?_⟩
  refine ⟨_, rfl, l1, _, _, _, rfl, rfl, SqL.of e1, rfl, _, _, rfl, rfl, _, rfl, ?_⟩
  refine ite2 (fun c => ?_) (fun c => ?_)
  · have c : 0 < winsA g x y z w' := of_decide_eq_true c
    rcases bestA_cases hD.done x y z w' with ⟨h1, _⟩ | ⟨p, kk, m, h1, h2, h3, h4, h5, h6, h7⟩
    · omega
    · have hp : TupAt H1 q p := by
        have z0 := k4_pos h1
        have : H1 q = some (.tup ((k4 x y z w').map kV)) := s1 _ _ hq
        rw [z0] at this
        exact this
      refine ⟨_, rfl, _, rfl, _, rfl, G, g, r, q, p, kk, m, rfl, hD.same s1, hF, hp, h2, h3, h6, fun H2 l2 s2 n2 e2 => ?_⟩
      refine ⟨l1, l2, _, _, rfl, rfl, s2 _ _ e1, e2, line_le (n := 3) (by decide), fun l hl => ?_⟩
      refine k _ l ((s1.trans s2).trans (Same.upd hl)) ((s1.trans s2).free hl) ?_
      rw [upd_same, h7]
      show some (HO.lst ([V.int (winsA g x y z w')] ++ [vN m.1, vN m.2.1])) = _
      rw [h5]
      rfl
  · have c : ¬ 0 < winsA g x y z w' := fun z => c (decide_eq_true z)
    rcases bestA_cases hD.done x y z w' with ⟨h1, h2⟩ | ⟨p, kk, m, h1, h2, h3, h4, h5, h6, h7⟩
    · refine ⟨_, rfl, k H1 l1 s1 n1 ?_⟩
      rw [h2]
      exact e1
    · omega
end
end Cw
end

section
set_option Elab.async false
set_option maxRecDepth 100000
set_option maxHeartbeats 4000000
/- The walk: a list set aside while something else runs. -/
namespace Cw
open PySem PySem.Spec PyProof.Rows L2

/-- the heap without what's at D -/
def hide (D : Addr) (H : Hp) : Hp := fun b => if b = D then none else H b
theorem hide_at {D : Addr} {H : Hp} : hide D H D = none := if_pos rfl
theorem hide_ne {D b : Addr} {H : Hp} (n : b ≠ D) : hide D H b = H b := if_neg n
theorem hide_upd {D : Addr} {H : Hp} {o : HO} (n : H D = none) : hide D (upd H D o) = H := funext fun b => by
  by_cases c : b = D
  · rw [c, hide_at, n]
  · rw [hide_ne c, upd_ne c]
section
variable {X : Cx} {pins : List (Addr × Obj)} {σ : List (Option V)} {H H' : Hp} {s s' : Shared} {D : Addr} {xs : List V}
theorem Inv.hides (I : Inv X pins σ H s) (h : H D = some (.lst xs)) : ∃ ob, s.heap.get? D = some ob ∧ ObjOk X.prog X.w H s.heap D (.lst xs) ∧ Inv X ((D, ob) :: pins) σ (hide D H) s := by
  have hk := I.hok D _ h
  obtain ⟨z, its, n, r, e⟩ := id hk
  have le : ∀ b, H b = none → hide D H b = none := fun b q => by
    by_cases c : b = D
    · rw [c]; exact hide_at
    · rw [hide_ne c]; exact q
  have st : ∀ b o, H b = some o → (∀ ys, o ≠ .lst ys) → hide D H b = some o := fun b o q nl => by
    by_cases c : b = D
    · rw [c, h] at q
      exact absurd (Option.some.inj q).symm (nl _)
    · rw [hide_ne c]; exact q
  refine ⟨_, e, hk, I.ok, I.os, I.bare, ⟨I.base.keep, I.base.slot, fun b o q n hx => le b (I.base.free b o q n hx), I.base.there, fun b ys q => st b _ (I.base.tups b ys q) (fun _ z => nomatch z),
    fun b o u q => st b _ (I.base.frzs b o u q) (fun _ z => nomatch z), fun b ps q => ?_⟩, I.loc, I.cell, le _ I.free, fun x c q => le _ (I.freeC x c q), fun p hp => ?_, fun a o q => ?_, I.len⟩
  · obtain ⟨m, q⟩ := I.base.tbls b ps q
    exact ⟨m, st b _ q (fun _ z => nomatch z)⟩
  · have cs : p = (D, { cls := .type "list", data := .seq its.toArray n }) ∨ p ∈ X.pn ++ pins := by
      rcases List.mem_append.mp hp with q | q
      · exact .inr (List.mem_append_left _ q)
      · rcases List.mem_cons.mp q with q | q
        · exact .inl q
        · exact .inr (List.mem_append_right _ q)
    rcases cs with rfl | q
    · refine ⟨e, hide_at, fun z => ?_, fun hb => ?_, fun v z => nomatch z⟩
      · have z : D = X.env.locals := z
        have q := I.free
        rw [← z, h] at q
        cases q
      · obtain ⟨_, o, ho, _⟩ := I.ok.funs.mem hb
        have q := I.base.free D o ho (I.ok.frf D hb) fun z => I.ok.exfs D z hb
        rw [h] at q
        cases q
    · obtain ⟨q1, q2, q3⟩ := I.pin p q
      exact ⟨q1, le _ q2, q3⟩
  · by_cases c : a = D
    · rw [c, hide_at] at q
      cases q
    · rw [hide_ne c] at q
      exact (I.hok a o q).stay (fun _ _ _ q => q) (fun b q => st b _ q (fun _ z => nomatch z)) fun b ys q => st b _ q (fun _ z => nomatch z)
theorem Inv.shows {ob : Obj} (I : Inv X pins σ H s) (h : H D = some (.lst xs)) (e : s.heap.get? D = some ob) (hk : ObjOk X.prog X.w H s.heap D (.lst xs)) (I' : Inv X ((D, ob) :: pins) σ H' s') : H' D = none ∧ Inv X pins σ (upd H' D (.lst xs)) s' := by
  have me : (D, ob) ∈ X.pn ++ ((D, ob) :: pins) := List.mem_append_right _ List.mem_cons_self
  obtain ⟨p1, p2, _⟩ := I'.pin _ me
  have ge : ∀ b o, H' b = some o → upd H' D (.lst xs) b = some o := fun b o q => by
    rw [upd_ne (ne_of_none q p2)]
    exact q
  have le : ∀ b, H b = none → H' b = none → upd H' D (.lst xs) b = none := fun b q1 q2 => by
    rw [upd_ne fun z => by rw [z, h] at q1; cases q1]
    exact q2
  refine ⟨p2, I.ok, I'.os, I'.bare, ⟨I'.base.keep, I'.base.slot, fun b o q n hx => le b (I.base.free b o q n hx) (I'.base.free b o q n hx), I'.base.there, fun b ys q => ge b _ (I'.base.tups b ys q),
    fun b o u q => ge b _ (I'.base.frzs b o u q), fun b ps q => ?_⟩, I'.loc, I'.cell, le _ I.free I'.free, fun x c q => le _ (I.freeC x c q) (I'.freeC x c q), fun p hp => ?_, fun a o q => ?_, I.len⟩
  · obtain ⟨m, q⟩ := I'.base.tbls b ps q
    exact ⟨m, ge b _ q⟩
  · have q : p ∈ X.pn ++ ((D, ob) :: pins) := by
      rcases List.mem_append.mp hp with q | q
      · exact List.mem_append_left _ q
      · exact List.mem_append_right _ (List.mem_cons_of_mem _ q)
    obtain ⟨q1, q2, q3⟩ := I'.pin p q
    exact ⟨q1, le _ (I.pin p hp).2.1 q2, q3⟩
  · by_cases c : a = D
    · rw [c, upd_same] at q
      cases q
      rw [c]
      obtain ⟨z, its, n, r, e2⟩ := hk
      refine ⟨z, its, n, r, ?_⟩
      rw [p1, ← e, e2]
    · rw [upd_ne c] at q
      exact (I'.hok a o q).stay (fun _ _ _ q => q) (fun b q => ge b _ q) fun b ys q => ge b _ q
def tHide (t : TE) : TE := fun σ H Q => ∃ D xs, H D = some (.lst xs) ∧ t σ (hide D H) fun v H' => H' D = none → Q v (upd H' D (.lst xs))
/-- an expression that runs beside a list -/
theorem pe_hide {e : Expr} {t : TE} (h : PE X e t) : PE X e (tHide t) := by
  refine ⟨fun pins s σ H Q I hw => ?_⟩
  obtain ⟨D, xs, hD, hw⟩ := hw
  obtain ⟨ob, e1, hk, I2⟩ := Inv.hides I hD
  refine thn (h.run ((D, ob) :: pins) s σ (hide D H) _ I2 hw) fun u s1 ⟨x, H1, I3, rx, q⟩ => ?_
  obtain ⟨n, I4⟩ := Inv.shows I hD e1 hk I3
  exact ⟨x, _, I4, rx, q n⟩
end
end Cw
end

section
set_option Elab.async false
set_option maxRecDepth 100000
set_option maxHeartbeats 4000000
/- The walk: the desk, the calls. -/
namespace Cw
open PySem PySem.Spec PyProof.Rows L2 Ch
open PySem.W (Codec)
open Sn80 (Game stands check near whites blacks mate fair aims tableOf longestOf)

def dF (v : V) : List (Str × V) := [("game", v)]
theorem dF_game (v : V) : (dF v).lookup ("game" : Str) = some v := lk_here
theorem dF_put (v x : V) : putF "game" v (dF x) = dF v := put_here
theorem dF_new (v : V) : putF "game" v [] = dF v := rfl
def DeskAt (CD CG CB d : Addr) : Sn80.St → Hp → Prop
  | none, H => ∃ dx, H d = some (.ins CD dx (dF .non))
  | some (g, t), H => t = tableOf g ∧ Fits g ∧ ∃ dx G r, H d = some (.ins CD dx (dF (.ref G.ga))) ∧ GDone CG CB G g r H
theorem DeskAt.same {CD CG CB d : Addr} {s : Sn80.St} {H H' : Hp} (h : DeskAt CD CG CB d s H) (e : Same H H') : DeskAt CD CG CB d s H' := by
  match s, h with
  | none, ⟨dx, h⟩ => exact ⟨dx, e _ _ h⟩
  | some (g, t), ⟨h1, h2, dx, G, r, h3, h4⟩ => exact ⟨h1, h2, dx, G, r, e _ _ h3, h4.same e⟩
theorem DeskAt.ins {CD CG CB d : Addr} {s : Sn80.St} {H : Hp} (h : DeskAt CD CG CB d s H) : ∃ dx v, H d = some (.ins CD dx (dF v)) := by
  match s, h with
  | none, ⟨dx, h⟩ => exact ⟨dx, _, h⟩
  | some (g, t), ⟨h1, h2, dx, G, r, h3, h4⟩ => exact ⟨dx, _, h3⟩
theorem GDone.desk {CD CG CB d dx : Addr} {G : GA} {g : Game} {r : RS} {H H' : Hp} {v : V} (h : GDone CG CB G g r H) (e : H d = some (.ins CD dx (dF v))) (k : But d H H') : GDone CG CB G g r H' := by
  have nd : ∀ b o, H b = some o → (∀ C x y, o ≠ .ins C x (dF y)) → b ≠ d := fun b o q n z => by
    rw [z, e] at q
    exact n _ _ _ (Option.some.inj q).symm
  have hG := h.at_
  obtain ⟨_, _, _, b1, _, b3, _⟩ := hG.board.ex
  refine ⟨⟨k _ _ hG.top (nd _ _ hG.top fun _ _ _ z => ?_), k _ _ hG.pieces (nd _ _ hG.pieces fun _ _ _ z => nomatch z), hG.board.but' k (nd _ _ b1 fun _ _ _ z => ?_) (nd _ _ b3 fun _ _ _ z => nomatch z) (fun xs z => by rw [e] at z; cases z), hG.apart⟩,
    k _ _ h.c (nd _ _ h.c fun _ _ _ z => nomatch z), k _ _ h.w (nd _ _ h.w fun _ _ _ z => nomatch z), k _ _ h.l (nd _ _ h.l fun _ _ _ z => nomatch z), h.done⟩
  · exact absurd (congrArg List.length (HO.ins.inj z).2.2) (by show ¬ (6 = 1); decide)
  · exact absurd (congrArg List.length (HO.ins.inj z).2.2) (by show ¬ (4 = 1); decide)
/-- what the top has of the desk -/
structure TxD (K : PySem.W.Frag) (mg : Str → Option Value) (CD aW : Addr) : Prop where
  cl : Cls K CD
  n : NoAttr K CD "game"
  gR : ∃ t, mg "NOT_RIGHT" = some (.int (-2) t)
  g3 : ∃ t, mg "LEAST_SIDE" = some (.int 3 t)
  g8 : ∃ t, mg "MOST_SIDE" = some (.int 8 t)
  gB : ∃ t, mg "BUILD" = some (.int 0 t)
  gW : mg "WHOLES" = some (.ref aW)
  sW : ∀ H, SqT K H aW [.int 3, .int 4, .int 4, .int 4]
  mt : mg "tuple" = none
  ml : mg "len" = none

def spDesk (CD : Addr) : Sp := fun vs H Q _ => ∃ p dx, vs = [.ref p] ∧ H p = some (.ins CD dx []) ∧ ∀ H', But p H H' → H' p = some (.ins CD dx (dF .non)) → Q .non H'
def spWithin : Sp := fun vs H Q _ => ∃ n lo hi : Int, vs = [.int n, .int lo, .int hi] ∧ Q (.bl (decide (lo ≤ n) && decide (n ≤ hi))) H
/-- a call's answer, the state behind it -/
def Turn (CD CG CB d : Addr) (s : Sn80.St) (c : List (List Int)) (H : Hp) (Q : VK) : Prop := ∀ H' l, But d H H' → H' l = some (.lst ((Sn80Neutral.step s c).2.map V.int)) → DeskAt CD CG CB d (Sn80Neutral.step s c).1 H' → Q (.ref l) H'
def spBuild (CD CG CB : Addr) : Sp := fun vs H Q _ => ∃ (d : Addr) (s : Sn80.St) (x y z : Int), vs = [.ref d, .int x, .int y, .int z] ∧ DeskAt CD CG CB d s H ∧ Sn80Neutral.asked1 [[0, x, y, z]] = true ∧ Turn CD CG CB d s [[0, x, y, z]] H Q
def spAnswered (CD CG CB : Addr) : Sp := fun vs H Q _ => ∃ (d q : Addr) (s : Sn80.St) (p : Int) (xs : List Int), vs = [.ref d, .int p, .ref q] ∧ DeskAt CD CG CB d s H ∧ H q = some (.lst (xs.map V.int)) ∧ ((p = 0 ∧ xs.length = 3) ∨ ((p = 1 ∨ p = 2 ∨ p = 3) ∧ xs.length = 4)) ∧
  (p ≠ 0 → s ≠ none) ∧ Sn80Neutral.asked1 [p :: xs] = true ∧ Turn CD CG CB d s [p :: xs] H Q
def spAns (K : PySem.W.Frag) : Sp := fun vs H Q _ => ∃ (a : Addr) (ns : List Int), vs = [.ref a] ∧ SqL K H a (ns.map V.int) ∧ PySn80.answers_asked ns = true ∧ ∀ H' p, H' p = some (.lst ((PySn80.answers ns).map V.int)) → Q (.ref p) H'

section
variable {P : Program} {w : World} {K : PySem.W.Frag} {mg : Str → Option Value} {base : Heap} {CD CG CB aS aA aL aW : Addr}
abbrev sDesk : Stmt := inClass (topS 46) 0
theorem scDesk : FnScope ["self"] ["self"] (defScope sDesk) := ⟨rfl, rfl, rfl, by decide +kernel, rfl, by decide +kernel, by decide +kernel⟩
theorem ok_desk {f : Addr} {fd : FuncData} (TD : TxD K mg CD aW) (F : Fun K "__init__" "Desk.__init__" sDesk f fd) : FnOk P w K mg base CX0 1 f fd ["self"] (spDesk CD) := by
  refine F.ok scDesk (fun vs H Q E h => ?_) (fun cdv A outer s0 H vs Q E hr h => ?_)
  · obtain ⟨p, dx, rfl, _⟩ := h
    rfl
  refine ⟨_, pss_one (ps_fld (pv 0) pe_non rfl), ?_⟩
  obtain ⟨p, dx, rfl, h1, k⟩ := h
  refine ⟨_, rfl, p, CD, dx, _, rfl, h1, TD.cl, TD.n, (by show 0 < 1000; decide), ?_⟩
  exact k _ (fun b v e n => by rw [upd_ne n]; exact e) upd_same
abbrev sWithin : Stmt := topS 47
abbrev nWithin : List Str := ["number", "least", "most"]
theorem scWithin : FnScope nWithin nWithin (defScope sWithin) := ⟨rfl, rfl, rfl, by decide +kernel, rfl, by decide +kernel, by decide +kernel⟩
theorem ok_within {f : Addr} {fd : FuncData} (F : Fun K "within" "within" sWithin f fd) : FnOk P w K mg base CX0 1 f fd nWithin spWithin := by
  refine F.ok scWithin (fun vs H Q E h => ?_) (fun cdv A outer s0 H vs Q E hr h => ?_)
  · obtain ⟨n, lo, hi, rfl, _⟩ := h
    rfl
  refine ⟨_, pss_one (ps_ret (pe_and (pe_cmpR op_le (pv 1) (pv 0) (nomark _)) (pe_one (pe_cmpR op_le (pv 0) (pv 2) (nomark _))))), ?_⟩
  obtain ⟨n, lo, hi, rfl, k⟩ := h
  refine ⟨_, rfl, _, rfl, _, _, rfl, rfl, _, rfl, ?_⟩
  refine ite2 (fun c => ?_) (fun c => ?_)
  · refine ⟨_, rfl, _, rfl, _, _, rfl, rfl, ?_⟩
    rw [c, Bool.true_and] at k
    exact k
  · have e : decide (lo ≤ n) = false := by
      cases q : decide (lo ≤ n) with
      | true => exact absurd q c
      | false => rfl
    rw [e, Bool.false_and] at k
    exact k
abbrev sBuild : Stmt := topS 48
abbrev nBuild : List Str := ["desk", "s", "a", "b"]
theorem scBuild : FnScope nBuild nBuild (defScope sBuild) := ⟨rfl, rfl, rfl, by decide +kernel, rfl, by decide +kernel, by decide +kernel⟩
theorem ok_build {f f1 f2 f3 : Addr} {fd fd1 fd2 fd3 : FuncData} (TB : TxB K mg CB aS aA aL) (T : TxG K mg CG) (TD : TxD K mg CD aW) (G1 : FnOk P w K mg base CX0 1 f1 fd1 nWithin spWithin) (k1 : PySem.W.keepIn K (.ref f1) = true) (g1 : mg "within" = some (.ref f1)) (b1 : Binds K fd1 nWithin [])
    (G2 : FnOk P w K mg base CX0 8 f2 fd2 ["s", "a", "b"] (spGameOf CG CB)) (k2 : PySem.W.keepIn K (.ref f2) = true) (g2 : mg "game_of" = some (.ref f2)) (b2 : Binds K fd2 ["s", "a", "b"] [])
    (G3 : FnOk P w K mg base CX0 1 f3 fd3 ["game"] (spMost CG CB)) (k3 : PySem.W.keepIn K (.ref f3) = true) (g3 : mg "most_moves" = some (.ref f3)) (b3 : Binds K fd3 ["game"] [])
    (F : Fun K "build" "build" sBuild f fd) : FnOk P w K mg base CX0 9 f fd nBuild (spBuild CD CG CB) := by
  obtain ⟨tR, gR⟩ := TD.gR
  obtain ⟨tl, gl⟩ := TD.g3
  obtain ⟨th, gh⟩ := TD.g8
  obtain ⟨tq, gq⟩ := TB.g1
  obtain ⟨tk, gk⟩ := TB.g4
  obtain ⟨tn, gn⟩ := T.g0
  refine F.ok scBuild (fun vs H Q E h => ?_) (fun cdv A outer s0 H vs Q E hr h => ?_)
  · obtain ⟨d, s, x, y, z, rfl, _⟩ := h
    rfl
  have hr1 : Room 1 _ := hr.mono (by decide)
  refine ⟨_, pss_cons (ps_if (PW.pt (pw_or (pt_not (pt_val (pe_call G1 hr1 rfl g1 k1 b1 .nil pass0 (pa_cons (pv 1) (pa_cons (pe_glob (v := .int 3) rfl gl ⟨_, rfl⟩) (pa_cons (pe_glob (v := .int 8) rfl gh ⟨_, rfl⟩) pa_nil))))))
      (pw_or (pt_not (pt_val (pe_call G1 hr1 rfl g1 k1 b1 .nil pass0 (pa_cons (pv 2) (pa_cons (pe_glob (v := .int 1) rfl gq ⟨_, rfl⟩) (pa_cons (pe_glob (v := .int 4) rfl gk ⟨_, rfl⟩) pa_nil))))))
      (pw_or1 (pt_not (pt_val (pe_call G1 hr1 rfl g1 k1 b1 .nil pass0 (pa_cons (pv 3) (pa_cons (pe_glob (v := .int 0) rfl gn ⟨_, rfl⟩) (pa_cons (pe_glob (v := .int 4) rfl gk ⟨_, rfl⟩) pa_nil))))))))))
      (pss_one (ps_ret (pe_lst (pa_cons (pe_glob (v := .int (-2)) rfl gR ⟨_, rfl⟩) pa_nil)))) pss_nil)
    (pss_cons (ps_fld (pv 0) (pe_call G2 hr rfl g2 k2 b2 .nil pass0 (pa_cons (pv 1) (pa_cons (pv 2) (pa_cons (pv 3) pa_nil)))) rfl)
    (pss_one (ps_ret (pe_lst (pa_cons (pe_call G3 hr1 rfl g3 k3 b3 .nil pass0 (pa_cons (pe_fld (pv 0) rfl) pa_nil)) pa_nil))))), ?_⟩
  obtain ⟨d, s, x, y, z, rfl, hD, ha, k⟩ := h
  unfold Turn at k
  rw [step_build] at k
  have bad : (Sn80.between x 3 8 && (Sn80.between y 1 4 && Sn80.between z 0 4)) = false → tRet (tLst (tCons (tC (.int (-2))) tNil)) { nx := fun x H' => Q V.non H', rt := Q } (L2.start nBuild [.ref d, .int x, .int y, .int z]) H := fun e => by
    have e2 : Sn80.game x y z = none := by
      unfold Sn80.game
      rw [e]
      rfl
    rw [e2] at k
    refine ⟨line_le (n := 1) (by decide), fun l hl => ?_⟩
    exact k _ l (fun b o q _ => Same.upd hl b o q) upd_same (hD.same (Same.upd hl))
  have bet : ∀ (n : Int) (a b : Nat), Sn80.between n a b = (decide ((a : Int) ≤ n) && decide (n ≤ (b : Int))) := fun _ _ _ => rfl
  have nb : ∀ {b : Bool}, (!b) = true → b = false := fun {b} q => by cases b with | true => cases q | false => rfl
  have nb2 : ∀ {b : Bool}, ¬ (!b) = true → b = true := fun {b} q => by cases b with | true => rfl | false => exact absurd rfl q
  refine ⟨_, rfl, _, _, _, rfl, _, rfl, ite2 (fun c1 => ?_) (fun c1 => ?_)⟩
  · refine bad ?_
    have c1 : Sn80.between x 3 8 = false := nb c1
    rw [c1]
    rfl
  have c1 : Sn80.between x 3 8 = true := nb2 c1
  refine ⟨_, rfl, _, _, _, rfl, _, rfl, ite2 (fun c2 => ?_) (fun c2 => ?_)⟩
  · refine bad ?_
    have c2 : Sn80.between y 1 4 = false := nb c2
    rw [c1, c2]
    rfl
  have c2 : Sn80.between y 1 4 = true := nb2 c2
  refine ⟨_, rfl, _, _, _, rfl, _, rfl, ite2 (fun c3 => ?_) (fun c3 => ?_)⟩
  · refine bad ?_
    have c3 : Sn80.between z 0 4 = false := nb c3
    rw [c1, c2, c3]
    rfl
  have c3 : Sn80.between z 0 4 = true := nb2 c3
  have e2 : Sn80.game x y z = some ⟨x.toNat, y.toNat, z.toNat⟩ := by
    unfold Sn80.game
    rw [c1, c2, c3]
    rfl
  have hF := built_fits e2 ha
  rw [e2] at k
  rw [bet, Bool.and_eq_true, decide_eq_true_eq, decide_eq_true_eq] at c1 c2 c3
  have vs : [V.int x, V.int y, V.int z] = [V.int ((x.toNat : Nat) : Int), V.int ((y.toNat : Nat) : Int), V.int ((z.toNat : Nat) : Int)] := by
    rw [Int.toNat_of_nonneg (by omega), Int.toNat_of_nonneg (by omega), Int.toNat_of_nonneg (by omega)]
  refine ⟨_, rfl, _, rfl, _, rfl, ⟨x.toNat, y.toNat, z.toNat⟩, vs, hF, fun H1 G r s1 g1 => ?_⟩
  obtain ⟨dx, v, hd⟩ := hD.ins
  refine ⟨_, rfl, d, CD, dx, _, rfl, s1 _ _ hd, TD.cl, TD.n, (by show 1 < 1000; decide), ?_⟩
  rw [dF_put]
  have kb : But d H1 (upd H1 d (.ins CD dx (dF (.ref G.ga)))) := fun b o q n => by rw [upd_ne n]; exact q
  have g2 := g1.desk (s1 _ _ hd) kb
  have kd : (upd H1 d (.ins CD dx (dF (.ref G.ga)))) d = some (.ins CD dx (dF (.ref G.ga))) := upd_same
  have kb : But d H (upd H1 d (.ins CD dx (dF (.ref G.ga)))) := (But.of_same s1).trans kb
  generalize upd H1 d (.ins CD dx (dF (.ref G.ga))) = H2 at kb g2 kd
  refine ⟨_, rfl, d, CD, dx, _, _, rfl, kd, TD.cl, TD.n, dF_game _, G, _, r, rfl, g2, hF, fun H3 s3 => ?_⟩
  refine ⟨line_le (n := 1) (by decide), fun l hl => ?_⟩
  have s4 := s3.trans (Same.upd (o := .lst [V.int ((longestOf (tableOf ⟨x.toNat, y.toNat, z.toNat⟩) : Nat) : Int)]) hl)
  exact k _ l (kb.trans (But.of_same s4)) upd_same ⟨rfl, hF, dx, G, r, s4 _ _ kd, g2.same s4⟩

abbrev sAnswered : Stmt := topS 49
abbrev nAnswered : List Str := ["desk", "kind", "wholes", "position"]
theorem scAnswered : FnScope nAnswered ["desk", "kind", "wholes"] (defScope sAnswered) := ⟨rfl, rfl, rfl, by decide +kernel, rfl, by decide +kernel, by decide +kernel⟩
theorem ok_answered {f f1 f2 f3 f4 : Addr} {fd fd1 fd2 fd3 fd4 : FuncData} (TD : TxD K mg CD aW) (G1 : FnOk P w K mg base CX0 9 f1 fd1 nBuild (spBuild CD CG CB)) (k1 : PySem.W.keepIn K (.ref f1) = true) (g1 : mg "build" = some (.ref f1)) (b1 : Binds K fd1 nBuild [])
    (G2 : FnOk P w K mg base CX0 2 f2 fd2 nAsk (spAsk CG CB fun g x y z w => [winsA g x y z w])) (k2 : PySem.W.keepIn K (.ref f2) = true) (g2 : mg "wins_told" = some (.ref f2)) (b2 : Binds K fd2 nAsk [])
    (G3 : FnOk P w K mg base CX0 1 f3 fd3 nAsk (spAsk CG CB fun g x y z w => [losesA g x y z w])) (k3 : PySem.W.keepIn K (.ref f3) = true) (g3 : mg "loses_told" = some (.ref f3)) (b3 : Binds K fd3 nAsk [])
    (G4 : FnOk P w K mg base CX0 4 f4 fd4 nAsk (spAsk CG CB bestA)) (k4' : PySem.W.keepIn K (.ref f4) = true) (g4 : mg "best_told" = some (.ref f4)) (b4 : Binds K fd4 nAsk [])
    (F : Fun K "answered" "answered" sAnswered f fd) : FnOk P w K mg base CX0 10 f fd ["desk", "kind", "wholes"] (spAnswered CD CG CB) := by
  obtain ⟨tB, gB⟩ := TD.gB
  refine F.ok scAnswered (fun vs H Q E h => ?_) (fun cdv A outer s0 H vs Q E hr h => ?_)
  · obtain ⟨d, q, s, p, xs, rfl, _⟩ := h
    rfl
  have hr1 : Room 1 _ := hr.mono (by decide)
  have hr2 : Room 2 _ := hr.mono (by decide)
  have hr4 : Room 4 _ := hr.mono (by decide)
  refine ⟨_, pss_cons (ps_if (pt_cmpR op_eq (pv 1) (pe_glob (v := .int 0) rfl gB ⟨_, rfl⟩) (nomark _))
      (pss_one (ps_ret (pe_call G1 hr rfl g1 k1 b1 .nil pass0 (pa_cons (pv 0) (pa_cons (pe_ix ix_list (pv 2) pe_int (fun _ _ => rfl)) (pa_cons (pe_ix ix_list (pv 2) pe_int (fun _ _ => rfl)) (pa_cons (pe_ix ix_list (pv 2) pe_int (fun _ _ => rfl)) pa_nil))))))) pss_nil)
    (pss_cons (ps_set (i := 3) scAnswered.nd rfl (Or.inl rfl) (pe_tupleOf rfl TD.mt (pv 2)))
    (pss_cons (ps_if (pt_cmpR op_eq (pv 1) pe_int (nomark _)) (pss_one (ps_ret (pe_call G2 hr2 rfl g2 k2 b2 .nil pass0 (pa_cons (pe_fld (pv 0) rfl) (pa_cons (pv 3) pa_nil))))) pss_nil)
    (pss_cons (ps_if (pt_cmpR op_eq (pv 1) pe_int (nomark _)) (pss_one (ps_ret (pe_call G3 hr1 rfl g3 k3 b3 .nil pass0 (pa_cons (pe_fld (pv 0) rfl) (pa_cons (pv 3) pa_nil))))) pss_nil)
    (pss_one (ps_ret (pe_call G4 hr4 rfl g4 k4' b4 .nil pass0 (pa_cons (pe_fld (pv 0) rfl) (pa_cons (pv 3) pa_nil)))))))), ?_⟩
  obtain ⟨d, q, s, p, xs, rfl, hD, hq, hp, hs, ha, k⟩ := h
  refine ⟨_, rfl, rfl, _, rfl, ite2 (fun c => ?_) (fun c => ?_)⟩
  · have c : p = 0 := V.int.inj (of_decide_eq_true c)
    subst c
    have hl : xs.length = 3 := by omega
    match xs, hl, hq, ha, k with
    | [x, y, z], _, hq, ha, k =>
      refine ⟨_, rfl, _, rfl, q, _, _, _, rfl, rfl, SqL.of hq, rfl, _, rfl, q, _, _, _, rfl, rfl, SqL.of hq, rfl, _, rfl, q, _, _, _, rfl, rfl, SqL.of hq, rfl, ?_⟩
      exact ⟨d, s, x, y, z, rfl, hD, ha, k⟩
  · have c : p ≠ 0 := fun z => c (decide_eq_true (by rw [z]))
    have hl : xs.length = 4 := by omega
    have hp' : p = 1 ∨ p = 2 ∨ p = 3 := by omega
    match s, xs, hl, hs c, hD, hq, ha, k with
    | some (g, t), [x, y, z, u], _, _, ⟨ht, hF, dx, G, r, hd, hg⟩, hq, ha, k =>
      subst ht
      refine ⟨_, rfl, .inl ⟨q, _, rfl, SqL.of hq, fun a ha => ?_⟩⟩
      have s1 : Same H (upd H a (.tup ([x, y, z, u].map V.int))) := Same.upd ha
      have d1 : (upd H a (.tup ([x, y, z, u].map V.int))) a = some (.tup ([x, y, z, u].map V.int)) := upd_same
      generalize upd H a (.tup ([x, y, z, u].map V.int)) = H1 at s1 d1
      have hg := hg.same s1
      have hd := s1 _ _ hd
      have fin : ∀ xs, Sn80Neutral.step (some (g, tableOf g)) [[p, x, y, z, u]] = (some (g, tableOf g), xs) → ∀ H' l, Same H1 H' → H1 l = none → H' l = some (.lst (xs.map V.int)) → Q (.ref l) H' := fun xs e H' l s2 _ h2 => by
        unfold Turn at k
        rw [e] at k
        exact k H' l (But.of_same (s1.trans s2)) h2 ⟨rfl, hF, dx, G, r, s2 _ _ hd, hg.same s2⟩
      refine ⟨_, rfl, rfl, _, rfl, ite2 (fun c1 => ?_) (fun c1 => ?_)⟩
      · have c1 : p = 1 := V.int.inj (of_decide_eq_true c1)
        subst c1
        exact ⟨_, rfl, d, CD, dx, _, _, rfl, hd, TD.cl, TD.n, dF_game _, _, rfl, G, g, r, a, x, y, z, u, rfl, hg, hF, d1, fin _ (step_wins g x y z u)⟩
      · have c1 : p ≠ 1 := fun z => c1 (decide_eq_true (by rw [z]))
        refine ⟨_, rfl, rfl, _, rfl, ite2 (fun c2 => ?_) (fun c2 => ?_)⟩
        · have c2 : p = 2 := V.int.inj (of_decide_eq_true c2)
          subst c2
          exact ⟨_, rfl, d, CD, dx, _, _, rfl, hd, TD.cl, TD.n, dF_game _, _, rfl, G, g, r, a, x, y, z, u, rfl, hg, hF, d1, fin _ (step_loses g x y z u)⟩
        · have c2 : p ≠ 2 := fun z => c2 (decide_eq_true (by rw [z]))
          have c3 : p = 3 := by omega
          subst c3
          exact ⟨_, rfl, d, CD, dx, _, _, rfl, hd, TD.cl, TD.n, dF_game _, _, rfl, G, g, r, a, x, y, z, u, rfl, hg, hF, d1, fin _ (step_best g x y z u)⟩
    | none, _, _, hn, _, _, _, _ => exact absurd rfl hn

theorem cut_mid (ns : List Int) {i j : Nat} (hij : i ≤ j) (hj : j ≤ ns.length) : cutV (ns.map V.int) (some (i : Int)) (some (j : Int)) = ((ns.drop i).take (j - i)).map V.int := by
  have e1 : min i ns.length = i := by omega
  have e2 : min j ns.length = j := by omega
  unfold cutV
  rw [HT.sIx_nat, HT.sIx_nat, List.length_map, e1, e2, List.map_take, List.map_drop]
theorem Same.sql {K : PySem.W.Frag} {H H' : Hp} {a : Addr} {xs : List V} (e : Same H H') (h : SqL K H a xs) : SqL K H' a xs := by
  rcases h with (h | ⟨o, h⟩) | h
  · exact .inl (.inl (e _ _ h))
  · exact .inl (.inr ⟨o, e _ _ h⟩)
  · exact .inr h
theorem told_short {l : List Int} {i : Nat} {out : List Int} {s : Sn80.St} (T : Told l i out s) (h : PySn80.answers_asked l = true) : out.length ≤ 10000000 := by
  have hs : (PySn80.answers l).length ≤ 10000000 := by
    unfold PySn80.answers_asked at h
    split at h
    · cases h
    · simp only [Bool.and_eq_true] at h
      exact of_decide_eq_true h.2
  obtain ⟨f, raw, h1, h2, _⟩ := T.ex
  rw [h2, List.length_append] at hs
  omega
abbrev sAns : Stmt := topS 50
abbrev nAns : List Str := ["calls", "desk", "found", "at", "end", "numbers"]
theorem scAns : FnScope nAns ["calls"] (defScope sAns) := ⟨rfl, rfl, rfl, by decide +kernel, rfl, by decide +kernel, by decide +kernel⟩
theorem ok_ans {f f1 f2 : Addr} {fd fd1 fd2 : FuncData} (TD : TxD K mg CD aW) (M : Mk K CD f1) (gD : mg "Desk" = some (.ref CD)) (G1 : FnOk P w K mg base CX0 1 f1 fd1 ["self"] (spDesk CD)) (b1 : Binds K fd1 ["self"] [])
    (G2 : FnOk P w K mg base CX0 10 f2 fd2 ["desk", "kind", "wholes"] (spAnswered CD CG CB)) (k2 : PySem.W.keepIn K (.ref f2) = true) (g2 : mg "answered" = some (.ref f2)) (b2 : Binds K fd2 ["desk", "kind", "wholes"] [])
    (F : Fun K "answers" "answers" sAns f fd) : FnOk P w K mg base CX0 11 f fd ["calls"] (spAns K) := by
  refine F.ok scAns (fun vs H Q E h => ?_) (fun cdv A outer s0 H vs Q E hr h => ?_)
  · obtain ⟨a, ns, rfl, _⟩ := h
    rfl
  have hr2 : Room 2 _ := hr.mono (by decide)
  refine ⟨_, pss_cons (ps_set (i := 1) scAns.nd rfl (Or.inl rfl) (pe_make0 M G1 hr2 rfl gD b1 .nil pass0))
    (pss_cons (ps_set (i := 2) scAns.nd rfl (Or.inl rfl) (pe_lst pa_nil))
    (pss_cons (ps_set (i := 3) scAns.nd rfl (Or.inl rfl) pe_int)
    (pss_cons (ps_while PassesOwn.never (pt_cmpR op_lt (pv 3) (pe_callB call_len_seq (by rfl) TD.ml boot_len (pa_cons (pv 0) pa_nil)) (nomark _))
      (pss_cons (ps_set (i := 4) scAns.nd rfl (Or.inl rfl) (pe_op op_add (pe_op op_add (pv 3) pe_int) (pe_ix ix_tup (pe_glob (v := .ref aW) rfl TD.gW rfl) (pe_ix ix_list (pv 0) (pv 3) (fun _ _ => rfl)) (fun _ _ => rfl))))
      (pss_cons (ps_set (i := 5) scAns.nd rfl (Or.inl rfl) (pe_hide (pe_call G2 hr rfl g2 k2 b2 .nil pass0 (pa_cons (pv 1) (pa_cons (pe_ix ix_list (pv 0) (pv 3) (fun _ _ => rfl)) (pa_cons (pe_slice sl_list (pv 0) (po_some (pe_op op_add (pv 3) pe_int)) (po_some (pv 4))) pa_nil))))))
      (pss_cons (ps_expr (pe_bm PySem.F.plainAttrs_list PySem.F.slot_list_append PySem.F.type_list_append mt_append (pv 2) (pa_cons (pe_callB call_len_seq (by rfl) TD.ml boot_len (pa_cons (pv 5) pa_nil)) pa_nil)))
      (pss_cons (ps_expr (pe_bm PySem.F.plainAttrs_list PySem.F.slot_list_extend PySem.F.type_list_extend mt_extend (pv 2) (pa_cons (pv 5) pa_nil)))
      (pss_one (ps_set (i := 3) scAns.nd rfl (Or.inl rfl) (pv 4))))))))
    (pss_one (ps_ret (pv 2)))))), ?_⟩
  obtain ⟨a, ns, rfl, hA, ask, k⟩ := h
  intro d dx nd ndx ne
  refine ⟨d, dx, rfl, upd_same, fun H1 c1 e1 => ⟨rfl, ?_⟩⟩
  have s1 : Same H H1 := Same.made nd ndx c1
  refine ⟨line_le (n := 0) (by decide), fun D hD => ?_⟩
  refine ⟨fun m σ H' => ∃ (i : Nat) (h : Hp) (out : List Int) (s : Sn80.St) (e n : Option V), m = ns.length - i ∧ i ≤ ns.length ∧ σ = [some (.ref a), some (.ref d), some (.ref D), some (.int i), e, n] ∧ H' = upd h D (.lst (out.map V.int)) ∧ h D = none ∧ Same H h ∧ DeskAt CD CG CB d s h ∧ Told ns i out s,
    ⟨ns.length, 0, H1, [], none, none, none, rfl, Nat.zero_le _, rfl, rfl, hD, s1, ⟨dx, e1⟩, told_start ask⟩, ?_⟩
  rintro m σ H' ⟨i, h, out, s, e, n, rfl, hi, rfl, rfl, hn, s2, dk, tl⟩
  have s3 : Same h (upd h D (.lst (out.map V.int))) := Same.upd hn
  refine ⟨_, rfl, _, rfl, a, _, rfl, .inl (Same.sql (s2.trans s3) hA), _, _, rfl, rfl, _, rfl, ?_⟩
  rw [List.length_map]
  refine ite2 (fun c => ?_) (fun c => ?_)
  · have c : i < ns.length := by
      have := of_decide_eq_true c
      omega
    obtain ⟨p, k1, hp, hk, hle, hlen, sn, as1, tl2⟩ := told_turn tl c
    have hget : atI (ns.map V.int) (i : Int) = some (.int p) := atI_nat (by rw [List.getElem?_map, hp]; rfl)
    have hW : atI [V.int 3, V.int 4, V.int 4, V.int 4] p = some (.int (k1 : Int)) := by
      rcases hk with ⟨rfl, rfl⟩ | ⟨rfl | rfl | rfl, rfl⟩ <;> rfl
    have hend : (i : Int) + 1 + (k1 : Int) = ((i + 1 + k1 : Nat) : Int) := by omega
    refine ⟨fun σ' H' => ∃ (j : Nat) (h : Hp) (out : List Int) (s : Sn80.St) (e n : Option V), i < j ∧ j ≤ ns.length ∧ σ' = [some (.ref a), some (.ref d), some (.ref D), some (.int j), e, n] ∧ H' = upd h D (.lst (out.map V.int)) ∧ h D = none ∧ Same H h ∧ DeskAt CD CG CB d s h ∧ Told ns j out s, ?_, ?_⟩
    · rintro σ' H' ⟨j, h', out', s', e', n', h1, h2, h3⟩
      exact ⟨ns.length - j, by omega, j, h', out', s', e', n', rfl, h2, h3⟩
    refine ⟨_, rfl, _, _, rfl, rfl, _, rfl, _, rfl, a, _, _, _, rfl, rfl, Same.sql (s2.trans s3) hA, hget, aW, _, _, _, rfl, rfl, TD.sW _, hW, _, _, rfl, rfl, ?_⟩
    show gName 4 (V.int ((i : Int) + 1 + (k1 : Int))) _ _ _
    rw [hend]
    refine ⟨D, _, upd_same, ?_⟩
    rw [hide_upd hn]
    have hcut : cutV (ns.map V.int) (some ((i : Int) + 1)) (some ((i + 1 + k1 : Nat) : Int)) = ((ns.drop (i + 1)).take k1).map V.int := by
      have := cut_mid ns (i := i + 1) (j := i + 1 + k1) (by omega) hle
      rw [Nat.add_sub_cancel_left] at this
      exact this
    refine ⟨_, rfl, _, rfl, _, rfl, a, _, _, _, rfl, rfl, Same.sql s2 hA, hget, _, rfl, _, rfl, _, _, rfl, rfl, _, rfl, _, rfl, _, rfl, a, _, rfl, Same.sql s2 hA, fun q hq => ?_⟩
    rw [hcut]
    have s4 : Same h (upd h q (.lst (((ns.drop (i + 1)).take k1).map V.int))) := Same.upd hq
    have e4 : (upd h q (.lst (((ns.drop (i + 1)).take k1).map V.int))) q = some (.lst (((ns.drop (i + 1)).take k1).map V.int)) := upd_same
    generalize upd h q (.lst (((ns.drop (i + 1)).take k1).map V.int)) = h1 at s4 e4
    refine ⟨d, q, s, p, (ns.drop (i + 1)).take k1, rfl, dk.same s4, e4, ?_, sn, as1, fun h2 l c2 e2 dk2 => fun n2 => ?_⟩
    · rcases hk with ⟨rfl, rfl⟩ | ⟨hk, rfl⟩
      · exact .inl ⟨rfl, hlen⟩
      · exact .inr ⟨hk, hlen⟩
    have sh := told_short tl2 ask
    generalize Sn80Neutral.step s [p :: (ns.drop (i + 1)).take k1] = st at e2 dk2 tl2 sh
    obtain ⟨s', res⟩ := st
    have sh : (out ++ ((res.length : Int) :: res)).length ≤ 10000000 := sh
    rw [List.length_append, List.length_cons] at sh
    have e2 : h2 l = some (.lst (res.map V.int)) := e2
    have s5 : Same H h2 := fun b o z => by
      obtain ⟨dx, v, hd⟩ := dk.ins
      refine c2 _ _ (s4 _ _ (s2 _ _ z)) fun zz => ?_
      rw [zz, nd] at z
      cases z
    have nl : l ≠ D := ne_of_none e2 n2
    have el : ∀ o, (upd h2 D o) l = some (.lst (res.map V.int)) := fun o => by rw [upd_ne nl]; exact e2
    have z24 : sizeLine = 16777216 := rfl
    refine ⟨_, rfl, .inl ⟨rfl, _, SqL.of upd_same⟩, _, rfl, l, _, rfl, .inl (SqL.of (el _)), D, _, _, rfl, rfl, upd_same, ?_, ?_⟩
    · rw [List.length_map]
      omega
    rw [upd_upd]
    refine ⟨_, rfl, .inl ⟨rfl, _, SqL.of upd_same⟩, _, rfl, D, l, _, _, rfl, rfl, upd_same, el _, ?_, ?_⟩
    · rw [List.length_append, List.length_map, List.length_map, List.length_singleton]
      omega
    rw [upd_upd]
    refine ⟨_, rfl, i + 1 + k1, h2, out ++ ((res.length : Int) :: res), s', _, _, by omega, hle, rfl, ?_, n2, s5, dk2, tl2⟩
    rw [List.length_map, List.append_assoc, List.map_append]
    rfl
  · have c : ¬ i < ns.length := fun z => c (decide_eq_true (by omega))
    refine ⟨_, rfl, ?_⟩
    refine k _ D ?_
    rw [upd_same, told_end tl (by omega)]
end
end Cw
end

section
set_option Elab.async false
set_option maxRecDepth 100000
set_option maxHeartbeats 4000000
/- The end: what the top has left. -/
namespace Cw
open PySem PySem.Spec PyProof.Rows L2 Ch
open PySem.W (Codec)
open Sn80 (Game stands check near whites blacks mate fair aims tableOf longestOf)
/-- a tuple that the top has written -/
theorem tup_top {K : PySem.W.Frag} {a : Addr} {od : Option Addr} {its : Array Value} {n : Nat} {sl : Array (Option Value)} {xs : List V} (e : K.lookup a = some ⟨.type "tuple", od, .seq its n, sl⟩) (v : Vals xs its.toList) (z : its.size ≤ sizeLine) (H : Hp) : SqT K H a xs :=
  .inr ⟨_, its, n, e, rfl, rfl, z, v⟩
/-- pairs that the top has written -/
inductive PairsK (K : PySem.W.Frag) : List Addr → List (Int × Int) → Prop
  | nil : PairsK K [] []
  | cons {a : Addr} {x y : Int} {od : Option Addr} {n : Nat} {sl : Array (Option Value)} {tx ty : Tok} {as : List Addr} {ds : List (Int × Int)} (e : K.lookup a = some ⟨.type "tuple", od, .seq #[.int x tx, .int y ty] n, sl⟩) (r : PairsK K as ds) : PairsK K (a :: as) ((x, y) :: ds)
theorem PairsK.get {K : PySem.W.Frag} {as : List Addr} {ds : List (Int × Int)} (h : PairsK K as ds) (H : Hp) : as.length = ds.length ∧ ∀ (i : Nat) (d : Int × Int), ds[i]? = some d → ∃ b, as[i]? = some b ∧ SqT K H b [.int d.1, .int d.2] := by
  induction h with
  | nil => exact ⟨rfl, fun i d e => by cases e⟩
  | @cons a x y od n sl tx ty as ds e r ih =>
    refine ⟨congrArg Nat.succ ih.1, fun i d q => ?_⟩
    cases i with
    | zero =>
      cases q
      exact ⟨_, rfl, tup_top (xs := [.int x, .int y]) e (.cons ⟨_, rfl⟩ (.cons ⟨_, rfl⟩ .nil)) (by show 2 ≤ sizeLine; decide) H⟩
    | succ i =>
      obtain ⟨b, h1, h2⟩ := ih.2 i d q
      exact ⟨b, h1, h2⟩
theorem refs_of : ∀ as : List Addr, Vals (as.map V.ref) (as.map Value.ref)
  | [] => .nil
  | _ :: r => .cons rfl (refs_of r)
theorem steps_mk {K : PySem.W.Frag} {p : Addr} {as : List Addr} {ds : List (Int × Int)} {od : Option Addr} {n : Nat} {sl : Array (Option Value)} (e : K.lookup p = some ⟨.type "tuple", od, .seq (as.map Value.ref).toArray n, sl⟩) (z : as.length ≤ 100) (h : PairsK K as ds) (H : Hp) : StepsAt K H p ds := by
  refine ⟨as, tup_top e (refs_of as) ?_ H, (h.get H).1, (h.get H).2⟩
  rw [List.size_toArray, List.length_map]
  exact line_le (by omega)
theorem all_mk {P : Program} {w : World} {K : PySem.W.Frag} {h : Heap} {mg : Str → Option Value} {fa CB CG CD aS aA aL aW : Addr} (X : K.In h) (G : h.Ns mainGlobals mg) (hfa : mg "answers" = some (.ref fa))
    {f10 f11 f12 f13 f14 f17 f18 f19 f20 f21 f22 f23 f24 f25 f26 f27 f28 f29 f30 f31 f32 f36 f37 f38 f39 f47 f48 f49 f50 fB fG fD : Addr}
    {od10 an10 od11 an11 od12 an12 od13 an13 od14 an14 od17 an17 od18 an18 od19 an19 od20 an20 od21 an21 od22 an22 od23 an23 od24 an24 od25 an25 od26 an26 od27 an27 od28 an28 od29 an29 od30 an30 od31 an31 od32 an32 od36 an36 od37 an37 od38 an38 od39 an39 od47 an47 od48 an48 od49 an49 od50 an50 odB anB odG anG odD anD : Option Addr}
    {sl10 sl11 sl12 sl13 sl14 sl17 sl18 sl19 sl20 sl21 sl22 sl23 sl24 sl25 sl26 sl27 sl28 sl29 sl30 sl31 sl32 sl36 sl37 sl38 sl39 sl47 sl48 sl49 sl50 slB slG slD : Array (Option Value)}
    {oc10 kV10 dc10 pm10 cd10 ct10 oc11 kV11 dc11 pm11 cd11 ct11 oc12 kV12 dc12 pm12 cd12 ct12 oc13 kV13 dc13 pm13 cd13 ct13 oc14 kV14 dc14 pm14 cd14 ct14 oc17 kV17 dc17 pm17 cd17 ct17 oc18 kV18 dc18 pm18 cd18 ct18 oc19 kV19 dc19 pm19 cd19 ct19 oc20 kV20 dc20 pm20 cd20 ct20 oc21 kV21 dc21 pm21 cd21 ct21 oc22 kV22 dc22 pm22 cd22 ct22 oc23 kV23 dc23 pm23 cd23 ct23 oc24 kV24 dc24 pm24 cd24 ct24 oc25 kV25 dc25 pm25 cd25 ct25 oc26 kV26 dc26 pm26 cd26 ct26 oc27 kV27 dc27 pm27 cd27 ct27 oc28 kV28 dc28 pm28 cd28 ct28 oc29 kV29 dc29 pm29 cd29 ct29 oc30 kV30 dc30 pm30 cd30 ct30 oc31 kV31 dc31 pm31 cd31 ct31 oc32 kV32 dc32 pm32 cd32 ct32 oc36 kV36 dc36 pm36 cd36 ct36 oc37 kV37 dc37 pm37 cd37 ct37 oc38 kV38 dc38 pm38 cd38 ct38 oc39 kV39 dc39 pm39 cd39 ct39 oc47 kV47 dc47 pm47 cd47 ct47 oc48 kV48 dc48 pm48 cd48 ct48 oc49 kV49 dc49 pm49 cd49 ct49 oc50 kV50 dc50 pm50 cd50 ct50 ocB kVB dcB pmB cdB ctB ocG kVG dcG pmG cdG ctG ocD kVD dcD pmD cdD ctD : Value}
    {tk_NONE tk_QUEEN tk_ROOK tk_BISHOP tk_KNIGHT tk_NO_POSITION tk_NOT_LOST tk_NOT_RIGHT tk_LEAST_SIDE tk_MOST_SIDE tk_BUILD : Tok}
    {aS0 aS1 aS2 aS3 aA0 aA1 aA2 aA3 aL0 aL1 aL2 aL3 aL4 aL5 aL6 aL7 : Addr} {oTS oS0 oS1 oS2 oS3 oTA oA0 oA1 oA2 oA3 oTL oL0 oL1 oL2 oL3 oL4 oL5 oL6 oL7 oTW : Option Addr} {nTS nS0 nS1 nS2 nS3 nTA nA0 nA1 nA2 nA3 nTL nL0 nL1 nL2 nL3 nL4 nL5 nL6 nL7 nTW : Nat} {sTS sS0 sS1 sS2 sS3 sTA sA0 sA1 sA2 sA3 sTL sL0 sL1 sL2 sL3 sL4 sL5 sL6 sL7 sTW : Array (Option Value)} {xS0 yS0 xS1 yS1 xS2 yS2 xS3 yS3 xA0 yA0 xA1 yA1 xA2 yA2 xA3 yA3 xL0 yL0 xL1 yL1 xL2 yL2 xL3 yL3 xL4 yL4 xL5 yL5 xL6 yL6 xL7 yL7 w0 w1 w2 w3 : Tok}
    (a10 : PySem.W.nsIn K mainGlobals "step_from" = some (some (.ref f10)))
    (l10 : K.lookup f10 = some ⟨oc10, od10, .func (PySem.W.fnOf "step_from" "step_from" (defArgs sStep) (defBody sStep) (defScope sStep) .none kV10 dc10 pm10 an10 cd10 ct10), sl10⟩)
    (c10 : PySem.W.codeIn K cd10 "step_from" = true)
    (k10 : PySem.W.keepIn K (.ref f10) = true)
    (a11 : PySem.W.nsIn K mainGlobals "steps_from" = some (some (.ref f11)))
    (l11 : K.lookup f11 = some ⟨oc11, od11, .func (PySem.W.fnOf "steps_from" "steps_from" (defArgs sSteps) (defBody sSteps) (defScope sSteps) .none kV11 dc11 pm11 an11 cd11 ct11), sl11⟩)
    (c11 : PySem.W.codeIn K cd11 "steps_from" = true)
    (k11 : PySem.W.keepIn K (.ref f11) = true)
    (a12 : PySem.W.nsIn K mainGlobals "line_from" = some (some (.ref f12)))
    (l12 : K.lookup f12 = some ⟨oc12, od12, .func (PySem.W.fnOf "line_from" "line_from" (defArgs sLine) (defBody sLine) (defScope sLine) .none kV12 dc12 pm12 an12 cd12 ct12), sl12⟩)
    (c12 : PySem.W.codeIn K cd12 "line_from" = true)
    (k12 : PySem.W.keepIn K (.ref f12) = true)
    (a13 : PySem.W.nsIn K mainGlobals "lines_from" = some (some (.ref f13)))
    (l13 : K.lookup f13 = some ⟨oc13, od13, .func (PySem.W.fnOf "lines_from" "lines_from" (defArgs sLines) (defBody sLines) (defScope sLines) .none kV13 dc13 pm13 an13 cd13 ct13), sl13⟩)
    (c13 : PySem.W.codeIn K cd13 "lines_from" = true)
    (k13 : PySem.W.keepIn K (.ref f13) = true)
    (a14 : PySem.W.nsIn K mainGlobals "aimed_at" = some (some (.ref f14)))
    (l14 : K.lookup f14 = some ⟨oc14, od14, .func (PySem.W.fnOf "aimed_at" "aimed_at" (defArgs sAimed) (defBody sAimed) (defScope sAimed) .none kV14 dc14 pm14 an14 cd14 ct14), sl14⟩)
    (c14 : PySem.W.codeIn K cd14 "aimed_at" = true)
    (k14 : PySem.W.keepIn K (.ref f14) = true)
    (a17 : PySem.W.nsIn K mainGlobals "is_position" = some (some (.ref f17)))
    (l17 : K.lookup f17 = some ⟨oc17, od17, .func (PySem.W.fnOf "is_position" "is_position" (defArgs sPos) (defBody sPos) (defScope sPos) .none kV17 dc17 pm17 an17 cd17 ct17), sl17⟩)
    (c17 : PySem.W.codeIn K cd17 "is_position" = true)
    (k17 : PySem.W.keepIn K (.ref f17) = true)
    (a18 : PySem.W.nsIn K mainGlobals "places_of" = some (some (.ref f18)))
    (l18 : K.lookup f18 = some ⟨oc18, od18, .func (PySem.W.fnOf "places_of" "places_of" (defArgs sPlaces) (defBody sPlaces) (defScope sPlaces) .none kV18 dc18 pm18 an18 cd18 ct18), sl18⟩)
    (c18 : PySem.W.codeIn K cd18 "places_of" = true)
    (k18 : PySem.W.keepIn K (.ref f18) = true)
    (a19 : PySem.W.nsIn K mainGlobals "is_aimed_at" = some (some (.ref f19)))
    (l19 : K.lookup f19 = some ⟨oc19, od19, .func (PySem.W.fnOf "is_aimed_at" "is_aimed_at" (defArgs sIsAimed) (defBody sIsAimed) (defScope sIsAimed) .none kV19 dc19 pm19 an19 cd19 ct19), sl19⟩)
    (c19 : PySem.W.codeIn K cd19 "is_aimed_at" = true)
    (k19 : PySem.W.keepIn K (.ref f19) = true)
    (a20 : PySem.W.nsIn K mainGlobals "find_positions" = some (some (.ref f20)))
    (l20 : K.lookup f20 = some ⟨oc20, od20, .func (PySem.W.fnOf "find_positions" "find_positions" (defArgs sAll) (defBody sAll) (defScope sAll) .none kV20 dc20 pm20 an20 cd20 ct20), sl20⟩)
    (c20 : PySem.W.codeIn K cd20 "find_positions" = true)
    (k20 : PySem.W.keepIn K (.ref f20) = true)
    (a21 : PySem.W.nsIn K mainGlobals "find_with_kings" = some (some (.ref f21)))
    (l21 : K.lookup f21 = some ⟨oc21, od21, .func (PySem.W.fnOf "find_with_kings" "find_with_kings" (defArgs sKings) (defBody sKings) (defScope sKings) .none kV21 dc21 pm21 an21 cd21 ct21), sl21⟩)
    (c21 : PySem.W.codeIn K cd21 "find_with_kings" = true)
    (k21 : PySem.W.keepIn K (.ref f21) = true)
    (a22 : PySem.W.nsIn K mainGlobals "is_safe" = some (some (.ref f22)))
    (l22 : K.lookup f22 = some ⟨oc22, od22, .func (PySem.W.fnOf "is_safe" "is_safe" (defArgs sSafe) (defBody sSafe) (defScope sSafe) .none kV22 dc22 pm22 an22 cd22 ct22), sl22⟩)
    (c22 : PySem.W.codeIn K cd22 "is_safe" = true)
    (k22 : PySem.W.keepIn K (.ref f22) = true)
    (a23 : PySem.W.nsIn K mainGlobals "without" = some (some (.ref f23)))
    (l23 : K.lookup f23 = some ⟨oc23, od23, .func (PySem.W.fnOf "without" "without" (defArgs sWithout) (defBody sWithout) (defScope sWithout) .none kV23 dc23 pm23 an23 cd23 ct23), sl23⟩)
    (c23 : PySem.W.codeIn K cd23 "without" = true)
    (k23 : PySem.W.keepIn K (.ref f23) = true)
    (a24 : PySem.W.nsIn K mainGlobals "black_moves" = some (some (.ref f24)))
    (l24 : K.lookup f24 = some ⟨oc24, od24, .func (PySem.W.fnOf "black_moves" "black_moves" (defArgs sBlack) (defBody sBlack) (defScope sBlack) .none kV24 dc24 pm24 an24 cd24 ct24), sl24⟩)
    (c24 : PySem.W.codeIn K cd24 "black_moves" = true)
    (k24 : PySem.W.keepIn K (.ref f24) = true)
    (a25 : PySem.W.nsIn K mainGlobals "white_moves" = some (some (.ref f25)))
    (l25 : K.lookup f25 = some ⟨oc25, od25, .func (PySem.W.fnOf "white_moves" "white_moves" (defArgs sWhite) (defBody sWhite) (defScope sWhite) .none kV25 dc25 pm25 an25 cd25 ct25), sl25⟩)
    (c25 : PySem.W.codeIn K cd25 "white_moves" = true)
    (k25 : PySem.W.keepIn K (.ref f25) = true)
    (a26 : PySem.W.nsIn K mainGlobals "before_white" = some (some (.ref f26)))
    (l26 : K.lookup f26 = some ⟨oc26, od26, .func (PySem.W.fnOf "before_white" "before_white" (defArgs sBackW) (defBody sBackW) (defScope sBackW) .none kV26 dc26 pm26 an26 cd26 ct26), sl26⟩)
    (c26 : PySem.W.codeIn K cd26 "before_white" = true)
    (k26 : PySem.W.keepIn K (.ref f26) = true)
    (a27 : PySem.W.nsIn K mainGlobals "before_black" = some (some (.ref f27)))
    (l27 : K.lookup f27 = some ⟨oc27, od27, .func (PySem.W.fnOf "before_black" "before_black" (defArgs sBackB) (defBody sBackB) (defScope sBackB) .none kV27 dc27 pm27 an27 cd27 ct27), sl27⟩)
    (c27 : PySem.W.codeIn K cd27 "before_black" = true)
    (k27 : PySem.W.keepIn K (.ref f27) = true)
    (a28 : PySem.W.nsIn K mainGlobals "find_mates" = some (some (.ref f28)))
    (l28 : K.lookup f28 = some ⟨oc28, od28, .func (PySem.W.fnOf "find_mates" "find_mates" (defArgs sMates) (defBody sMates) (defScope sMates) .none kV28 dc28 pm28 an28 cd28 ct28), sl28⟩)
    (c28 : PySem.W.codeIn K cd28 "find_mates" = true)
    (k28 : PySem.W.keepIn K (.ref f28) = true)
    (a29 : PySem.W.nsIn K mainGlobals "newly_won" = some (some (.ref f29)))
    (l29 : K.lookup f29 = some ⟨oc29, od29, .func (PySem.W.fnOf "newly_won" "newly_won" (defArgs sWon) (defBody sWon) (defScope sWon) .none kV29 dc29 pm29 an29 cd29 ct29), sl29⟩)
    (c29 : PySem.W.codeIn K cd29 "newly_won" = true)
    (k29 : PySem.W.keepIn K (.ref f29) = true)
    (a30 : PySem.W.nsIn K mainGlobals "newly_lost" = some (some (.ref f30)))
    (l30 : K.lookup f30 = some ⟨oc30, od30, .func (PySem.W.fnOf "newly_lost" "newly_lost" (defArgs sLost) (defBody sLost) (defScope sLost) .none kV30 dc30 pm30 an30 cd30 ct30), sl30⟩)
    (c30 : PySem.W.codeIn K cd30 "newly_lost" = true)
    (k30 : PySem.W.keepIn K (.ref f30) = true)
    (a31 : PySem.W.nsIn K mainGlobals "game_of" = some (some (.ref f31)))
    (l31 : K.lookup f31 = some ⟨oc31, od31, .func (PySem.W.fnOf "game_of" "game_of" (defArgs sGameOf) (defBody sGameOf) (defScope sGameOf) .none kV31 dc31 pm31 an31 cd31 ct31), sl31⟩)
    (c31 : PySem.W.codeIn K cd31 "game_of" = true)
    (k31 : PySem.W.keepIn K (.ref f31) = true)
    (a32 : PySem.W.nsIn K mainGlobals "best_move" = some (some (.ref f32)))
    (l32 : K.lookup f32 = some ⟨oc32, od32, .func (PySem.W.fnOf "best_move" "best_move" (defArgs sBest) (defBody sBest) (defScope sBest) .none kV32 dc32 pm32 an32 cd32 ct32), sl32⟩)
    (c32 : PySem.W.codeIn K cd32 "best_move" = true)
    (k32 : PySem.W.keepIn K (.ref f32) = true)
    (a36 : PySem.W.nsIn K mainGlobals "most_moves" = some (some (.ref f36)))
    (l36 : K.lookup f36 = some ⟨oc36, od36, .func (PySem.W.fnOf "most_moves" "most_moves" (defArgs sMost) (defBody sMost) (defScope sMost) .none kV36 dc36 pm36 an36 cd36 ct36), sl36⟩)
    (c36 : PySem.W.codeIn K cd36 "most_moves" = true)
    (k36 : PySem.W.keepIn K (.ref f36) = true)
    (a37 : PySem.W.nsIn K mainGlobals "wins_told" = some (some (.ref f37)))
    (l37 : K.lookup f37 = some ⟨oc37, od37, .func (PySem.W.fnOf "wins_told" "wins_told" (defArgs sWinsT) (defBody sWinsT) (defScope sWinsT) .none kV37 dc37 pm37 an37 cd37 ct37), sl37⟩)
    (c37 : PySem.W.codeIn K cd37 "wins_told" = true)
    (k37 : PySem.W.keepIn K (.ref f37) = true)
    (a38 : PySem.W.nsIn K mainGlobals "loses_told" = some (some (.ref f38)))
    (l38 : K.lookup f38 = some ⟨oc38, od38, .func (PySem.W.fnOf "loses_told" "loses_told" (defArgs sLosesT) (defBody sLosesT) (defScope sLosesT) .none kV38 dc38 pm38 an38 cd38 ct38), sl38⟩)
    (c38 : PySem.W.codeIn K cd38 "loses_told" = true)
    (k38 : PySem.W.keepIn K (.ref f38) = true)
    (a39 : PySem.W.nsIn K mainGlobals "best_told" = some (some (.ref f39)))
    (l39 : K.lookup f39 = some ⟨oc39, od39, .func (PySem.W.fnOf "best_told" "best_told" (defArgs sBestT) (defBody sBestT) (defScope sBestT) .none kV39 dc39 pm39 an39 cd39 ct39), sl39⟩)
    (c39 : PySem.W.codeIn K cd39 "best_told" = true)
    (k39 : PySem.W.keepIn K (.ref f39) = true)
    (a47 : PySem.W.nsIn K mainGlobals "within" = some (some (.ref f47)))
    (l47 : K.lookup f47 = some ⟨oc47, od47, .func (PySem.W.fnOf "within" "within" (defArgs sWithin) (defBody sWithin) (defScope sWithin) .none kV47 dc47 pm47 an47 cd47 ct47), sl47⟩)
    (c47 : PySem.W.codeIn K cd47 "within" = true)
    (k47 : PySem.W.keepIn K (.ref f47) = true)
    (a48 : PySem.W.nsIn K mainGlobals "build" = some (some (.ref f48)))
    (l48 : K.lookup f48 = some ⟨oc48, od48, .func (PySem.W.fnOf "build" "build" (defArgs sBuild) (defBody sBuild) (defScope sBuild) .none kV48 dc48 pm48 an48 cd48 ct48), sl48⟩)
    (c48 : PySem.W.codeIn K cd48 "build" = true)
    (k48 : PySem.W.keepIn K (.ref f48) = true)
    (a49 : PySem.W.nsIn K mainGlobals "answered" = some (some (.ref f49)))
    (l49 : K.lookup f49 = some ⟨oc49, od49, .func (PySem.W.fnOf "answered" "answered" (defArgs sAnswered) (defBody sAnswered) (defScope sAnswered) .none kV49 dc49 pm49 an49 cd49 ct49), sl49⟩)
    (c49 : PySem.W.codeIn K cd49 "answered" = true)
    (k49 : PySem.W.keepIn K (.ref f49) = true)
    (a50 : PySem.W.nsIn K mainGlobals "answers" = some (some (.ref f50)))
    (l50 : K.lookup f50 = some ⟨oc50, od50, .func (PySem.W.fnOf "answers" "answers" (defArgs sAns) (defBody sAns) (defScope sAns) .none kV50 dc50 pm50 an50 cd50 ct50), sl50⟩)
    (c50 : PySem.W.codeIn K cd50 "answers" = true)
    (k50 : PySem.W.keepIn K (.ref f50) = true)
    (acB : PySem.W.nsIn K mainGlobals "Board" = some (some (.ref CB)))
    (aB : PySem.W.findIn K (.ref CB) "__init__" = some (some (.ref fB)))
    (iB : PySem.W.isFn K (.ref fB) = true)
    (lB : K.lookup fB = some ⟨ocB, odB, .func (PySem.W.fnOf "__init__" "Board.__init__" (defArgs sBoard) (defBody sBoard) (defScope sBoard) .none kVB dcB pmB anB cdB ctB), slB⟩)
    (cB : PySem.W.codeIn K cdB "Board.__init__" = true)
    (kB : PySem.W.keepIn K (.ref fB) = true)
    (pgB : PySem.W.plainGet K CB Str.empty = true)
    (hdB : PySem.W.hasDictIn K CB = true)
    (poB : PySem.W.plainOver K CB = true)
    (saB : PySem.W.findIn K (.ref CB) "__setattr__" = some (some (.builtin "object.__setattr__")))
    (mkB : PySem.W.makesIn K CB = true)
    (kcB : PySem.W.keepIn K (.ref CB) = true)
    (nB_s : PySem.W.findIn K (.ref CB) "s" = some none)
    (nB_off : PySem.W.findIn K (.ref CB) "off" = some none)
    (nB_beside : PySem.W.findIn K (.ref CB) "beside" = some none)
    (nB_lines : PySem.W.findIn K (.ref CB) "lines" = some none)
    (acG : PySem.W.nsIn K mainGlobals "Game" = some (some (.ref CG)))
    (aG : PySem.W.findIn K (.ref CG) "__init__" = some (some (.ref fG)))
    (iG : PySem.W.isFn K (.ref fG) = true)
    (lG : K.lookup fG = some ⟨ocG, odG, .func (PySem.W.fnOf "__init__" "Game.__init__" (defArgs sGame) (defBody sGame) (defScope sGame) .none kVG dcG pmG anG cdG ctG), slG⟩)
    (cG : PySem.W.codeIn K cdG "Game.__init__" = true)
    (kG : PySem.W.keepIn K (.ref fG) = true)
    (pgG : PySem.W.plainGet K CG Str.empty = true)
    (hdG : PySem.W.hasDictIn K CG = true)
    (poG : PySem.W.plainOver K CG = true)
    (saG : PySem.W.findIn K (.ref CG) "__setattr__" = some (some (.builtin "object.__setattr__")))
    (mkG : PySem.W.makesIn K CG = true)
    (kcG : PySem.W.keepIn K (.ref CG) = true)
    (nG_board : PySem.W.findIn K (.ref CG) "board" = some none)
    (nG_pieces : PySem.W.findIn K (.ref CG) "pieces" = some none)
    (nG_checks : PySem.W.findIn K (.ref CG) "checks" = some none)
    (nG_wins : PySem.W.findIn K (.ref CG) "wins" = some none)
    (nG_loses : PySem.W.findIn K (.ref CG) "loses" = some none)
    (nG_left : PySem.W.findIn K (.ref CG) "left" = some none)
    (acD : PySem.W.nsIn K mainGlobals "Desk" = some (some (.ref CD)))
    (aD : PySem.W.findIn K (.ref CD) "__init__" = some (some (.ref fD)))
    (iD : PySem.W.isFn K (.ref fD) = true)
    (lD : K.lookup fD = some ⟨ocD, odD, .func (PySem.W.fnOf "__init__" "Desk.__init__" (defArgs sDesk) (defBody sDesk) (defScope sDesk) .none kVD dcD pmD anD cdD ctD), slD⟩)
    (cD : PySem.W.codeIn K cdD "Desk.__init__" = true)
    (kD : PySem.W.keepIn K (.ref fD) = true)
    (pgD : PySem.W.plainGet K CD Str.empty = true)
    (hdD : PySem.W.hasDictIn K CD = true)
    (poD : PySem.W.plainOver K CD = true)
    (saD : PySem.W.findIn K (.ref CD) "__setattr__" = some (some (.builtin "object.__setattr__")))
    (mkD : PySem.W.makesIn K CD = true)
    (kcD : PySem.W.keepIn K (.ref CD) = true)
    (nD_game : PySem.W.findIn K (.ref CD) "game" = some none)
    (v_NONE : PySem.W.nsIn K mainGlobals "NONE" = some (some (.int 0 tk_NONE)))
    (v_QUEEN : PySem.W.nsIn K mainGlobals "QUEEN" = some (some (.int 1 tk_QUEEN)))
    (v_ROOK : PySem.W.nsIn K mainGlobals "ROOK" = some (some (.int 2 tk_ROOK)))
    (v_BISHOP : PySem.W.nsIn K mainGlobals "BISHOP" = some (some (.int 3 tk_BISHOP)))
    (v_KNIGHT : PySem.W.nsIn K mainGlobals "KNIGHT" = some (some (.int 4 tk_KNIGHT)))
    (v_NO_POSITION : PySem.W.nsIn K mainGlobals "NO_POSITION" = some (some (.int (-3) tk_NO_POSITION)))
    (v_NOT_LOST : PySem.W.nsIn K mainGlobals "NOT_LOST" = some (some (.int (-4) tk_NOT_LOST)))
    (v_NOT_RIGHT : PySem.W.nsIn K mainGlobals "NOT_RIGHT" = some (some (.int (-2) tk_NOT_RIGHT)))
    (v_LEAST_SIDE : PySem.W.nsIn K mainGlobals "LEAST_SIDE" = some (some (.int 3 tk_LEAST_SIDE)))
    (v_MOST_SIDE : PySem.W.nsIn K mainGlobals "MOST_SIDE" = some (some (.int 8 tk_MOST_SIDE)))
    (v_BUILD : PySem.W.nsIn K mainGlobals "BUILD" = some (some (.int 0 tk_BUILD)))
    (b_len : PySem.W.nsIn K mainGlobals "len" = some none)
    (b_set : PySem.W.nsIn K mainGlobals "set" = some none)
    (b_list : PySem.W.nsIn K mainGlobals "list" = some none)
    (b_range : PySem.W.nsIn K mainGlobals "range" = some none)
    (b_sorted : PySem.W.nsIn K mainGlobals "sorted" = some none)
    (b_max : PySem.W.nsIn K mainGlobals "max" = some none)
    (b_tuple : PySem.W.nsIn K mainGlobals "tuple" = some none)
    (atS : PySem.W.nsIn K mainGlobals "STRAIGHT" = some (some (.ref aS)))
    (etS : K.lookup aS = some ⟨.type "tuple", oTS, .seq #[.ref aS0, .ref aS1, .ref aS2, .ref aS3] nTS, sTS⟩)
    (eS0 : K.lookup aS0 = some ⟨.type "tuple", oS0, .seq #[.int (-1) xS0, .int 0 yS0] nS0, sS0⟩)
    (eS1 : K.lookup aS1 = some ⟨.type "tuple", oS1, .seq #[.int 0 xS1, .int (-1) yS1] nS1, sS1⟩)
    (eS2 : K.lookup aS2 = some ⟨.type "tuple", oS2, .seq #[.int 0 xS2, .int 1 yS2] nS2, sS2⟩)
    (eS3 : K.lookup aS3 = some ⟨.type "tuple", oS3, .seq #[.int 1 xS3, .int 0 yS3] nS3, sS3⟩)
    (atA : PySem.W.nsIn K mainGlobals "ASLANT" = some (some (.ref aA)))
    (etA : K.lookup aA = some ⟨.type "tuple", oTA, .seq #[.ref aA0, .ref aA1, .ref aA2, .ref aA3] nTA, sTA⟩)
    (eA0 : K.lookup aA0 = some ⟨.type "tuple", oA0, .seq #[.int (-1) xA0, .int (-1) yA0] nA0, sA0⟩)
    (eA1 : K.lookup aA1 = some ⟨.type "tuple", oA1, .seq #[.int (-1) xA1, .int 1 yA1] nA1, sA1⟩)
    (eA2 : K.lookup aA2 = some ⟨.type "tuple", oA2, .seq #[.int 1 xA2, .int (-1) yA2] nA2, sA2⟩)
    (eA3 : K.lookup aA3 = some ⟨.type "tuple", oA3, .seq #[.int 1 xA3, .int 1 yA3] nA3, sA3⟩)
    (atL : PySem.W.nsIn K mainGlobals "LEAPS" = some (some (.ref aL)))
    (etL : K.lookup aL = some ⟨.type "tuple", oTL, .seq #[.ref aL0, .ref aL1, .ref aL2, .ref aL3, .ref aL4, .ref aL5, .ref aL6, .ref aL7] nTL, sTL⟩)
    (eL0 : K.lookup aL0 = some ⟨.type "tuple", oL0, .seq #[.int (-2) xL0, .int (-1) yL0] nL0, sL0⟩)
    (eL1 : K.lookup aL1 = some ⟨.type "tuple", oL1, .seq #[.int (-2) xL1, .int 1 yL1] nL1, sL1⟩)
    (eL2 : K.lookup aL2 = some ⟨.type "tuple", oL2, .seq #[.int (-1) xL2, .int (-2) yL2] nL2, sL2⟩)
    (eL3 : K.lookup aL3 = some ⟨.type "tuple", oL3, .seq #[.int (-1) xL3, .int 2 yL3] nL3, sL3⟩)
    (eL4 : K.lookup aL4 = some ⟨.type "tuple", oL4, .seq #[.int 1 xL4, .int (-2) yL4] nL4, sL4⟩)
    (eL5 : K.lookup aL5 = some ⟨.type "tuple", oL5, .seq #[.int 1 xL5, .int 2 yL5] nL5, sL5⟩)
    (eL6 : K.lookup aL6 = some ⟨.type "tuple", oL6, .seq #[.int 2 xL6, .int (-1) yL6] nL6, sL6⟩)
    (eL7 : K.lookup aL7 = some ⟨.type "tuple", oL7, .seq #[.int 2 xL7, .int 1 yL7] nL7, sL7⟩)
    (atW : PySem.W.nsIn K mainGlobals "WHOLES" = some (some (.ref aW)))
    (etW : K.lookup aW = some ⟨.type "tuple", oTW, .seq #[.int 3 w0, .int 4 w1, .int 4 w2, .int 4 w3] nTW, sTW⟩) :
    ∃ fd : FuncData, (∀ (s : Shared) (us : List Value), us.length = (["calls"] : List Str).length → BindsTo s fd ⟨us, []⟩ ((["calls"] : List Str).zip us)) ∧ ∀ base : Heap, K.In base → base.Ns mainGlobals mg → FnOk P w K mg base CX0 11 fa fd ["calls"] (spAns K) := by
  have e := hfa.symm.trans (PySem.W.mg_of X G a50)
  cases e
  have g10 := PySem.W.mg_of X G a10
  have g11 := PySem.W.mg_of X G a11
  have g12 := PySem.W.mg_of X G a12
  have g13 := PySem.W.mg_of X G a13
  have g14 := PySem.W.mg_of X G a14
  have g17 := PySem.W.mg_of X G a17
  have g18 := PySem.W.mg_of X G a18
  have g19 := PySem.W.mg_of X G a19
  have g20 := PySem.W.mg_of X G a20
  have g21 := PySem.W.mg_of X G a21
  have g22 := PySem.W.mg_of X G a22
  have g23 := PySem.W.mg_of X G a23
  have g24 := PySem.W.mg_of X G a24
  have g25 := PySem.W.mg_of X G a25
  have g26 := PySem.W.mg_of X G a26
  have g27 := PySem.W.mg_of X G a27
  have g28 := PySem.W.mg_of X G a28
  have g29 := PySem.W.mg_of X G a29
  have g30 := PySem.W.mg_of X G a30
  have g31 := PySem.W.mg_of X G a31
  have g32 := PySem.W.mg_of X G a32
  have g36 := PySem.W.mg_of X G a36
  have g37 := PySem.W.mg_of X G a37
  have g38 := PySem.W.mg_of X G a38
  have g39 := PySem.W.mg_of X G a39
  have g47 := PySem.W.mg_of X G a47
  have g48 := PySem.W.mg_of X G a48
  have g49 := PySem.W.mg_of X G a49
  have g50 := PySem.W.mg_of X G a50
  have F10 := fun_mk (st := sStep) l10 c10 k10
  have b10 := F10.binds (ps := ["s", "cell", "step"]) fun _ _ _ _ _ _ us hl => match us, hl with | [_, _, _], _ => rfl
  have F11 := fun_mk (st := sSteps) l11 c11 k11
  have b11 := F11.binds (ps := ["s", "cell", "steps"]) fun _ _ _ _ _ _ us hl => match us, hl with | [_, _, _], _ => rfl
  have F12 := fun_mk (st := sLine) l12 c12 k12
  have b12 := F12.binds (ps := ["s", "cell", "step"]) fun _ _ _ _ _ _ us hl => match us, hl with | [_, _, _], _ => rfl
  have F13 := fun_mk (st := sLines) l13 c13 k13
  have b13 := F13.binds (ps := ["s", "cell", "steps"]) fun _ _ _ _ _ _ us hl => match us, hl with | [_, _, _], _ => rfl
  have F14 := fun_mk (st := sAimed) l14 c14 k14
  have b14 := F14.binds (ps := ["board", "piece", "cell", "standing"]) fun _ _ _ _ _ _ us hl => match us, hl with | [_, _, _, _], _ => rfl
  have F17 := fun_mk (st := sPos) l17 c17 k17
  have b17 := F17.binds (ps := ["game", "position"]) fun _ _ _ _ _ _ us hl => match us, hl with | [_, _], _ => rfl
  have F18 := fun_mk (st := sPlaces) l18 c18 k18
  have b18 := F18.binds (ps := ["game", "piece"]) fun _ _ _ _ _ _ us hl => match us, hl with | [_, _], _ => rfl
  have F19 := fun_mk (st := sIsAimed) l19 c19 k19
  have b19 := F19.binds (ps := ["game", "position"]) fun _ _ _ _ _ _ us hl => match us, hl with | [_, _], _ => rfl
  have F20 := fun_mk (st := sAll) l20 c20 k20
  have b20 := F20.binds (ps := ["game"]) fun _ _ _ _ _ _ us hl => match us, hl with | [_], _ => rfl
  have F21 := fun_mk (st := sKings) l21 c21 k21
  have b21 := F21.binds (ps := ["game", "wk", "bk"]) fun _ _ _ _ _ _ us hl => match us, hl with | [_, _, _], _ => rfl
  have F22 := fun_mk (st := sSafe) l22 c22 k22
  have b22 := F22.binds (ps := ["game", "position"]) fun _ _ _ _ _ _ us hl => match us, hl with | [_, _], _ => rfl
  have F23 := fun_mk (st := sWithout) l23 c23 k23
  have b23 := F23.binds (ps := ["game", "cell", "taken"]) fun _ _ _ _ _ _ us hl => match us, hl with | [_, _, _], _ => rfl
  have F24 := fun_mk (st := sBlack) l24 c24 k24
  have b24 := F24.binds (ps := ["game", "position"]) fun _ _ _ _ _ _ us hl => match us, hl with | [_, _], _ => rfl
  have F25 := fun_mk (st := sWhite) l25 c25 k25
  have b25 := F25.binds (ps := ["game", "position"]) fun _ _ _ _ _ _ us hl => match us, hl with | [_, _], _ => rfl
  have F26 := fun_mk (st := sBackW) l26 c26 k26
  have b26 := F26.binds (ps := ["game", "position"]) fun _ _ _ _ _ _ us hl => match us, hl with | [_, _], _ => rfl
  have F27 := fun_mk (st := sBackB) l27 c27 k27
  have b27 := F27.binds (ps := ["game", "position"]) fun _ _ _ _ _ _ us hl => match us, hl with | [_, _], _ => rfl
  have F28 := fun_mk (st := sMates) l28 c28 k28
  have b28 := F28.binds (ps := ["game"]) fun _ _ _ _ _ _ us hl => match us, hl with | [_], _ => rfl
  have F29 := fun_mk (st := sWon) l29 c29 k29
  have b29 := F29.binds (ps := ["game", "lost", "k"]) fun _ _ _ _ _ _ us hl => match us, hl with | [_, _, _], _ => rfl
  have F30 := fun_mk (st := sLost) l30 c30 k30
  have b30 := F30.binds (ps := ["game", "won", "k"]) fun _ _ _ _ _ _ us hl => match us, hl with | [_, _, _], _ => rfl
  have F31 := fun_mk (st := sGameOf) l31 c31 k31
  have b31 := F31.binds (ps := ["s", "a", "b"]) fun _ _ _ _ _ _ us hl => match us, hl with | [_, _, _], _ => rfl
  have F32 := fun_mk (st := sBest) l32 c32 k32
  have b32 := F32.binds (ps := ["game", "position"]) fun _ _ _ _ _ _ us hl => match us, hl with | [_, _], _ => rfl
  have F36 := fun_mk (st := sMost) l36 c36 k36
  have b36 := F36.binds (ps := ["game"]) fun _ _ _ _ _ _ us hl => match us, hl with | [_], _ => rfl
  have F37 := fun_mk (st := sWinsT) l37 c37 k37
  have b37 := F37.binds (ps := ["game", "position"]) fun _ _ _ _ _ _ us hl => match us, hl with | [_, _], _ => rfl
  have F38 := fun_mk (st := sLosesT) l38 c38 k38
  have b38 := F38.binds (ps := ["game", "position"]) fun _ _ _ _ _ _ us hl => match us, hl with | [_, _], _ => rfl
  have F39 := fun_mk (st := sBestT) l39 c39 k39
  have b39 := F39.binds (ps := ["game", "position"]) fun _ _ _ _ _ _ us hl => match us, hl with | [_, _], _ => rfl
  have F47 := fun_mk (st := sWithin) l47 c47 k47
  have b47 := F47.binds (ps := ["number", "least", "most"]) fun _ _ _ _ _ _ us hl => match us, hl with | [_, _, _], _ => rfl
  have F48 := fun_mk (st := sBuild) l48 c48 k48
  have b48 := F48.binds (ps := ["desk", "s", "a", "b"]) fun _ _ _ _ _ _ us hl => match us, hl with | [_, _, _, _], _ => rfl
  have F49 := fun_mk (st := sAnswered) l49 c49 k49
  have b49 := F49.binds (ps := ["desk", "kind", "wholes"]) fun _ _ _ _ _ _ us hl => match us, hl with | [_, _, _], _ => rfl
  have F50 := fun_mk (st := sAns) l50 c50 k50
  have b50 := F50.binds (ps := ["calls"]) fun _ _ _ _ _ _ us hl => match us, hl with | [_], _ => rfl
  have FB := fun_mk (st := sBoard) lB cB kB
  have bB := FB.binds (ps := ["self", "s"]) fun _ _ _ _ _ _ us hl => match us, hl with | [_, _], _ => rfl
  have FG := fun_mk (st := sGame) lG cG kG
  have bG := FG.binds (ps := ["self", "s", "a", "b"]) fun _ _ _ _ _ _ us hl => match us, hl with | [_, _, _, _], _ => rfl
  have FD := fun_mk (st := sDesk) lD cD kD
  have bD := FD.binds (ps := ["self"]) fun _ _ _ _ _ _ us hl => match us, hl with | [_], _ => rfl
  have stS : ∀ H, StepsAt K H aS straight := steps_mk (as := [aS0, aS1, aS2, aS3]) etS (by show 4 ≤ 100; decide) (.cons eS0 (.cons eS1 (.cons eS2 (.cons eS3 .nil))))
  have stA : ∀ H, StepsAt K H aA aslant := steps_mk (as := [aA0, aA1, aA2, aA3]) etA (by show 4 ≤ 100; decide) (.cons eA0 (.cons eA1 (.cons eA2 (.cons eA3 .nil))))
  have stL : ∀ H, StepsAt K H aL leaps := steps_mk (as := [aL0, aL1, aL2, aL3, aL4, aL5, aL6, aL7]) etL (by show 8 ≤ 100; decide) (.cons eL0 (.cons eL1 (.cons eL2 (.cons eL3 (.cons eL4 (.cons eL5 (.cons eL6 (.cons eL7 .nil))))))))
  have stW : ∀ H, SqT K H aW [.int 3, .int 4, .int 4, .int 4] := tup_top etW (.cons ⟨_, rfl⟩ (.cons ⟨_, rfl⟩ (.cons ⟨_, rfl⟩ (.cons ⟨_, rfl⟩ .nil)))) (by show 4 ≤ sizeLine; decide)
  have m_NONE : ∃ t, mg "NONE" = some (.int 0 t) := ⟨_, PySem.W.mg_of X G v_NONE⟩
  have m_QUEEN : ∃ t, mg "QUEEN" = some (.int 1 t) := ⟨_, PySem.W.mg_of X G v_QUEEN⟩
  have m_ROOK : ∃ t, mg "ROOK" = some (.int 2 t) := ⟨_, PySem.W.mg_of X G v_ROOK⟩
  have m_BISHOP : ∃ t, mg "BISHOP" = some (.int 3 t) := ⟨_, PySem.W.mg_of X G v_BISHOP⟩
  have m_KNIGHT : ∃ t, mg "KNIGHT" = some (.int 4 t) := ⟨_, PySem.W.mg_of X G v_KNIGHT⟩
  have m_NO_POSITION : ∃ t, mg "NO_POSITION" = some (.int (-3) t) := ⟨_, PySem.W.mg_of X G v_NO_POSITION⟩
  have m_NOT_LOST : ∃ t, mg "NOT_LOST" = some (.int (-4) t) := ⟨_, PySem.W.mg_of X G v_NOT_LOST⟩
  have m_NOT_RIGHT : ∃ t, mg "NOT_RIGHT" = some (.int (-2) t) := ⟨_, PySem.W.mg_of X G v_NOT_RIGHT⟩
  have m_LEAST_SIDE : ∃ t, mg "LEAST_SIDE" = some (.int 3 t) := ⟨_, PySem.W.mg_of X G v_LEAST_SIDE⟩
  have m_MOST_SIDE : ∃ t, mg "MOST_SIDE" = some (.int 8 t) := ⟨_, PySem.W.mg_of X G v_MOST_SIDE⟩
  have m_BUILD : ∃ t, mg "BUILD" = some (.int 0 t) := ⟨_, PySem.W.mg_of X G v_BUILD⟩
  have m_len := PySem.W.mg_none_of X G b_len
  have m_set := PySem.W.mg_none_of X G b_set
  have m_list := PySem.W.mg_none_of X G b_list
  have m_range := PySem.W.mg_none_of X G b_range
  have m_sorted := PySem.W.mg_none_of X G b_sorted
  have m_max := PySem.W.mg_none_of X G b_max
  have m_tuple := PySem.W.mg_none_of X G b_tuple
  have m_STRAIGHT := PySem.W.mg_of X G atS
  have m_ASLANT := PySem.W.mg_of X G atA
  have m_LEAPS := PySem.W.mg_of X G atL
  have m_WHOLES := PySem.W.mg_of X G atW
  have gB := PySem.W.mg_of X G acB
  have MB : Mk K CB fB := ⟨mkB, aB, iB, kcB⟩
  have gG := PySem.W.mg_of X G acG
  have MG : Mk K CG fG := ⟨mkG, aG, iG, kcG⟩
  have gD := PySem.W.mg_of X G acD
  have MD : Mk K CD fD := ⟨mkD, aD, iD, kcD⟩
  have TB : TxB K mg CB aS aA aL := ⟨⟨pgB, hdB, poB, saB⟩, nB_s, nB_off, nB_beside, nB_lines, m_QUEEN, m_ROOK, m_BISHOP, m_KNIGHT, m_STRAIGHT, m_ASLANT, m_LEAPS, stS, stA, stL, m_range, m_sorted⟩
  have T : TxG K mg CG := ⟨⟨pgG, hdG, poG, saG⟩, nG_board, nG_pieces, nG_checks, nG_wins, nG_loses, nG_left, m_NONE, m_len, m_set, m_list⟩
  have TA : TxA mg := ⟨m_NO_POSITION, m_NOT_LOST, m_max⟩
  have TD : TxD K mg CD aW := ⟨⟨pgD, hdD, poD, saD⟩, nD_game, m_NOT_RIGHT, m_LEAST_SIDE, m_MOST_SIDE, m_BUILD, m_WHOLES, stW, m_tuple, m_len⟩
  have NP : FnP K mg f14 f17 f18 f19 f21 _ _ _ _ _ := ⟨F14, g14, b14, F17, g17, b17, F18, g18, b18, F19, g19, b19, F21, g21, b21⟩
  have NM : FnM K mg f14 f22 f23 _ _ _ := ⟨F14, g14, b14, F22, g22, b22, F23, g23, b23⟩
  refine ⟨PySem.W.fnOf "answers" "answers" (defArgs sAns) (defBody sAns) (defScope sAns) .none kV50 dc50 pm50 an50 cd50 ct50, fun s us hu => match us, hu with | [_], _ => .of_eq rfl, fun base _ _ => ?_⟩
  have GB : FnOk P w K mg base CX0 4 fB _ ["self", "s"] (spBoard CB) := ok_board TB FB F10 g10 b10 F12 g12 b12 F11 g11 b11 F13 g13 b13
  have GG : FnOk P w K mg base CX0 6 fG _ ["self", "s", "a", "b"] (spGame CG CB) := ok_game T MB gB GB bB FG
  have G20 : FnOk P w K mg base CX0 4 f20 _ ["game"] (spAll CG CB) := ok_all TB T NP F20
  have G28 : FnOk P w K mg base CX0 3 f28 _ ["game"] (spMates CG CB) := ok_mates TB T NM F24 g24 b24 F28
  have G29 : FnOk P w K mg base CX0 4 f29 _ ["game", "lost", "k"] (spWon CG CB) := ok_won TB T NM F25 g25 b25 F26 g26 b26 F29
  have G30 : FnOk P w K mg base CX0 2 f30 _ ["game", "won", "k"] (spLost CG CB) := ok_lost TB T F27 g27 b27 F30
  have G31 : FnOk P w K mg base CX0 8 f31 _ ["s", "a", "b"] (spGameOf CG CB) := ok_gameOf MG gG GG bG G20 k20 g20 b20 G28 k28 g28 b28 G29 k29 g29 b29 G30 k30 g30 b30 F31
  have G25 : FnOk P w K mg base CX0 2 f25 _ ["game", "position"] (spWhite CG CB) := ok_white TB T NM F25
  have G32 : FnOk P w K mg base CX0 3 f32 _ ["game", "position"] (spBest CG CB) := ok_best T G25 k25 g25 b25 F32
  have G36 : FnOk P w K mg base CX0 1 f36 _ ["game"] (spMost CG CB) := ok_most T TA F36
  have G22 : FnOk P w K mg base CX0 1 f22 _ ["game", "position"] (spSafe CG CB) := ok_safe T F22
  have G37 : FnOk P w K mg base CX0 2 f37 _ nAsk (spAsk CG CB fun g x y z w => [winsA g x y z w]) := ok_winsT T TA G22 k22 g22 b22 F37
  have G38 : FnOk P w K mg base CX0 1 f38 _ nAsk (spAsk CG CB fun g x y z w => [losesA g x y z w]) := ok_losesT T TA F38
  have G39 : FnOk P w K mg base CX0 4 f39 _ nAsk (spAsk CG CB bestA) := ok_bestT G37 k37 g37 b37 G32 k32 g32 b32 F39
  have GD : FnOk P w K mg base CX0 1 fD _ ["self"] (spDesk CD) := ok_desk TD FD
  have G47 : FnOk P w K mg base CX0 1 f47 _ nWithin spWithin := ok_within F47
  have G48 : FnOk P w K mg base CX0 9 f48 _ nBuild (spBuild CD CG CB) := ok_build TB T TD G47 k47 g47 b47 G31 k31 g31 b31 G36 k36 g36 b36 F48
  have G49 : FnOk P w K mg base CX0 10 f49 _ ["desk", "kind", "wholes"] (spAnswered CD CG CB) := ok_answered TD G48 k48 g48 b48 G37 k37 g37 b37 G38 k38 g38 b38 G39 k39 g39 b39 F49
  exact ok_ans TD MD gD GD bD G49 k49 g49 b49 F50
end Cw
end
open PySem PySem.W PyProof.Rows
set_option maxRecDepth 100000 in
set_option maxHeartbeats 0 in
theorem PySem.Challenge.cw_chessends_s01_answers_holds : PySem.Challenge.rw_chessends_s01_answers.Holds := by
  w_on; k_headS; (case hw => exact ⟨[.list [.int 0, .int 2, .int 1, .int 0]], by decide +kernel, by decide +kernel⟩)
  k_fillS
  refine L2.walk_specK (r := PySem.Challenge.rw_chessends_s01_answers) (k := 11) (CX := L2.CX0) (ps := ["calls"]) (sp := Cw.spAns) (by decide +kernel) rfl rfl ⟨rfl, by decide, by decide⟩ (fun w h Y => PySem.W.kIn_of Y) ?F ?S (fun _ _ _ _ z => z)
  case F =>
    intro w mg fa h Y KX G hmg
    refine' Cw.all_mk KX G hmg ?a10 ?l10 ?c10 ?k10 ?a11 ?l11 ?c11 ?k11 ?a12 ?l12 ?c12 ?k12 ?a13 ?l13 ?c13 ?k13 ?a14 ?l14 ?c14 ?k14 ?a17 ?l17 ?c17 ?k17 ?a18 ?l18 ?c18 ?k18 ?a19 ?l19 ?c19 ?k19 ?a20 ?l20 ?c20 ?k20 ?a21 ?l21 ?c21 ?k21 ?a22 ?l22 ?c22 ?k22 ?a23 ?l23 ?c23 ?k23 ?a24 ?l24 ?c24 ?k24 ?a25 ?l25 ?c25 ?k25 ?a26 ?l26 ?c26 ?k26 ?a27 ?l27 ?c27 ?k27 ?a28 ?l28 ?c28 ?k28 ?a29 ?l29 ?c29 ?k29 ?a30 ?l30 ?c30 ?k30 ?a31 ?l31 ?c31 ?k31 ?a32 ?l32 ?c32 ?k32 ?a36 ?l36 ?c36 ?k36 ?a37 ?l37 ?c37 ?k37 ?a38 ?l38 ?c38 ?k38 ?a39 ?l39 ?c39 ?k39 ?a47 ?l47 ?c47 ?k47 ?a48 ?l48 ?c48 ?k48 ?a49 ?l49 ?c49 ?k49 ?a50 ?l50 ?c50 ?k50 ?acB ?aB ?iB ?lB ?cB ?kB ?pgB ?hdB ?poB ?saB ?mkB ?kcB ?nB_s ?nB_off ?nB_beside ?nB_lines ?acG ?aG ?iG ?lG ?cG ?kG ?pgG ?hdG ?poG ?saG ?mkG ?kcG ?nG_board ?nG_pieces ?nG_checks ?nG_wins ?nG_loses ?nG_left ?acD ?aD ?iD ?lD ?cD ?kD ?pgD ?hdD ?poD ?saD ?mkD ?kcD ?nD_game ?v_NONE ?v_QUEEN ?v_ROOK ?v_BISHOP ?v_KNIGHT ?v_NO_POSITION ?v_NOT_LOST ?v_NOT_RIGHT ?v_LEAST_SIDE ?v_MOST_SIDE ?v_BUILD ?b_len ?b_set ?b_list ?b_range ?b_sorted ?b_max ?b_tuple ?atS ?etS ?eS0 ?eS1 ?eS2 ?eS3 ?atA ?etA ?eA0 ?eA1 ?eA2 ?eA3 ?atL ?etL ?eL0 ?eL1 ?eL2 ?eL3 ?eL4 ?eL5 ?eL6 ?eL7 ?atW ?etW
    (case a10 => k_is); (case l10 => k_is); (case c10 => k_is); (case k10 => k_is); (case a11 => k_is); (case l11 => k_is); (case c11 => k_is); (case k11 => k_is)
    (case a12 => k_is); (case l12 => k_is); (case c12 => k_is); (case k12 => k_is); (case a13 => k_is); (case l13 => k_is); (case c13 => k_is); (case k13 => k_is)
    (case a14 => k_is); (case l14 => k_is); (case c14 => k_is); (case k14 => k_is); (case a17 => k_is); (case l17 => k_is); (case c17 => k_is); (case k17 => k_is)
    (case a18 => k_is); (case l18 => k_is); (case c18 => k_is); (case k18 => k_is); (case a19 => k_is); (case l19 => k_is); (case c19 => k_is); (case k19 => k_is)
    (case a20 => k_is); (case l20 => k_is); (case c20 => k_is); (case k20 => k_is); (case a21 => k_is); (case l21 => k_is); (case c21 => k_is); (case k21 => k_is)
    (case a22 => k_is); (case l22 => k_is); (case c22 => k_is); (case k22 => k_is); (case a23 => k_is); (case l23 => k_is); (case c23 => k_is); (case k23 => k_is)
    (case a24 => k_is); (case l24 => k_is); (case c24 => k_is); (case k24 => k_is); (case a25 => k_is); (case l25 => k_is); (case c25 => k_is); (case k25 => k_is)
    (case a26 => k_is); (case l26 => k_is); (case c26 => k_is); (case k26 => k_is); (case a27 => k_is); (case l27 => k_is); (case c27 => k_is); (case k27 => k_is)
    (case a28 => k_is); (case l28 => k_is); (case c28 => k_is); (case k28 => k_is); (case a29 => k_is); (case l29 => k_is); (case c29 => k_is); (case k29 => k_is)
    (case a30 => k_is); (case l30 => k_is); (case c30 => k_is); (case k30 => k_is); (case a31 => k_is); (case l31 => k_is); (case c31 => k_is); (case k31 => k_is)
    (case a32 => k_is); (case l32 => k_is); (case c32 => k_is); (case k32 => k_is); (case a36 => k_is); (case l36 => k_is); (case c36 => k_is); (case k36 => k_is)
    (case a37 => k_is); (case l37 => k_is); (case c37 => k_is); (case k37 => k_is); (case a38 => k_is); (case l38 => k_is); (case c38 => k_is); (case k38 => k_is)
    (case a39 => k_is); (case l39 => k_is); (case c39 => k_is); (case k39 => k_is); (case a47 => k_is); (case l47 => k_is); (case c47 => k_is); (case k47 => k_is)
    (case a48 => k_is); (case l48 => k_is); (case c48 => k_is); (case k48 => k_is); (case a49 => k_is); (case l49 => k_is); (case c49 => k_is); (case k49 => k_is)
    (case a50 => k_is); (case l50 => k_is); (case c50 => k_is); (case k50 => k_is); (case acB => k_is); (case aB => k_is); (case iB => k_is); (case lB => k_is)
    (case cB => k_is); (case kB => k_is); (case pgB => k_is); (case hdB => k_is); (case poB => k_is); (case saB => k_is); (case mkB => k_is); (case kcB => k_is)
    (case nB_s => k_is); (case nB_off => k_is); (case nB_beside => k_is); (case nB_lines => k_is); (case acG => k_is); (case aG => k_is); (case iG => k_is); (case lG => k_is)
    (case cG => k_is); (case kG => k_is); (case pgG => k_is); (case hdG => k_is); (case poG => k_is); (case saG => k_is); (case mkG => k_is); (case kcG => k_is)
    (case nG_board => k_is); (case nG_pieces => k_is); (case nG_checks => k_is); (case nG_wins => k_is); (case nG_loses => k_is); (case nG_left => k_is); (case acD => k_is); (case aD => k_is)
    (case iD => k_is); (case lD => k_is); (case cD => k_is); (case kD => k_is); (case pgD => k_is); (case hdD => k_is); (case poD => k_is); (case saD => k_is)
    (case mkD => k_is); (case kcD => k_is); (case nD_game => k_is); (case v_NONE => k_is); (case v_QUEEN => k_is); (case v_ROOK => k_is); (case v_BISHOP => k_is); (case v_KNIGHT => k_is)
    (case v_NO_POSITION => k_is); (case v_NOT_LOST => k_is); (case v_NOT_RIGHT => k_is); (case v_LEAST_SIDE => k_is); (case v_MOST_SIDE => k_is); (case v_BUILD => k_is); (case b_len => k_is); (case b_set => k_is)
    (case b_list => k_is); (case b_range => k_is); (case b_sorted => k_is); (case b_max => k_is); (case b_tuple => k_is); (case atS => k_is); (case etS => k_is); (case eS0 => k_is)
    (case eS1 => k_is); (case eS2 => k_is); (case eS3 => k_is); (case atA => k_is); (case etA => k_is); (case eA0 => k_is); (case eA1 => k_is); (case eA2 => k_is)
    (case eA3 => k_is); (case atL => k_is); (case etL => k_is); (case eL0 => k_is); (case eL1 => k_is); (case eL2 => k_is); (case eL3 => k_is); (case eL4 => k_is)
    (case eL5 => k_is); (case eL6 => k_is); (case eL7 => k_is); (case atW => k_is); (case etW => k_is)
  case S =>
    intro K H xs a hO hwi hask hx
    cases hx with
    | cons h1 h2 =>
      cases h2
      cases h1 with
      | lst hs ha =>
        have e := L2.ints_dw a.1 _ ha
        subst e
        exact ⟨_, a.1, rfl, hs, hask, fun H' p hp => .lst (L2.SqL.of hp) (L2.dw_ints _)⟩
#print axioms PySem.Challenge.cw_chessends_s01_answers_holds
