import PyProof.Rows.All
import Wide.All
import OpenK.AllK
import Wide.FinOn
import Open.SpecLaws
import KE.OsHead
import KE.OsGo
import HandS.ForSpec
import HandS.Comp
import HandS.Iter
import HandS.Walk
import HandS.Style
import PySem.Challenge.RW_stormgate_s01_answers
set_option Elab.async false
set_option maxRecDepth 100000
set_option maxHeartbeats 4000000
namespace Sg
open Sj03 (Storm Hour)

/-! ### folds over two ranges -/
def goX {α : Type} (f : α → Nat → Nat → α) (a : α) (o n : Nat) : α := (List.range n).foldl (fun b x => f b o x) a
def goO {α : Type} (f : α → Nat → Nat → α) (a : α) (n i : Nat) : α := (List.range i).foldl (fun b o => goX f b o n) a
theorem goX_zero {α : Type} (f : α → Nat → Nat → α) (a : α) (o : Nat) : goX f a o 0 = a := rfl
theorem goX_succ {α : Type} (f : α → Nat → Nat → α) (a : α) (o n : Nat) : goX f a o (n + 1) = f (goX f a o n) o n := by
  unfold goX
  rw [List.range_succ, List.foldl_append]
  rfl
theorem goO_zero {α : Type} (f : α → Nat → Nat → α) (a : α) (n : Nat) : goO f a n 0 = a := rfl
theorem goO_succ {α : Type} (f : α → Nat → Nat → α) (a : α) (n i : Nat) : goO f a n (i + 1) = goX f (goO f a n i) i n := by
  unfold goO
  rw [List.range_succ, List.foldl_append]
  rfl
theorem goX_inv {α : Type} {f : α → Nat → Nat → α} {I : α → Prop} {o n : Nat} (h : ∀ a x, x < n → I a → I (f a o x)) : ∀ (k : Nat) (a : α), k ≤ n → I a → I (goX f a o k)
  | 0, _, _, ha => ha
  | k + 1, a, hk, ha => by
    rw [goX_succ]
    exact h _ k hk (goX_inv h k a (by omega) ha)
theorem goO_inv {α : Type} {f : α → Nat → Nat → α} {I : α → Prop} {n m : Nat} (h : ∀ a o x, o < m → x < n → I a → I (f a o x)) : ∀ (k : Nat) (a : α), k ≤ m → I a → I (goO f a n k)
  | 0, _, _, ha => ha
  | k + 1, a, hk, ha => by
    rw [goO_succ]
    exact goX_inv (fun b x hx hb => h b k x hk hx hb) n _ (Nat.le_refl _) (goO_inv h k a (by omega) ha)
/-- a state that turns true once and stays so -/
theorem goX_some {α : Type} {f : α → Nat → Nat → α} {I : α → Prop} {C : Nat → Nat → Prop} {o : Nat} (hf : ∀ a x, I (f a o x) ↔ I a ∨ C o x) : ∀ (n : Nat) (a : α), I (goX f a o n) ↔ I a ∨ ∃ x, x < n ∧ C o x
  | 0, a => by
    rw [goX_zero]
    exact ⟨.inl, fun h => h.elim id fun ⟨_, h, _⟩ => absurd h (Nat.not_lt_zero _)⟩
  | n + 1, a => by
    rw [goX_succ, hf, goX_some hf n a]
    constructor
    · rintro ((h | ⟨x, h1, h2⟩) | h)
      · exact .inl h
      · exact .inr ⟨x, by omega, h2⟩
      · exact .inr ⟨n, by omega, h⟩
    · rintro (h | ⟨x, h1, h2⟩)
      · exact .inl (.inl h)
      · by_cases e : x = n
        · subst e
          exact .inr h2
        · exact .inl (.inr ⟨x, by omega, h2⟩)
theorem goO_some {α : Type} {f : α → Nat → Nat → α} {I : α → Prop} {C : Nat → Nat → Prop} (hf : ∀ a o x, I (f a o x) ↔ I a ∨ C o x) (n : Nat) : ∀ (m : Nat) (a : α), I (goO f a n m) ↔ I a ∨ ∃ o x, o < m ∧ x < n ∧ C o x
  | 0, a => by
    rw [goO_zero]
    exact ⟨.inl, fun h => h.elim id fun ⟨_, _, h, _⟩ => absurd h (Nat.not_lt_zero _)⟩
  | m + 1, a => by
    rw [goO_succ, goX_some (fun b x => hf b m x), goO_some hf n m a]
    constructor
    · rintro ((h | ⟨o, x, h1, h2, h3⟩) | ⟨x, h1, h2⟩)
      · exact .inl h
      · exact .inr ⟨o, x, by omega, h2, h3⟩
      · exact .inr ⟨m, x, by omega, h1, h2⟩
    · rintro (h | ⟨o, x, h1, h2, h3⟩)
      · exact .inl (.inl h)
      · by_cases e : o = m
        · subst e
          exact .inr ⟨x, h2, h3⟩
        · exact .inl (.inr ⟨o, x, by omega, h2, h3⟩)

/-! ### one hour -/
/-- how high it stands behind an hour, as the program has it: below 0, if too much is pumped -/
def lvl (s : Storm) (h : Hour) (w o x : Nat) : Int := ((s.gate w h o).1 : Int) - (x : Int)
def wrongI (s : Storm) (x : Nat) (u : Int) : Int := if s.pumps < x then 1 else if u < (s.low : Int) then 2 else if (s.high : Int) < u then 3 else 0
theorem wrongI_is (s : Storm) (h : Hour) (w o x : Nat) : wrongI s x (lvl s h w o x) = ((s.wrong w h o x : Nat) : Int) := by
  unfold wrongI lvl Sj03.Storm.wrong
  dsimp only
  by_cases h1 : s.pumps < x
  · rw [if_pos h1, if_pos h1]; rfl
  · rw [if_neg h1, if_neg h1]
    by_cases h2 : (s.gate w h o).1 < s.low + x
    · rw [if_pos h2, if_pos (by omega)]; rfl
    · rw [if_neg h2, if_neg (by omega)]
      by_cases h3 : s.high + x < (s.gate w h o).1
      · rw [if_pos h3, if_pos (by omega)]; rfl
      · rw [if_neg h3, if_neg (by omega)]; rfl
theorem wrong_zero {s : Storm} {h : Hour} {w o x : Nat} : s.wrong w h o x = 0 ↔ x ≤ s.pumps ∧ s.low + x ≤ (s.gate w h o).1 ∧ (s.gate w h o).1 ≤ s.high + x := by
  unfold Sj03.Storm.wrong
  dsimp only
  split
  · omega
  · split
    · omega
    · split
      · omega
      · omega
theorem lvl_nat {s : Storm} {h : Hour} {w o x : Nat} (z : s.wrong w h o x = 0) : lvl s h w o x = (((s.gate w h o).1 - x : Nat) : Int) := by
  have q := wrong_zero.mp z
  unfold lvl
  omega

/-! ### the entries -/
def opt (s : Storm) (h : Hour) (w : Nat) (f : Nat → Option Si97.Best) (o x : Nat) : Option Si97.Best :=
  if s.wrong w h o x ≠ 0 then none else (f ((s.gate w h o).1 - x)).map fun b => (⟨s.pays w h o x + b.cost, b.many, o :: x :: b.row⟩ : Si97.Best)
def stepE (s : Storm) (h : Hour) (w : Nat) (f : Nat → Option Si97.Best) (a : Option Si97.Best) (o x : Nat) : Option Si97.Best := Si97.lesser a (opt s h w f o x)
def cand (s : Storm) (h : Hour) (w : Nat) (f : Nat → Option Si97.Best) : Option Si97.Best := goO (stepE s h w f) none (s.pumps + 1) 2
def ent (s : Storm) : List Hour → Nat → Option Si97.Best
  | [], _ => some ⟨0, 1, []⟩
  | h :: hs, w => cand s h w (ent s hs)
theorem foldl_flat {α β γ : Type} (f : γ → β → γ) (g : α → List β) : ∀ (l : List α) (a : γ), (l.flatMap g).foldl f a = l.foldl (fun b x => (g x).foldl f b) a
  | [], _ => rfl
  | x :: r, a => by
    rw [List.flatMap_cons, List.foldl_append, foldl_flat f g r, List.foldl_cons]
theorem from_is (s : Storm) (later : Sj03.Table) (h : Hour) (w : Nat) : s.from_ later h w = cand s h w (fun u => later.getD u none) := by
  unfold Sj03.Storm.from_ cand goO goX stepE
  rw [foldl_flat]
  congr 1
  funext b o
  rw [List.foldl_map]
  rfl
theorem opt_congr {s : Storm} {h : Hour} {w : Nat} {f g : Nat → Option Si97.Best} (e : ∀ u, u ≤ s.high → f u = g u) (o x : Nat) : opt s h w f o x = opt s h w g o x := by
  unfold opt
  by_cases z : s.wrong w h o x = 0
  · rw [if_neg (by simp [z]), if_neg (by simp [z]), e _ (by have := wrong_zero.mp z; omega)]
  · rw [if_pos z, if_pos z]
theorem cand_congr {s : Storm} {h : Hour} {w : Nat} {f g : Nat → Option Si97.Best} (e : ∀ u, u ≤ s.high → f u = g u) : cand s h w f = cand s h w g := by
  unfold cand
  have : stepE s h w f = stepE s h w g := by
    funext a o x
    unfold stepE
    rw [opt_congr e]
  rw [this]
theorem table_ent (s : Storm) : ∀ (hs : List Hour) (w : Nat), w < s.levels → (s.table hs).getD w none = ent s hs w
  | [], w, hw => by
    unfold Sj03.Storm.table ent
    rw [List.getD_eq_getElem?_getD, List.getElem?_replicate, if_pos hw]
    rfl
  | h :: hs, w, hw => by
    unfold Sj03.Storm.table ent
    dsimp only
    rw [List.getD_eq_getElem?_getD, List.getElem?_map, List.getElem?_range hw]
    show s.from_ (s.table hs) h w = _
    rw [from_is]
    refine cand_congr fun u hu => ?_
    exact table_ent s hs u (by unfold Sj03.Storm.levels; omega)
theorem best_ent (s : Storm) : s.best = ent s s.hours s.stands := table_ent s s.hours s.stands (by unfold Sj03.Storm.levels; omega)
/-- where there is a best, there is one plan at the least -/
def Many (a : Option Si97.Best) : Prop := ∀ b, a = some b → 0 < b.many
theorem many_none : Many none := fun _ h => nomatch h
theorem many_lesser {a b : Option Si97.Best} (ha : Many a) (hb : Many b) : Many (Si97.lesser a b) := by
  cases a with
  | none => cases b <;> exact hb
  | some x =>
    cases b with
    | none => exact ha
    | some y =>
      intro z hz
      have h1 := ha x rfl
      have h2 := hb y rfl
      unfold Si97.lesser at hz
      dsimp only at hz
      split at hz
      · cases hz; exact h2
      · split at hz
        · cases hz
          show 0 < x.many + y.many
          omega
        · cases hz; exact h1
theorem many_opt {s : Storm} {h : Hour} {w : Nat} {f : Nat → Option Si97.Best} (hf : ∀ u, Many (f u)) (o x : Nat) : Many (opt s h w f o x) := by
  unfold opt
  split
  · exact many_none
  · intro b hb
    cases e : f ((s.gate w h o).1 - x) with
    | none => rw [e] at hb; cases hb
    | some c =>
      rw [e] at hb
      cases hb
      exact hf _ c e
theorem many_goX {s : Storm} {h : Hour} {w : Nat} {f : Nat → Option Si97.Best} (hf : ∀ u, Many (f u)) {a : Option Si97.Best} (ha : Many a) (o n : Nat) : Many (goX (stepE s h w f) a o n) :=
  goX_inv (I := Many) (n := n) (fun _ x _ hb => many_lesser hb (many_opt hf o x)) n a (Nat.le_refl _) ha
theorem many_goO {s : Storm} {h : Hour} {w : Nat} {f : Nat → Option Si97.Best} (hf : ∀ u, Many (f u)) {a : Option Si97.Best} (ha : Many a) (n i : Nat) : Many (goO (stepE s h w f) a n i) :=
  goO_inv (I := Many) (m := i) (n := n) (fun _ o x _ _ hb => many_lesser hb (many_opt hf o x)) i a (Nat.le_refl _) ha
theorem many_ent (s : Storm) : ∀ (hs : List Hour) (w : Nat), Many (ent s hs w)
  | [], _ => fun b h => by
    cases h
    exact Nat.one_pos
  | h :: hs, w => many_goO (many_ent s hs) many_none _ _
/-- an entry as the program has it -/
def quad : Option Si97.Best → List Int
  | none => [0, 0, 0, 0]
  | some b => [((b.cost : Nat) : Int), ((b.many : Nat) : Int), ((b.row.getD 0 0 : Nat) : Int), ((b.row.getD 1 0 : Nat) : Int)]
/-- the best of an hour begins with doings that can be, and goes on with the best behind them -/
def Begins (s : Storm) (h : Hour) (w : Nat) (f : Nat → Option Si97.Best) (a : Option Si97.Best) : Prop :=
  ∀ b, a = some b → ∃ o x c, s.wrong w h o x = 0 ∧ f ((s.gate w h o).1 - x) = some c ∧ b.row = o :: x :: c.row
theorem begins_lesser {s : Storm} {h : Hour} {w : Nat} {f : Nat → Option Si97.Best} {a b : Option Si97.Best} (ha : Begins s h w f a) (hb : Begins s h w f b) : Begins s h w f (Si97.lesser a b) := by
  cases a with
  | none => cases b <;> exact hb
  | some x =>
    cases b with
    | none => exact ha
    | some y =>
      intro z hz
      have h1 := ha x rfl
      have h2 := hb y rfl
      unfold Si97.lesser at hz
      dsimp only at hz
      split at hz
      · cases hz; exact h2
      · split at hz
        · cases hz; exact h1
        · cases hz; exact h1
theorem begins_opt {s : Storm} {h : Hour} {w : Nat} {f : Nat → Option Si97.Best} (o x : Nat) : Begins s h w f (opt s h w f o x) := by
  unfold opt
  by_cases z : s.wrong w h o x = 0
  · rw [if_neg (by simp [z])]
    intro b hb
    cases e : f ((s.gate w h o).1 - x) with
    | none => rw [e] at hb; cases hb
    | some c =>
      rw [e] at hb
      cases hb
      exact ⟨o, x, c, z, e, rfl⟩
  · rw [if_pos z]
    exact fun b hb => nomatch hb
theorem begins_cand (s : Storm) (h : Hour) (w : Nat) (f : Nat → Option Si97.Best) : Begins s h w f (cand s h w f) :=
  goO_inv (m := 2) (n := s.pumps + 1) (fun _ o x _ _ hb => begins_lesser hb (begins_opt o x)) 2 none (Nat.le_refl _) fun _ h => nomatch h

/-! ### how high it has to be let stand -/
def high (s : Storm) (n : Nat) : Storm := { s with high := n }
def stepN (s : Storm) (h : Hour) (w : Nat) (f : Nat → Nat) (a : Nat) (o x : Nat) : Nat := if s.wrong w h o x ≠ 0 then a else min a (max ((s.gate w h o).1 - x) (f ((s.gate w h o).1 - x)))
/-- over a storm whose high is the top -/
def need (s : Storm) : List Hour → Nat → Nat
  | [], _ => s.low
  | h :: hs, w => goO (stepN s h w (need s hs)) 61 (s.pumps + 1) 2
theorem gate_high (s : Storm) (n : Nat) (w : Nat) (h : Hour) (o : Nat) : (high s n).gate w h o = s.gate w h o := rfl
theorem stepN_le {s : Storm} {h : Hour} {w : Nat} {f : Nat → Nat} {a o x n : Nat} : stepN s h w f a o x ≤ n ↔ a ≤ n ∨ (s.wrong w h o x = 0 ∧ (s.gate w h o).1 - x ≤ n ∧ f ((s.gate w h o).1 - x) ≤ n) := by
  unfold stepN
  by_cases z : s.wrong w h o x = 0
  · rw [if_neg (by simp [z])]
    constructor
    · intro q
      by_cases e : a ≤ n
      · exact .inl e
      · exact .inr ⟨z, by omega, by omega⟩
    · rintro (q | ⟨_, q1, q2⟩)
      · omega
      · omega
  · rw [if_pos z]
    exact ⟨.inl, fun q => q.elim id fun ⟨e, _⟩ => absurd e z⟩
theorem lesser_some {a b : Option Si97.Best} : (Si97.lesser a b).isSome = true ↔ a.isSome = true ∨ b.isSome = true := by
  cases a with
  | none => cases b <;> simp [Si97.lesser]
  | some x =>
    cases b with
    | none => simp [Si97.lesser]
    | some y =>
      unfold Si97.lesser
      dsimp only
      split
      · simp
      · split <;> simp
theorem opt_some {s : Storm} {h : Hour} {w : Nat} {f : Nat → Option Si97.Best} {o x : Nat} : (opt s h w f o x).isSome = true ↔ s.wrong w h o x = 0 ∧ (f ((s.gate w h o).1 - x)).isSome = true := by
  unfold opt
  by_cases z : s.wrong w h o x = 0
  · rw [if_neg (by simp [z])]
    simp [z]
  · rw [if_pos z]
    simp [z]
theorem need_is {s : Storm} {n : Nat} (hn : n ≤ 60) (hl : s.low ≤ n) : ∀ (hs : List Hour) (w : Nat), (ent (high s n) hs w).isSome = true ↔ need (high s 60) hs w ≤ n
  | [], w => by
    unfold ent need
    exact ⟨fun _ => hl, fun _ => rfl⟩
  | h :: hs, w => by
    unfold ent need cand
    rw [goO_some (f := stepE (high s n) h w (ent (high s n) hs)) (I := fun a => Option.isSome a = true) (C := fun o x => (opt (high s n) h w (ent (high s n) hs) o x).isSome = true) (fun a o x => lesser_some),
      goO_some (f := stepN (high s 60) h w (need (high s 60) hs)) (I := fun a => a ≤ n) (C := fun o x => (high s 60).wrong w h o x = 0 ∧ ((high s 60).gate w h o).1 - x ≤ n ∧ need (high s 60) hs (((high s 60).gate w h o).1 - x) ≤ n) (fun a o x => stepN_le)]
    constructor
    · rintro (q | ⟨o, x, h1, h2, q⟩)
      · cases q
      · obtain ⟨z, q⟩ := opt_some.mp q
        have z' := wrong_zero.mp z
        rw [gate_high] at z' q
        refine .inr ⟨o, x, h1, h2, wrong_zero.mpr ?_, ?_, ?_⟩
        · rw [gate_high]
          refine ⟨z'.1, z'.2.1, ?_⟩
          show _ ≤ 60 + x
          have : (s.gate w h o).1 ≤ n + x := z'.2.2
          omega
        · rw [gate_high]
          have : (s.gate w h o).1 ≤ n + x := z'.2.2
          omega
        · rw [gate_high]
          exact (need_is hn hl hs _).mp q
    · rintro (q | ⟨o, x, h1, h2, z, q1, q2⟩)
      · omega
      · refine .inr ⟨o, x, h1, h2, opt_some.mpr ⟨wrong_zero.mpr ?_, ?_⟩⟩
        · have z' := wrong_zero.mp z
          rw [gate_high] at z' q1
          rw [gate_high]
          refine ⟨z'.1, z'.2.1, ?_⟩
          show _ ≤ n + x
          omega
        · rw [gate_high] at q2
          rw [gate_high]
          exact (need_is hn hl hs _).mpr q2
theorem need_low (s : Storm) (hl : s.low ≤ 61) : ∀ (hs : List Hour) (w : Nat), s.low ≤ need s hs w
  | [], _ => Nat.le_refl _
  | h :: hs, w => by
    unfold need
    refine goO_inv (I := fun a => s.low ≤ a) (m := 2) (n := s.pumps + 1) (fun a o x _ _ ha => ?_) 2 61 (Nat.le_refl _) hl
    unfold stepN
    split
    · exact ha
    · have := need_low s hl hs ((s.gate w h o).1 - x)
      omega
theorem need_most (s : Storm) (hl : s.low ≤ 61) : ∀ (hs : List Hour) (w : Nat), need s hs w ≤ 61
  | [], _ => hl
  | h :: hs, w => by
    unfold need
    refine goO_inv (I := fun a => a ≤ 61) (m := 2) (n := s.pumps + 1) (fun a o x _ _ ha => ?_) 2 61 (Nat.le_refl _) (Nat.le_refl _)
    unfold stepN
    split
    · exact ha
    · omega
theorem find_range {p : Nat → Bool} {v m : Nat} (h : ∀ n, n < m → (p n = true ↔ v ≤ n)) : (List.range m).find? p = if v < m then some v else none := by
  by_cases hv : v < m
  · rw [if_pos hv, List.find?_range_eq_some]
    refine ⟨(h v hv).mpr (Nat.le_refl _), by simpa using hv, fun j hj => ?_⟩
    have : ¬ p j = true := fun q => absurd ((h j (by omega)).mp q) (by omega)
    simpa using this
  · rw [if_neg hv, List.find?_eq_none]
    intro n hn q
    have hn' : n < m := by simpa using hn
    exact absurd ((h n hn').mp q) (by omega)
theorem needs_is (s : Storm) (hl : s.low ≤ 61) : s.needs = if need (high s 60) s.hours s.stands < 61 then some (need (high s 60) s.hours s.stands) else none := by
  unfold Sj03.Storm.needs
  refine find_range fun n hn => ?_
  have hn' : n < 61 := hn
  rw [Bool.and_eq_true, decide_eq_true_eq]
  have e : ({ s with high := n } : Storm).best = ent (high s n) s.hours s.stands := best_ent (high s n)
  rw [e]
  constructor
  · rintro ⟨h1, h2⟩
    exact (need_is (by omega) h1 _ _).mp h2
  · intro q
    have h1 : s.low ≤ n := Nat.le_trans (need_low (high s 60) hl s.hours s.stands) q
    exact ⟨h1, (need_is (by omega) h1 _ _).mpr q⟩
end Sg

namespace Sg
open Sj03 (Storm Hour)

/-! ### the earliest plan, read off the entries -/
/-- the best at the start is what was read so far and then the best from here -/
def Read (s : Storm) (hs : List Hour) (b : Si97.Best) (i w : Nat) (pre : List Nat) : Prop := ∃ c, ent s (hs.drop i) w = some c ∧ b.row = pre ++ c.row
theorem drop_cons {α : Type} {l : List α} {i : Nat} {x : α} (h : l[i]? = some x) : l.drop i = x :: l.drop (i + 1) := by
  obtain ⟨hi, e⟩ := List.getElem?_eq_some_iff.mp h
  rw [List.drop_eq_getElem_cons hi, e]
theorem read_start {s : Storm} {hs : List Hour} {b : Si97.Best} {w : Nat} (h : ent s hs w = some b) : Read s hs b 0 w [] := ⟨b, h, rfl⟩
theorem read_step {s : Storm} {hs : List Hour} {b : Si97.Best} {i w : Nat} {pre : List Nat} {h : Hour} (hh : hs[i]? = some h) (r : Read s hs b i w pre) :
    ∃ (c : Si97.Best) (o x : Nat), ent s (hs.drop i) w = some c ∧ c.row.getD 0 0 = o ∧ c.row.getD 1 0 = x ∧ s.wrong w h o x = 0 ∧ Read s hs b (i + 1) ((s.gate w h o).1 - x) (pre ++ [o, x]) := by
  obtain ⟨c, hc, e⟩ := r
  have hc' := hc
  rw [drop_cons hh] at hc'
  obtain ⟨o, x, d, z, hd, er⟩ := begins_cand s h w _ c hc'
  refine ⟨c, o, x, hc, by rw [er]; rfl, by rw [er]; rfl, z, d, hd, ?_⟩
  rw [e, er, List.append_assoc]
  rfl
theorem read_end {s : Storm} {hs : List Hour} {b : Si97.Best} {w : Nat} {pre : List Nat} (r : Read s hs b hs.length w pre) : b.row = pre := by
  obtain ⟨c, hc, e⟩ := r
  rw [List.drop_length] at hc
  cases hc
  rw [e]
  exact List.append_nil _
theorem read_len {s : Storm} : ∀ (hs : List Hour) (w : Nat) (b : Si97.Best), ent s hs w = some b → b.row.length = 2 * hs.length
  | [], _, b, h => by
    cases h
    rfl
  | h :: hs, w, b, e => by
    obtain ⟨o, x, c, _, hc, er⟩ := begins_cand s h w _ b e
    rw [er]
    have := read_len hs _ c hc
    show c.row.length + 1 + 1 = 2 * (hs.length + 1)
    omega

/-! ### a plan that is handed in -/
theorem gates_all : ∀ (n : Nat) (l : List Nat), l.length = 2 * n → (((Sj03.gates l).all fun o => decide (o < 2)) = true ↔ ∀ j, j < n → ∀ o, l[2 * j]? = some o → o < 2)
  | 0, [], _ => ⟨fun _ j hj => absurd hj (Nat.not_lt_zero _), fun _ => rfl⟩
  | n + 1, [], h => by simp at h
  | n + 1, [a], h => by simp at h; omega
  | 0, _ :: _, h => by simp at h
  | n + 1, a :: b :: l, h => by
    have hl : l.length = 2 * n := by simp at h; omega
    show ((decide (a < 2)) && ((Sj03.gates l).all fun o => decide (o < 2))) = true ↔ _
    rw [Bool.and_eq_true, gates_all n l hl, decide_eq_true_eq]
    constructor
    · rintro ⟨h1, h2⟩ j hj o ho
      cases j with
      | zero =>
        cases ho
        exact h1
      | succ j => exact h2 j (by omega) o ho
    · intro q
      exact ⟨q 0 (by omega) a rfl, fun j hj o ho => q (j + 1) (by omega) o ho⟩
theorem told_iff {s : Storm} {l : List Nat} (hl : l.length = 2 * s.hours.length) : s.told l = true ↔ ∀ j, j < s.hours.length → ∀ o, l[2 * j]? = some o → o < 2 := by
  unfold Sj03.Storm.told
  rw [Bool.and_eq_true, gates_all _ l hl]
  exact ⟨fun h => h.2, fun h => ⟨by rw [hl]; exact beq_self_eq_true _, h⟩⟩
theorem told_len {s : Storm} {l : List Nat} (hl : ¬ l.length = 2 * s.hours.length) : s.told l = false := by
  unfold Sj03.Storm.told
  rw [beq_eq_false_iff_ne.mpr hl]
  rfl
/-- nothing was wrong so far: heights and costs so far, and then what comes -/
def Goes (s : Storm) (l : List Nat) (i w : Nat) (pre : List (Nat × Nat)) : Prop :=
  s.goes 0 s.stands s.hours l = match s.goes i w (s.hours.drop i) (l.drop (2 * i)) with
    | .error e => .error e
    | .ok r => .ok (pre ++ r)
theorem goes_start (s : Storm) (l : List Nat) : Goes s l 0 s.stands [] := by
  unfold Goes
  show s.goes 0 s.stands s.hours l = match s.goes 0 s.stands s.hours l with
    | .error e => .error e
    | .ok r => .ok ([] ++ r)
  cases s.goes 0 s.stands s.hours l <;> rfl
theorem goes_at {s : Storm} {l : List Nat} {i w : Nat} {h : Hour} {o x : Nat} (hh : s.hours[i]? = some h) (ho : l[2 * i]? = some o) (hx : l[2 * i + 1]? = some x) :
    s.goes i w (s.hours.drop i) (l.drop (2 * i)) = if s.wrong w h o x ≠ 0 then .error (i, s.wrong w h o x) else
      match s.goes (i + 1) ((s.gate w h o).1 - x) (s.hours.drop (i + 1)) (l.drop (2 * (i + 1))) with
      | .error e => .error e
      | .ok r => .ok (((s.gate w h o).1 - x, s.pays w h o x) :: r) := by
  rw [drop_cons hh, drop_cons ho, drop_cons hx]
  rfl
theorem goes_wrong {s : Storm} {l : List Nat} {i w : Nat} {pre : List (Nat × Nat)} {h : Hour} {o x : Nat} (hh : s.hours[i]? = some h) (ho : l[2 * i]? = some o) (hx : l[2 * i + 1]? = some x)
    (g : Goes s l i w pre) (z : s.wrong w h o x ≠ 0) : s.goes 0 s.stands s.hours l = .error (i, s.wrong w h o x) := by
  unfold Goes at g
  rw [goes_at hh ho hx, if_pos z] at g
  exact g
theorem goes_step {s : Storm} {l : List Nat} {i w : Nat} {pre : List (Nat × Nat)} {h : Hour} {o x : Nat} (hh : s.hours[i]? = some h) (ho : l[2 * i]? = some o) (hx : l[2 * i + 1]? = some x)
    (g : Goes s l i w pre) (z : s.wrong w h o x = 0) : Goes s l (i + 1) ((s.gate w h o).1 - x) (pre ++ [((s.gate w h o).1 - x, s.pays w h o x)]) := by
  unfold Goes at g ⊢
  rw [goes_at hh ho hx, if_neg (fun q => q z)] at g
  rw [g]
  cases s.goes (i + 1) ((s.gate w h o).1 - x) (s.hours.drop (i + 1)) (l.drop (2 * (i + 1))) with
  | error e => rfl
  | ok r =>
    dsimp only
    rw [List.append_assoc]
    rfl
theorem goes_end {s : Storm} {l : List Nat} {w : Nat} {pre : List (Nat × Nat)} (g : Goes s l s.hours.length w pre) : s.goes 0 s.stands s.hours l = .ok pre := by
  unfold Goes at g
  rw [g, List.drop_length]
  show (match Sj03.Storm.goes s s.hours.length w [] (l.drop (2 * s.hours.length)) with
    | .error e => .error e
    | .ok r => .ok (pre ++ r) : Except (Nat × Nat) (List (Nat × Nat))) = _
  unfold Sj03.Storm.goes
  dsimp only
  rw [List.append_nil]
theorem cost_ok {s : Storm} {l : List Nat} {r : List (Nat × Nat)} (h : s.goes 0 s.stands s.hours l = .ok r) : s.cost l = (r.map fun x => x.2).sum := by
  unfold Sj03.Storm.cost
  rw [h]
theorem sum_snoc : ∀ (l : List Nat) (z : Nat), (l ++ [z]).sum = l.sum + z
  | [], z => by simp
  | a :: l, z => by
    rw [List.cons_append, List.sum_cons, List.sum_cons, sum_snoc l z, Nat.add_assoc]

/-! ### a call's numbers -/
inductive Raw : List (List Int) → Prop where
  | begins (a b c d e f : Int) : Raw [[0, a, b, c, d, e, f]]
  | hour (a b c : Int) : Raw [[1, a, b, c]]
  | check (r : List Int) : Raw [[2], r]
  | best : Raw [[3]]
  | shut : Raw [[4]]
  | still : Raw [[5]]
  | needs : Raw [[6]]
/-- as the list has them -/
def flat : List (List Int) → List Int
  | [xs] => xs
  | [xs, r] => xs ++ ((r.length : Nat) : Int) :: r
  | _ => []
theorem take_six {r : List Int} (h : ¬ r.length < 6) : ∃ a b c d e f t, r = a :: b :: c :: d :: e :: f :: t := by
  match r, h with
  | a :: b :: c :: d :: e :: f :: t, _ => exact ⟨a, b, c, d, e, f, t, rfl⟩
  | [], h => exact absurd (by show 0 < 6; omega) h
  | [_], h => exact absurd (by show 1 < 6; omega) h
  | [_, _], h => exact absurd (by show 2 < 6; omega) h
  | [_, _, _], h => exact absurd (by show 3 < 6; omega) h
  | [_, _, _, _], h => exact absurd (by show 4 < 6; omega) h
  | [_, _, _, _, _], h => exact absurd (by show 5 < 6; omega) h
theorem take_three {r : List Int} (h : ¬ r.length < 3) : ∃ a b c t, r = a :: b :: c :: t := by
  match r, h with
  | a :: b :: c :: t, _ => exact ⟨a, b, c, t, rfl⟩
  | [], h => exact absurd (by show 0 < 3; omega) h
  | [_], h => exact absurd (by show 1 < 3; omega) h
  | [_, _], h => exact absurd (by show 2 < 3; omega) h
theorem call_raw {l : List Int} {c : List (List Int)} {t : List Int} (h : PyFlat.call PySj03.shape l = some (c, t)) : Raw c ∧ l = flat c ++ t := by
  cases l with
  | nil => cases h
  | cons p r =>
    unfold PyFlat.call PySj03.shape at h
    dsimp only at h
    by_cases h0 : p = 0
    · subst h0
      rw [if_pos rfl] at h
      dsimp only at h
      split at h
      · cases h
      · rename_i hl
        obtain ⟨a, b, c', d, e, f, t', rfl⟩ := take_six hl
        cases h
        exact ⟨.begins a b c' d e f, rfl⟩
    rw [if_neg h0] at h
    by_cases h1 : p = 1
    · subst h1
      rw [if_pos rfl] at h
      dsimp only at h
      split at h
      · cases h
      · rename_i hl
        obtain ⟨a, b, c', t', rfl⟩ := take_three hl
        cases h
        exact ⟨.hour a b c', rfl⟩
    rw [if_neg h1] at h
    by_cases h2 : p = 2
    · subst h2
      rw [if_pos rfl] at h
      dsimp only at h
      rw [if_neg (Nat.not_lt_zero _)] at h
      cases r with
      | nil => cases h
      | cons n r =>
        by_cases hn : 0 ≤ n ∧ n.toNat ≤ r.length
        · have e : PyFlat.rows 1 (List.drop 0 (n :: r)) = some ([r.take n.toNat], r.drop n.toNat) := by
            show (match PyFlat.row (n :: r) with
              | none => none
              | some (x, s) => match PyFlat.rows 0 s with
                | none => none
                | some (xs, t) => some (x :: xs, t)) = _
            unfold PyFlat.row
            dsimp only
            rw [if_pos hn]
            rfl
          rw [e] at h
          cases h
          refine ⟨.check _, ?_⟩
          show (2 : Int) :: n :: r = 2 :: (((r.take n.toNat).length : Nat) : Int) :: (r.take n.toNat ++ r.drop n.toNat)
          rw [List.take_append_drop, List.length_take, Nat.min_eq_left hn.2, Int.toNat_of_nonneg hn.1]
        · have e : PyFlat.rows 1 (List.drop 0 (n :: r)) = none := by
            show (match PyFlat.row (n :: r) with
              | none => none
              | some (x, s) => match PyFlat.rows 0 s with
                | none => none
                | some (xs, t) => some (x :: xs, t)) = _
            unfold PyFlat.row
            dsimp only
            rw [if_neg hn]
          rw [e] at h
          cases h
    rw [if_neg h2] at h
    by_cases h3 : p = 3
    · subst h3
      rw [if_pos rfl] at h
      cases h
      exact ⟨.best, rfl⟩
    rw [if_neg h3] at h
    by_cases h4 : p = 4
    · subst h4
      rw [if_pos rfl] at h
      cases h
      exact ⟨.shut, rfl⟩
    rw [if_neg h4] at h
    by_cases h5 : p = 5
    · subst h5
      rw [if_pos rfl] at h
      cases h
      exact ⟨.still, rfl⟩
    rw [if_neg h5] at h
    by_cases h6 : p = 6
    · subst h6
      rw [if_pos rfl] at h
      cases h
      exact ⟨.needs, rfl⟩
    rw [if_neg h6] at h
    cases h
/-- what stands in the list are the calls, one behind another -/
theorem calls_raw : ∀ (f : Nat) (l : List Int) (cs : List (List (List Int))), PyFlat.calls PySj03.shape f l = some cs → (∀ c ∈ cs, Raw c) ∧ l = (cs.map flat).flatten
  | n, [], cs, h => by
    have e : PyFlat.calls PySj03.shape n [] = some [] := by cases n <;> rfl
    rw [e] at h
    cases h
    exact ⟨fun c hc => absurd hc (by simp), rfl⟩
  | 0, _ :: _, cs, h => nomatch h
  | f + 1, p :: r, cs, h => by
    unfold PyFlat.calls at h
    cases e : PyFlat.call PySj03.shape (p :: r) with
    | none => rw [e] at h; cases h
    | some q =>
      obtain ⟨c, t⟩ := q
      rw [e] at h
      dsimp only at h
      cases e2 : PyFlat.calls PySj03.shape f t with
      | none => rw [e2] at h; cases h
      | some ds =>
        rw [e2] at h
        cases h
        obtain ⟨h1, h2⟩ := call_raw e
        obtain ⟨h3, h4⟩ := calls_raw f t ds e2
        refine ⟨fun d hd => ?_, ?_⟩
        · cases hd with
          | head => exact h1
          | tail _ hd => exact h3 d hd
        · rw [h2, h4]
          rfl
/-- how many numbers the call takes that begins with these -/
def lenAt : List Int → Int
  | p :: r => if p = 0 then 7 else if p = 1 then 4 else if p = 2 then 2 + r.headD 0 else 1
  | [] => 1
theorem lenAt_is {c : List (List Int)} (h : Raw c) (t : List Int) : lenAt (flat c ++ t) = (((flat c).length : Nat) : Int) ∧ 0 < (flat c).length := by
  cases h with
  | check r =>
    refine ⟨?_, Nat.succ_pos _⟩
    show (2 : Int) + ((r.length : Nat) : Int) = ((r.length + 1 + 1 : Nat) : Int)
    omega
  | _ => exact ⟨rfl, Nat.succ_pos _⟩

/-! ### what each call answers -/
/-- the storm's numbers are as told -/
structure Ok (s : Storm) : Prop where
  st : s.stands ≤ 60
  lh : s.low ≤ s.high
  hi : s.high ≤ 60
  pu : s.pumps ≤ 12
  wi : s.wide ≤ 100
  sa : s.salt ≤ 100
  hr : s.hours.length ≤ 6
theorem ok_init : Ok Sj03.init := ⟨by decide, by decide, by decide, by decide, by decide, by decide, by decide⟩
theorem ok_step {s : Storm} (h : Ok s) (q : Sj03.Call) : Ok (Sj03.step s q).1 := by
  cases q with
  | begins a l hh c w t =>
    unfold Sj03.step
    dsimp only
    split
    · exact h
    · rename_i z
      simp only [Si97.MOST, Si97.PUMPS, Si99.SEA, Sj03.POWER, not_or, Nat.not_lt] at z
      exact ⟨z.1, z.2.2.1, z.2.1, z.2.2.2.1, z.2.2.2.2.1, z.2.2.2.2.2, Nat.zero_le _⟩
  | hour k =>
    unfold Sj03.step
    dsimp only
    split
    · exact h
    · split
      · exact h
      · rename_i z
        simp only [Sj03.HOURS, Nat.not_le] at z
        refine ⟨h.st, h.lh, h.hi, h.pu, h.wi, h.sa, ?_⟩
        show (s.hours ++ [k]).length ≤ 6
        rw [List.length_append]
        show s.hours.length + 1 ≤ 6
        omega
  | check l =>
    unfold Sj03.step
    dsimp only
    split <;> exact h
  | best => exact h
  | shut => exact h
  | still => exact h
  | needs => exact h
/-- what is told of a best -/
def toldOf : Option Si97.Best → List Int
  | none => [-6]
  | some b => ((b.cost : Nat) : Int) :: ((b.many : Nat) : Int) :: b.row.map fun (n : Nat) => (n : Int)
theorem toldOf_is (a : Option Si97.Best) : (Sj03.toldBest a).v :: (Sj03.toldBest a).l = toldOf a := by
  cases a <;> rfl
end Sg

namespace Sg
open Sj03 (Storm Hour)

/-- a call that may be asked: its numbers, and what the specification calls it -/
inductive Asked : List (List Int) → Sj03.Call → Prop where
  | begins (a b c d e f : Nat) : Asked [[0, (a : Int), (b : Int), (c : Int), (d : Int), (e : Int), (f : Int)]] (.begins a b c d e f)
  | hour (a b c : Nat) : Asked [[1, (a : Int), (b : Int), (c : Int)]] (.hour ⟨a, b, c⟩)
  | check (r : List Nat) (h : r.length ≤ 14) : Asked [[2], r.map fun (n : Nat) => (n : Int)] (.check r)
  | best : Asked [[3]] .best
  | shut : Asked [[4]] .shut
  | still : Asked [[5]] .still
  | needs : Asked [[6]] .needs
theorem Asked.raw {c : List (List Int)} {q : Sj03.Call} (h : Asked c q) : Raw c := by
  cases h with
  | begins a b c d e f => exact .begins ..
  | hour a b c => exact .hour ..
  | check r h => exact .check _
  | best => exact .best
  | shut => exact .shut
  | still => exact .still
  | needs => exact .needs
def ans (s : Storm) (q : Sj03.Call) : List Int := (Sj03.step s q).2.v :: (Sj03.step s q).2.l
theorem nat_of {z : Int} (h : Sj03Neutral.natural z 32 = true) : z = ((z.toNat : Nat) : Int) := by
  unfold Sj03Neutral.natural at h
  rw [Bool.and_eq_true, decide_eq_true_eq] at h
  omega
theorem nats_of : ∀ (l : List Int), (l.all fun (z : Int) => Sj03Neutral.natural z 32) = true → ∃ r : List Nat, l = r.map fun (n : Nat) => (n : Int)
  | [], _ => ⟨[], rfl⟩
  | z :: l, h => by
    rw [List.all_cons, Bool.and_eq_true] at h
    obtain ⟨r, e⟩ := nats_of l h.2
    exact ⟨z.toNat :: r, by rw [List.map_cons, ← e, ← nat_of h.1]⟩
theorem toNats (r : List Nat) : (r.map fun (n : Nat) => (n : Int)).map Int.toNat = r := by
  rw [List.map_map]
  conv => rhs; rw [← List.map_id r]
  rfl
theorem step_of {c : List (List Int)} {q : Sj03.Call} (s : Storm) (e : Sj03Neutral.callOf (c.headD []) = some q) : Sj03Neutral.step s c = ((Sj03.step s q).1, ans s q) := by
  unfold Sj03Neutral.step
  rw [e]
  rfl
theorem asked_of {c : List (List Int)} (h : Raw c) (ha : Sj03Neutral.asked1 (PySj03.whole c) = true) : ∃ q, Asked c q ∧ ∀ s, Sj03Neutral.step s (PySj03.whole c) = ((Sj03.step s q).1, ans s q) := by
  unfold Sj03Neutral.asked1 at ha
  rw [Bool.and_eq_true, Bool.and_eq_true] at ha
  obtain ⟨_, ha, hs⟩ := ha
  cases h with
  | begins a b c d e f =>
    have ha : ([0, a, b, c, d, e, f].all fun (z : Int) => Sj03Neutral.natural z 32) = true := ha
    simp only [List.all_cons, List.all_nil, Bool.and_eq_true] at ha
    obtain ⟨_, h1, h2, h3, h4, h5, h6, _⟩ := ha
    rw [nat_of h1, nat_of h2, nat_of h3, nat_of h4, nat_of h5, nat_of h6]
    exact ⟨_, .begins _ _ _ _ _ _, fun s => step_of s rfl⟩
  | hour a b c =>
    have ha : ([1, a, b, c].all fun (z : Int) => Sj03Neutral.natural z 32) = true := ha
    simp only [List.all_cons, List.all_nil, Bool.and_eq_true] at ha
    obtain ⟨_, h1, h2, h3, _⟩ := ha
    rw [nat_of h1, nat_of h2, nat_of h3]
    exact ⟨_, .hour _ _ _, fun s => step_of s rfl⟩
  | check r =>
    have ha : ((2 :: r).all fun (z : Int) => Sj03Neutral.natural z 32) = true := ha
    rw [List.all_cons, Bool.and_eq_true] at ha
    obtain ⟨r', rfl⟩ := nats_of r ha.2
    have e : Sj03Neutral.callOf (2 :: r'.map fun (n : Nat) => (n : Int)) = if r'.length ≤ 14 then some (.check r') else none := by
      unfold Sj03Neutral.callOf
      rw [List.map_cons, toNats]
      rfl
    have hs : (Sj03Neutral.callOf (2 :: r'.map fun (n : Nat) => (n : Int))).isSome = true := hs
    rw [e] at hs
    by_cases hl : r'.length ≤ 14
    · exact ⟨_, .check r' hl, fun s => step_of s (e.trans (if_pos hl))⟩
    · rw [if_neg hl] at hs
      cases hs
  | best => exact ⟨_, .best, fun s => step_of s rfl⟩
  | shut => exact ⟨_, .shut, fun s => step_of s rfl⟩
  | still => exact ⟨_, .still, fun s => step_of s rfl⟩
  | needs => exact ⟨_, .needs, fun s => step_of s rfl⟩
/-- all answers, one behind another -/
def play : Storm → List Sj03.Call → List Int
  | _, [] => []
  | s, q :: r => (((ans s q).length : Nat) : Int) :: ans s q ++ play (Sj03.step s q).1 r
theorem played_is : ∀ (cs : List (List (List Int))), (∀ c ∈ cs, Raw c) → (cs.map PySj03.whole).all Sj03Neutral.asked1 = true →
    ∃ qs : List Sj03.Call, qs.length = cs.length ∧ (∀ (i : Nat) c, cs[i]? = some c → ∃ q, qs[i]? = some q ∧ Asked c q) ∧ ∀ s, PyFlat.told (PyFlat.played Sj03Neutral.step s (cs.map PySj03.whole)) = play s qs
  | [], _, _ => ⟨[], rfl, fun i c h => by simp at h, fun s => rfl⟩
  | c :: cs, hr, ha => by
    rw [List.map_cons, List.all_cons, Bool.and_eq_true] at ha
    obtain ⟨q, hq, hs⟩ := asked_of (hr c (List.mem_cons_self ..)) ha.1
    obtain ⟨qs, hl, hi, hp⟩ := played_is cs (fun d hd => hr d (List.mem_cons_of_mem _ hd)) ha.2
    refine ⟨q :: qs, by rw [List.length_cons, List.length_cons, hl], fun i d h => ?_, fun s => ?_⟩
    · cases i with
      | zero =>
        cases h
        exact ⟨q, rfl, hq⟩
      | succ i => exact hi i d h
    · rw [List.map_cons]
      unfold PyFlat.played
      rw [hs s]
      show (((ans s q).length : Nat) : Int) :: ans s q ++ PyFlat.told (PyFlat.played Sj03Neutral.step (Sj03.step s q).1 (cs.map PySj03.whole)) = _
      rw [hp]
      rfl
/-- what is asked of what is handed in -/
theorem asked_all {ns : List Int} (h : PySj03.answers_asked ns = true) : ∃ (cs : List (List (List Int))) (qs : List Sj03.Call), ns = (cs.map flat).flatten ∧ qs.length = cs.length ∧
    (∀ (i : Nat) c, cs[i]? = some c → ∃ q, qs[i]? = some q ∧ Asked c q) ∧ PySj03.answers ns = play Sj03.init qs ∧ (play Sj03.init qs).length ≤ 10000000 := by
  unfold PySj03.answers_asked at h
  cases e : PyFlat.calls PySj03.shape ns.length ns with
  | none => rw [e] at h; cases h
  | some cs =>
    rw [e] at h
    simp only [Bool.and_eq_true] at h
    obtain ⟨⟨⟨_, _⟩, h1⟩, h2⟩ := h
    unfold Sj03Neutral.asked at h1
    rw [Bool.and_eq_true] at h1
    obtain ⟨hr, hf⟩ := calls_raw _ _ _ e
    obtain ⟨qs, hl, hi, hp⟩ := played_is cs hr h1.1
    have ea : PySj03.answers ns = play Sj03.init qs := by
      unfold PySj03.answers PySj03.calls
      rw [e]
      exact hp _
    refine ⟨cs, qs, hf, hl, hi, ea, ?_⟩
    unfold PyFlat.short at h2
    rw [ea, decide_eq_true_eq] at h2
    exact h2
end Sg

namespace Sg
open PySem PySem.Spec PyProof.Rows L2
open PySem.W (Codec)
open Sj03 (Storm Hour)

/-! ### the text by places -/
def top (i : Nat) : Stmt := PySem.Challenge.pw_stormgate_s01_answers.main.body.getD i (.Pass ⟨0, 0, 0, 0⟩)
abbrev sBInit : Stmt := inClass (top 5) 0
abbrev sAsTold : Stmt := top 6
abbrev sNoGate : Stmt := top 7
abbrev sNoPumps : Stmt := top 8
abbrev sUpTop : Stmt := top 9
abbrev sRuns : Stmt := top 11
abbrev sComes : Stmt := top 12
abbrev sBehind : Stmt := top 13
abbrev sCosts : Stmt := top 14
abbrev sWrong : Stmt := top 15
abbrev sNeedAt : Stmt := top 18
abbrev sNeeded : Stmt := top 19
abbrev sLenAt : Stmt := top 21
abbrev sCallsOf : Stmt := top 22
abbrev sSInit : Stmt := inClass (top 28) 0
abbrev sBegins : Stmt := inClass (top 28) 1
abbrev sTells : Stmt := inClass (top 28) 2
abbrev sTaken : Stmt := top 30
abbrev sEntry : Stmt := top 31
abbrev sTables : Stmt := top 32
abbrev sEarliest : Stmt := top 33
abbrev sCheapest : Stmt := top 34
abbrev sIsPlan : Stmt := top 36
abbrev sTryPlan : Stmt := top 37
abbrev sToldBy : Stmt := top 39
abbrev sAnswers : Stmt := top 40

/-! ### tests whose answer is known; fields -/
theorem if_true_of {c : Bool} {A B : Prop} (hc : c = true) (h : A) : if c = true then A else B := by
  rw [if_pos hc]
  exact h
theorem if_false_of {c : Bool} {A B : Prop} (hc : c = false) (h : B) : if c = true then A else B := by
  rw [hc, if_neg Bool.false_ne_true]
  exact h
theorem if_dec {c A B : Prop} [Decidable c] (h1 : c → A) (h2 : ¬ c → B) : if decide c = true then A else B := by
  by_cases h : c
  · exact if_true_of (decide_eq_true h) (h1 h)
  · exact if_false_of (decide_eq_false h) (h2 h)
theorem if_ndec {c A B : Prop} [Decidable c] (h1 : ¬ c → A) (h2 : c → B) : if (!decide c) = true then A else B := by
  by_cases h : c
  · exact if_false_of (by rw [decide_eq_true h]; rfl) (h2 h)
  · exact if_true_of (by rw [decide_eq_false h]; rfl) (h1 h)
theorem lk_here {k : Str} {v : V} {r : List (Str × V)} : List.lookup k ((k, v) :: r) = some v := by
  have e : (k == k) = true := beq_self_eq_true k
  simp only [List.lookup, e]
theorem lk_past {k g : Str} {v : V} {r : List (Str × V)} (h : (k == g) = false) : List.lookup k ((g, v) :: r) = List.lookup k r := by
  simp only [List.lookup, h]
theorem put_here {f : Str} {v x : V} {r : List (Str × V)} : putF f v ((f, x) :: r) = (f, v) :: r := if_pos rfl
theorem put_past {f g : Str} {v x : V} {r : List (Str × V)} (h : ¬ g = f) : putF f v ((g, x) :: r) = (g, x) :: putF f v r := if_neg h

/-! ### the heap -/
abbrev nat (n : Nat) : V := V.int ((n : Nat) : Int)
/-- the bounds' fields -/
def bF (s : Storm) : List (Str × V) := [("low", nat s.low), ("high", nat s.high), ("pumps", nat s.pumps), ("width", nat s.wide), ("salt", nat s.salt)]
theorem bF_low (s : Storm) : (bF s).lookup ("low" : Str) = some (nat s.low) := lk_here
theorem bF_high (s : Storm) : (bF s).lookup ("high" : Str) = some (nat s.high) := (lk_past (by decide +kernel)).trans lk_here
theorem bF_pumps (s : Storm) : (bF s).lookup ("pumps" : Str) = some (nat s.pumps) := (lk_past (by decide +kernel)).trans ((lk_past (by decide +kernel)).trans lk_here)
theorem bF_width (s : Storm) : (bF s).lookup ("width" : Str) = some (nat s.wide) := (lk_past (by decide +kernel)).trans ((lk_past (by decide +kernel)).trans ((lk_past (by decide +kernel)).trans lk_here))
theorem bF_salt (s : Storm) : (bF s).lookup ("salt" : Str) = some (nat s.salt) := (lk_past (by decide +kernel)).trans ((lk_past (by decide +kernel)).trans ((lk_past (by decide +kernel)).trans ((lk_past (by decide +kernel)).trans lk_here)))
theorem bF_new (s : Storm) : putF "salt" (nat s.salt) (putF "width" (nat s.wide) (putF "pumps" (nat s.pumps) (putF "high" (nat s.high) (putF "low" (nat s.low) [])))) = bF s := by
  have e1 : putF "low" (nat s.low) [] = [(("low" : Str), nat s.low)] := rfl
  have e2 : ∀ v, putF "high" v [(("low" : Str), nat s.low)] = ([("low", nat s.low), ("high", v)] : List (Str × V)) := fun v => (put_past (by decide +kernel)).trans rfl
  have e3 : ∀ v, putF "pumps" v [(("low" : Str), nat s.low), ("high", nat s.high)] = ([("low", nat s.low), ("high", nat s.high), ("pumps", v)] : List (Str × V)) := fun v => by
    rw [put_past (by decide +kernel), put_past (by decide +kernel)]
    rfl
  have e4 : ∀ v, putF "width" v [(("low" : Str), nat s.low), ("high", nat s.high), ("pumps", nat s.pumps)] = ([("low", nat s.low), ("high", nat s.high), ("pumps", nat s.pumps), ("width", v)] : List (Str × V)) := fun v => by
    rw [put_past (by decide +kernel), put_past (by decide +kernel), put_past (by decide +kernel)]
    rfl
  rw [e1, e2, e3, e4, put_past (by decide +kernel), put_past (by decide +kernel), put_past (by decide +kernel), put_past (by decide +kernel)]
  rfl
/-- the bounds of s stand at b -/
def BAt (C : Addr) (H : Hp) (b : Addr) (s : Storm) : Prop := ∃ dx, H b = some (.ins C dx (bF s))
theorem BAt.same {C : Addr} {H H' : Hp} {b : Addr} {s : Storm} (h : BAt C H b s) (e : Same H H') : BAt C H' b s := let ⟨dx, q⟩ := h; ⟨dx, e _ _ q⟩
/-- an hour -/
def HrAt (H : Hp) (p : Addr) (h : Hour) : Prop := H p = some (.tup [nat h.rain, nat h.sea, nat h.power])
/-- the hours -/
structure HrsAt (H : Hp) (l : Addr) (as : List Addr) (hs : List Hour) : Prop where
  lst : H l = some (.lst (as.map V.ref))
  len : as.length = hs.length
  at_ : ∀ (i : Nat) (h : Hour), hs[i]? = some h → ∃ p, as[i]? = some p ∧ HrAt H p h
theorem HrsAt.same {H H' : Hp} {l : Addr} {as : List Addr} {hs : List Hour} (h : HrsAt H l as hs) (e : Same H H') : HrsAt H' l as hs :=
  ⟨e _ _ h.lst, h.len, fun i k hk => let ⟨p, h1, h2⟩ := h.at_ i k hk; ⟨p, h1, e _ _ h2⟩⟩
/-- an entry -/
def QAt (H : Hp) (p : Addr) (a : Option Si97.Best) : Prop := H p = some (.tup ((quad a).map V.int))
/-- a table -/
structure TabAt (H : Hp) (l : Addr) (g : Nat → Option Si97.Best) : Prop where
  ex : ∃ as : List Addr, H l = some (.lst (as.map V.ref)) ∧ as.length = 61 ∧ ∀ u, u < 61 → ∃ p, as[u]? = some p ∧ QAt H p (g u)
theorem TabAt.same {H H' : Hp} {l : Addr} {g : Nat → Option Si97.Best} (h : TabAt H l g) (e : Same H H') : TabAt H' l g :=
  let ⟨as, h1, h2, h3⟩ := h.ex; ⟨as, e _ _ h1, h2, fun u hu => let ⟨p, q1, q2⟩ := h3 u hu; ⟨p, q1, e _ _ q2⟩⟩
/-- a row of needs -/
def RowAt (H : Hp) (l : Addr) (g : Nat → Nat) : Prop := H l = some (.lst ((List.range 61).map fun u => nat (g u)))
theorem same_upd {H : Hp} {p : Addr} {o : HO} (h : H p = none) : Same H (upd H p o) := fun b u e => by
  rw [upd_ne (ne_of_none e h)]
  exact e
/-- the storm's fields -/
def sF (st : Nat) (b l : Addr) : List (Str × V) := [("stands", nat st), ("bounds", .ref b), ("hours", .ref l)]
theorem sF_stands (st : Nat) (b l : Addr) : (sF st b l).lookup ("stands" : Str) = some (nat st) := lk_here
theorem sF_bounds (st : Nat) (b l : Addr) : (sF st b l).lookup ("bounds" : Str) = some (.ref b) := (lk_past (by decide +kernel)).trans lk_here
theorem sF_hours (st : Nat) (b l : Addr) : (sF st b l).lookup ("hours" : Str) = some (.ref l) := (lk_past (by decide +kernel)).trans ((lk_past (by decide +kernel)).trans lk_here)
theorem sF_begins (st : Nat) (b l : Addr) : (sF st b l).lookup ("begins" : Str) = none := (lk_past (by decide +kernel)).trans ((lk_past (by decide +kernel)).trans ((lk_past (by decide +kernel)).trans rfl))
theorem sF_tells (st : Nat) (b l : Addr) : (sF st b l).lookup ("tells" : Str) = none := (lk_past (by decide +kernel)).trans ((lk_past (by decide +kernel)).trans ((lk_past (by decide +kernel)).trans rfl))
theorem sF_put (st st' : Nat) (b b' l l' : Addr) : putF "hours" (.ref l') (putF "bounds" (.ref b') (putF "stands" (nat st') (sF st b l))) = sF st' b' l' := by
  unfold sF
  rw [put_here, put_past (by decide +kernel), put_here, put_past (by decide +kernel), put_past (by decide +kernel), put_here]
theorem sF_new (st' : Nat) (b' l' : Addr) : putF "hours" (.ref l') (putF "bounds" (.ref b') (putF "stands" (nat st') [])) = sF st' b' l' := by
  show putF "hours" (.ref l') (putF "bounds" (.ref b') [("stands", nat st')]) = _
  rw [put_past (by decide +kernel)]
  show putF "hours" (.ref l') (("stands", nat st') :: [("bounds", .ref b')]) = _
  rw [put_past (by decide +kernel), put_past (by decide +kernel)]
  rfl
/-- the storm s stands at a, its hours at l -/
def SAt (CS CB : Addr) (H : Hp) (a l : Addr) (s : Storm) : Prop := ∃ (dx b : Addr) (as : List Addr), H a = some (.ins CS dx (sF s.stands b l)) ∧ BAt CB H b s ∧ HrsAt H l as s.hours

/-! ### what the top has written -/
/-- a def of the top -/
structure Dn (K : PySem.W.Frag) (mg : Str → Option Value) (x : Str) (st : Stmt) (ps : List Str) (f : Addr) (fd : FuncData) : Prop where
  F : Fun K x x st f fd
  g : mg x = some (.ref f)
  b : Binds K fd ps []
structure Txt (K : PySem.W.Frag) (mg : Str → Option Value) (CB CS : Addr) : Prop where
  clB : Cls K CB
  nLow : NoAttr K CB "low"
  nHigh : NoAttr K CB "high"
  nPumps : NoAttr K CB "pumps"
  nWidth : NoAttr K CB "width"
  nSalt : NoAttr K CB "salt"
  gB : mg "Bounds" = some (.ref CB)
  clS : Cls K CS
  nStands : NoAttr K CS "stands"
  nBounds : NoAttr K CS "bounds"
  nHours : NoAttr K CS "hours"
  gS : mg "Storm" = some (.ref CS)
  top : ∃ t, mg "TOP" = some (.int 60 t)
  mostPumps : ∃ t, mg "MOST_PUMPS" = some (.int 12 t)
  mostWidth : ∃ t, mg "MOST_WIDTH" = some (.int 100 t)
  mostSalt : ∃ t, mg "MOST_SALT" = some (.int 100 t)
  noneCan : ∃ t, mg "NONE_CAN_BE" = some (.int 61 t)
  mostHours : ∃ t, mg "MOST_HOURS" = some (.int 6 t)
  mostRain : ∃ t, mg "MOST_RAIN" = some (.int 30 t)
  mostSea : ∃ t, mg "MOST_SEA" = some (.int 100 t)
  mostPrice : ∃ t, mg "MOST_PRICE" = some (.int 100 t)
  range : mg "range" = none
  len : mg "len" = none
  min : mg "min" = none
  max : mg "max" = none
  reversed : mg "reversed" = none
  enumerate : mg "enumerate" = none
theorem glob_int {X : Cx} {x : Str} {n : Int} {pos : Pos} (hg : Gl X x) (hm : ∃ t, X.mg x = some (.int n t)) (hd : (x == ("__debug__" : Str)) = false := by decide) : PE X (.Name x pos) (tC (.int n)) := by
  obtain ⟨t, ht⟩ := hm
  exact pe_glob hg ht ⟨t, rfl⟩ hd
end Sg

namespace Sg
open PySem PySem.Spec PyProof.Rows L2
open PySem.W (Codec)
open Sj03 (Storm Hour)

/-! ### how the gate's hour is reckoned -/
def outI (u e w : Int) : Int := if u < e then 0 else if w < u - e then w else u - e
def inI (u e w : Int) : Int := if e ≤ u then 0 else if w < e - u then w else e - u
theorem lvl_shut (s : Storm) (h : Hour) (w x : Nat) : lvl s h w 0 x = ((w : Int) + h.rain) - x := by
  unfold lvl Sj03.Storm.gate Si99.after
  rw [if_pos rfl]
  show (((w + h.rain : Nat) : Int)) - (x : Int) = _
  rw [Int.natCast_add]
theorem gate_open (s : Storm) (h : Hour) (w o : Nat) (ho : ¬ o = 0) : s.gate w h o = if h.sea ≤ w + h.rain then (w + h.rain - min s.wide (w + h.rain - h.sea), 0) else (w + h.rain + min s.wide (h.sea - (w + h.rain)), min s.wide (h.sea - (w + h.rain))) := by
  unfold Sj03.Storm.gate Si99.after
  rw [if_neg ho]
  rfl
theorem lvl_open (s : Storm) (h : Hour) (w o x : Nat) (ho : ¬ o = 0) : lvl s h w o x = ((w : Int) + h.rain) - outI ((w : Int) + h.rain) h.sea s.wide + inI ((w : Int) + h.rain) h.sea s.wide - x := by
  unfold lvl outI inI
  rw [gate_open s h w o ho]
  by_cases c : h.sea ≤ w + h.rain
  · have h1 : ¬ ((w : Int) + h.rain < h.sea) := by omega
    have h2 : (h.sea : Int) ≤ (w : Int) + h.rain := by omega
    rw [if_pos c, if_neg h1, if_pos h2]
    show ((w + h.rain - min s.wide (w + h.rain - h.sea) : Nat) : Int) - x = _
    by_cases c2 : (s.wide : Int) < (w : Int) + h.rain - h.sea
    · rw [if_pos c2]
      omega
    · rw [if_neg c2]
      omega
  · have h1 : (w : Int) + h.rain < h.sea := by omega
    have h2 : ¬ (h.sea : Int) ≤ (w : Int) + h.rain := by omega
    rw [if_neg c, if_pos h1, if_neg h2]
    show ((w + h.rain + min s.wide (h.sea - (w + h.rain)) : Nat) : Int) - x = _
    by_cases c2 : (s.wide : Int) < h.sea - ((w : Int) + h.rain)
    · rw [if_pos c2]
      omega
    · rw [if_neg c2]
      omega
theorem pays_shut (s : Storm) (h : Hour) (w x : Nat) : ((s.pays w h 0 x : Nat) : Int) = (h.power : Int) * x := by
  unfold Sj03.Storm.pays Sj03.Storm.gate Si99.after
  rw [if_pos rfl]
  show ((h.power * x + s.salt * 0 : Nat) : Int) = _
  rw [Nat.mul_zero, Nat.add_zero, Int.natCast_mul]
theorem pays_open (s : Storm) (h : Hour) (w o x : Nat) (ho : ¬ o = 0) : ((s.pays w h o x : Nat) : Int) = (h.power : Int) * x + (s.salt : Int) * inI ((w : Int) + h.rain) h.sea s.wide := by
  have e : (((s.gate w h o).2 : Nat) : Int) = inI ((w : Int) + h.rain) h.sea s.wide := by
    unfold inI
    rw [gate_open s h w o ho]
    by_cases c : h.sea ≤ w + h.rain
    · rw [if_pos c, if_pos (by omega)]
      rfl
    · rw [if_neg c, if_neg (by omega)]
      show ((min s.wide (h.sea - (w + h.rain)) : Nat) : Int) = _
      split <;> omega
  unfold Sj03.Storm.pays
  rw [Int.natCast_add, Int.natCast_mul, Int.natCast_mul, e]

/-! ### promises -/
def spRuns : Sp := fun vs H Q _ => ∃ u e w : Int, vs = [.int u, .int e, .int w] ∧ Q (.int (outI u e w)) H
def spComes : Sp := fun vs H Q _ => ∃ u e w : Int, vs = [.int u, .int e, .int w] ∧ Q (.int (inI u e w)) H
def spBehind (CB : Addr) : Sp := fun vs H Q _ => ∃ (b p : Addr) (s : Storm) (h : Hour) (w o x : Nat), vs = [.ref b, .ref p, nat w, nat o, nat x] ∧ BAt CB H b s ∧ HrAt H p h ∧ Q (.int (lvl s h w o x)) H
/-- the factors: the price and the salt are below 2 ^ 64 -/
def spCosts (CB : Addr) : Sp := fun vs H Q _ => ∃ (b p : Addr) (s : Storm) (h : Hour) (w o x : Nat), vs = [.ref b, .ref p, nat w, nat o, nat x] ∧ BAt CB H b s ∧ HrAt H p h ∧ (x ≤ 12 ∧ s.salt ≤ 100) ∧ Q (nat (s.pays w h o x)) H
def spWrong (CB : Addr) : Sp := fun vs H Q _ => ∃ (b : Addr) (s : Storm) (x : Nat) (u : Int), vs = [.ref b, nat x, .int u] ∧ BAt CB H b s ∧ Q (.int (wrongI s x u)) H

section
variable {P : Program} {w : World} {K : PySem.W.Frag} {mg : Str → Option Value} {base : Heap} {CB CS : Addr}
theorem scRuns : FnScope ["level", "sea", "width"] ["level", "sea", "width"] (defScope sRuns) := ⟨rfl, rfl, rfl, by decide +kernel, rfl, by decide +kernel, by decide +kernel⟩
theorem ok_runs {f : Addr} {fd : FuncData} (D : Dn K mg "runs_out" sRuns ["level", "sea", "width"] f fd) (T : Txt K mg CB CS) : FnOk P w K mg base CX0 1 f fd ["level", "sea", "width"] spRuns := by
  refine D.F.ok scRuns (fun vs H Q E h => ?_) (fun cdv A outer s H vs Q E hr h => ?_)
  · obtain ⟨u, e, w, rfl, _⟩ := h
    rfl
  · obtain ⟨u, e, w, rfl, k⟩ := h
    refine ⟨_, pss_cons (ps_if (pt_cmpR op_lt (pv 0) (pv 1) (nomark _)) (pss_one (ps_ret pe_int)) pss_nil)
      (pss_one (ps_ret (pe_callB (call_min2 rfl) (by rfl) T.min (by decide +kernel) (pa_cons (pe_op op_sub (pv 0) (pv 1)) (pa_cons (pv 2) pa_nil))))), ?_⟩
    refine ⟨_, rfl, _, rfl, _, _, rfl, rfl, _, rfl, if_dec (fun c => ?_) fun c => ?_⟩
    · unfold outI at k
      rw [if_pos c] at k
      exact k
    · unfold outI at k
      rw [if_neg c] at k
      exact ⟨_, rfl, _, rfl, _, _, rfl, rfl, _, rfl, _, _, rfl, k⟩
theorem scComes : FnScope ["level", "sea", "width"] ["level", "sea", "width"] (defScope sComes) := ⟨rfl, rfl, rfl, by decide +kernel, rfl, by decide +kernel, by decide +kernel⟩
theorem ok_comes {f : Addr} {fd : FuncData} (D : Dn K mg "comes_in" sComes ["level", "sea", "width"] f fd) (T : Txt K mg CB CS) : FnOk P w K mg base CX0 1 f fd ["level", "sea", "width"] spComes := by
  refine D.F.ok scComes (fun vs H Q E h => ?_) (fun cdv A outer s H vs Q E hr h => ?_)
  · obtain ⟨u, e, w, rfl, _⟩ := h
    rfl
  · obtain ⟨u, e, w, rfl, k⟩ := h
    refine ⟨_, pss_cons (ps_if (pt_cmpR op_ge (pv 0) (pv 1) (nomark _)) (pss_one (ps_ret pe_int)) pss_nil)
      (pss_one (ps_ret (pe_callB (call_min2 rfl) (by rfl) T.min (by decide +kernel) (pa_cons (pe_op op_sub (pv 1) (pv 0)) (pa_cons (pv 2) pa_nil))))), ?_⟩
    refine ⟨_, rfl, _, rfl, _, _, rfl, rfl, _, rfl, if_dec (fun c => ?_) fun c => ?_⟩
    · unfold inI at k
      rw [if_pos c] at k
      exact k
    · unfold inI at k
      rw [if_neg c] at k
      exact ⟨_, rfl, _, rfl, _, _, rfl, rfl, _, rfl, _, _, rfl, k⟩
theorem scBehind : FnScope ["bounds", "hour", "level", "gate", "pumped", "rain", "sea", "price", "rained"] ["bounds", "hour", "level", "gate", "pumped"] (defScope sBehind) := ⟨rfl, rfl, rfl, by decide +kernel, rfl, by decide +kernel, by decide +kernel⟩
theorem ok_behind {f f1 f2 : Addr} {fd fd1 fd2 : FuncData} (D : Dn K mg "behind" sBehind ["bounds", "hour", "level", "gate", "pumped"] f fd) (T : Txt K mg CB CS) (D1 : Dn K mg "runs_out" sRuns ["level", "sea", "width"] f1 fd1) (D2 : Dn K mg "comes_in" sComes ["level", "sea", "width"] f2 fd2) :
    FnOk P w K mg base CX0 2 f fd ["bounds", "hour", "level", "gate", "pumped"] (spBehind CB) := by
  have G1 : FnOk P w K mg base CX0 1 f1 fd1 ["level", "sea", "width"] spRuns := ok_runs D1 T
  have G2 : FnOk P w K mg base CX0 1 f2 fd2 ["level", "sea", "width"] spComes := ok_comes D2 T
  refine D.F.ok scBehind (fun vs H Q E h => ?_) (fun cdv A outer s H vs Q E hr h => ?_)
  · obtain ⟨b, p, s, h, w, o, x, rfl, _⟩ := h
    rfl
  · obtain ⟨b, p, s, h, w, o, x, rfl, ⟨dx, hb⟩, hh, k⟩ := h
    refine ⟨_, pss_cons (ps_asg (pv 1) (pg_tup rfl (pgs_cons (pg_name (i := 5) scBehind.nd rfl (Or.inl rfl)) (pgs_cons (pg_name (i := 6) scBehind.nd rfl (Or.inl rfl)) (pgs_cons (pg_name (i := 7) scBehind.nd rfl (Or.inl rfl)) pgs_nil)))))
      (pss_cons (ps_set (i := 8) scBehind.nd rfl (Or.inl rfl) (pe_op op_add (pv 2) (pv 5)))
      (pss_cons (ps_if (pt_cmpR op_eq (pv 3) pe_int (nomark _)) (pss_one (ps_ret (pe_op op_sub (pv 8) (pv 4)))) pss_nil)
      (pss_one (ps_ret (pe_op op_sub (pe_op op_add (pe_op op_sub (pv 8)
          (pe_call G1 hr rfl D1.g D1.F.kp D1.b .nil pass0 (pa_cons (pv 8) (pa_cons (pv 6) (pa_cons (pe_fld (pv 0) rfl) pa_nil)))))
          (pe_call G2 hr rfl D2.g D2.F.kp D2.b .nil pass0 (pa_cons (pv 8) (pa_cons (pv 6) (pa_cons (pe_fld (pv 0) rfl) pa_nil)))))
          (pv 4)))))), ?_⟩
    refine ⟨_, rfl, p, _, rfl, SqT.of hh, rfl, _, _, rfl, _, _, rfl, _, _, rfl, rfl, ?_⟩
    refine ⟨_, rfl, _, rfl, _, _, rfl, rfl, ?_⟩
    refine ⟨_, rfl, rfl, _, rfl, if_dec (fun c => ?_) fun c => ?_⟩
    · have e : o = 0 := by
        have := V.int.inj c
        omega
      subst e
      rw [lvl_shut] at k
      exact ⟨_, rfl, _, rfl, _, _, rfl, rfl, k⟩
    · have e : ¬ o = 0 := fun z => c (by rw [z]; rfl)
      rw [lvl_open s h w o x e] at k
      refine ⟨_, rfl, _, rfl, _, rfl, _, rfl, b, CB, dx, _, _, rfl, hb, T.clB, T.nWidth, bF_width s, _, _, _, rfl, _, _, rfl, rfl, ?_⟩
      refine ⟨_, rfl, _, rfl, _, rfl, b, CB, dx, _, _, rfl, hb, T.clB, T.nWidth, bF_width s, _, _, _, rfl, _, _, rfl, rfl, ?_⟩
      exact ⟨_, rfl, _, _, rfl, rfl, k⟩
theorem scCosts : FnScope ["bounds", "hour", "level", "gate", "pumped", "rain", "sea", "price"] ["bounds", "hour", "level", "gate", "pumped"] (defScope sCosts) := ⟨rfl, rfl, rfl, by decide +kernel, rfl, by decide +kernel, by decide +kernel⟩
theorem ok_costs {f f2 : Addr} {fd fd2 : FuncData} (D : Dn K mg "costs" sCosts ["bounds", "hour", "level", "gate", "pumped"] f fd) (T : Txt K mg CB CS) (D2 : Dn K mg "comes_in" sComes ["level", "sea", "width"] f2 fd2) :
    FnOk P w K mg base CX0 2 f fd ["bounds", "hour", "level", "gate", "pumped"] (spCosts CB) := by
  have G2 : FnOk P w K mg base CX0 1 f2 fd2 ["level", "sea", "width"] spComes := ok_comes D2 T
  refine D.F.ok scCosts (fun vs H Q E h => ?_) (fun cdv A outer s H vs Q E hr h => ?_)
  · obtain ⟨b, p, s, h, w, o, x, rfl, _⟩ := h
    rfl
  · obtain ⟨b, p, s, h, w, o, x, rfl, ⟨dx, hb⟩, hh, ⟨hx, hs⟩, k⟩ := h
    refine ⟨_, pss_cons (ps_asg (pv 1) (pg_tup rfl (pgs_cons (pg_name (i := 5) scCosts.nd rfl (Or.inl rfl)) (pgs_cons (pg_name (i := 6) scCosts.nd rfl (Or.inl rfl)) (pgs_cons (pg_name (i := 7) scCosts.nd rfl (Or.inl rfl)) pgs_nil)))))
      (pss_cons (ps_if (pt_cmpR op_eq (pv 3) pe_int (nomark _)) (pss_one (ps_ret (pe_op op_mul (pv 7) (pv 4)))) pss_nil)
      (pss_one (ps_ret (pe_op op_add (pe_op op_mul (pv 7) (pv 4)) (pe_op op_mul (pe_fld (pv 0) rfl)
          (pe_call G2 hr rfl D2.g D2.F.kp D2.b .nil pass0 (pa_cons (pe_op op_add (pv 2) (pv 5)) (pa_cons (pv 6) (pa_cons (pe_fld (pv 0) rfl) pa_nil))))))))), ?_⟩
    refine ⟨_, rfl, p, _, rfl, SqT.of hh, rfl, _, _, rfl, _, _, rfl, _, _, rfl, rfl, ?_⟩
    refine ⟨_, rfl, rfl, _, rfl, if_dec (fun c => ?_) fun c => ?_⟩
    · have e : o = 0 := by
        have := V.int.inj c
        omega
      subst e
      have k : Q (.int ((s.pays w h 0 x : Nat) : Int)) H := k
      rw [pays_shut] at k
      exact ⟨_, rfl, _, rfl, _, _, rfl, rfl, .inr ⟨by omega, by omega⟩, k⟩
    · have e : ¬ o = 0 := fun z => c (by rw [z]; rfl)
      have k : Q (.int ((s.pays w h o x : Nat) : Int)) H := k
      rw [pays_open s h w o x e] at k
      refine ⟨_, rfl, _, rfl, _, _, rfl, rfl, .inr ⟨by omega, by omega⟩, ?_⟩
      refine ⟨_, rfl, b, CB, dx, _, _, rfl, hb, T.clB, T.nSalt, bF_salt s, ?_⟩
      refine ⟨_, rfl, _, rfl, _, _, rfl, rfl, _, rfl, _, rfl, b, CB, dx, _, _, rfl, hb, T.clB, T.nWidth, bF_width s, _, _, _, rfl, ?_⟩
      exact ⟨_, _, rfl, rfl, .inl ⟨by omega, by omega⟩, _, _, rfl, rfl, k⟩
theorem scWrong : FnScope ["bounds", "pumped", "after"] ["bounds", "pumped", "after"] (defScope sWrong) := ⟨rfl, rfl, rfl, by decide +kernel, rfl, by decide +kernel, by decide +kernel⟩
theorem ok_wrong {f : Addr} {fd : FuncData} (D : Dn K mg "wrong" sWrong ["bounds", "pumped", "after"] f fd) (T : Txt K mg CB CS) : FnOk P w K mg base CX0 1 f fd ["bounds", "pumped", "after"] (spWrong CB) := by
  refine D.F.ok scWrong (fun vs H Q E h => ?_) (fun cdv A outer s H vs Q E hr h => ?_)
  · obtain ⟨b, s, x, u, rfl, _⟩ := h
    rfl
  · obtain ⟨b, s, x, u, rfl, ⟨dx, hb⟩, k⟩ := h
    refine ⟨_, pss_cons (ps_if (pt_cmpR op_gt (pv 1) (pe_fld (pv 0) rfl) (nomark _)) (pss_one (ps_ret pe_int)) pss_nil)
      (pss_cons (ps_if (pt_cmpR op_lt (pv 2) (pe_fld (pv 0) rfl) (nomark _)) (pss_one (ps_ret pe_int)) pss_nil)
      (pss_cons (ps_if (pt_cmpR op_gt (pv 2) (pe_fld (pv 0) rfl) (nomark _)) (pss_one (ps_ret pe_int)) pss_nil)
      (pss_one (ps_ret pe_int)))), ?_⟩
    unfold wrongI at k
    refine ⟨_, rfl, _, rfl, b, CB, dx, _, _, rfl, hb, T.clB, T.nPumps, bF_pumps s, _, _, rfl, rfl, _, rfl, if_dec (fun c => ?_) fun c => ?_⟩
    · rw [if_pos (by omega)] at k
      exact k
    rw [if_neg (by omega)] at k
    refine ⟨_, rfl, _, rfl, b, CB, dx, _, _, rfl, hb, T.clB, T.nLow, bF_low s, _, _, rfl, rfl, _, rfl, if_dec (fun c => ?_) fun c => ?_⟩
    · rw [if_pos (by omega)] at k
      exact k
    rw [if_neg (by omega)] at k
    refine ⟨_, rfl, _, rfl, b, CB, dx, _, _, rfl, hb, T.clB, T.nHigh, bF_high s, _, _, rfl, rfl, _, rfl, if_dec (fun c => ?_) fun c => ?_⟩
    · rw [if_pos (by omega)] at k
      exact k
    rw [if_neg (by omega)] at k
    exact k
end
end Sg

namespace Sg
open PySem PySem.Spec PyProof.Rows L2
open PySem.W (Codec)
open Sj03 (Storm Hour)

/-! ### one entry taken in -/
def more (c o x : Nat) (r : Option Si97.Best) : Option Si97.Best := r.map fun b => (⟨c + b.cost, b.many, o :: x :: b.row⟩ : Si97.Best)
def spTaken : Sp := fun vs H Q _ => ∃ (f r : Addr) (a z : Option Si97.Best) (c o x : Nat), vs = [.ref f, nat c, .ref r, nat o, nat x] ∧ QAt H f a ∧ QAt H r z ∧ Many a ∧ Many z ∧
  ∀ (H' : Hp) (p : Addr), Same H H' → QAt H' p (Si97.lesser a (more c o x z)) → Q (.ref p) H'
theorem lesser_none (a : Option Si97.Best) : Si97.lesser a none = a := by cases a <;> rfl
theorem none_lesser (a : Option Si97.Best) : Si97.lesser none a = a := by cases a <;> rfl
theorem cast_add (a b : Nat) : V.int ((a : Int) + (b : Int)) = nat (a + b) := by
  show _ = V.int ((a + b : Nat) : Int)
  rw [Int.natCast_add]
/-- what stands at the four places of an entry -/
theorem q_at {a : Option Si97.Best} {z : Int} {j : Nat} {v : Int} (e : z = (j : Int)) (h : (quad a)[j]? = some v) : atI ((quad a).map V.int) z = some (V.int v) :=
  at_of e (by rw [List.getElem?_map, h]; rfl)
section
variable {P : Program} {w : World} {K : PySem.W.Frag} {mg : Str → Option Value} {base : Heap} {CB CS : Addr}
theorem scTaken : FnScope ["found", "cost", "rest", "gate", "pumped", "total"] ["found", "cost", "rest", "gate", "pumped"] (defScope sTaken) := ⟨rfl, rfl, rfl, by decide +kernel, rfl, by decide +kernel, by decide +kernel⟩
theorem ok_taken {f : Addr} {fd : FuncData} (D : Dn K mg "taken_in" sTaken ["found", "cost", "rest", "gate", "pumped"] f fd) : FnOk P w K mg base CX0 1 f fd ["found", "cost", "rest", "gate", "pumped"] spTaken := by
  refine D.F.ok scTaken (fun vs H Q E h => ?_) (fun cdv A outer s H vs Q E hr h => ?_)
  · obtain ⟨_, _, _, _, _, _, _, rfl, _⟩ := h
    rfl
  · obtain ⟨f, r, a, z, c, o, x, rfl, hf, hz, ma, mz, k⟩ := h
    refine ⟨_, pss_cons (ps_if (pt_cmpR op_eq (pe_ix ix_tup (pv 2) pe_int (fun _ _ => rfl)) pe_int (nomark _)) (pss_one (ps_ret (pv 0))) pss_nil)
      (pss_cons (ps_set (i := 5) scTaken.nd rfl (Or.inl rfl) (pe_op op_add (pv 1) (pe_ix ix_tup (pv 2) pe_int (fun _ _ => rfl))))
      (pss_cons (ps_if (PW.pt (pw_or (pt_cmpR op_eq (pe_ix ix_tup (pv 0) pe_int (fun _ _ => rfl)) pe_int (nomark _)) (pw_or1 (pt_cmpR op_lt (pv 5) (pe_ix ix_tup (pv 0) pe_int (fun _ _ => rfl)) (nomark _)))))
        (pss_one (ps_ret (pe_tup (pa_cons (pv 5) (pa_cons (pe_ix ix_tup (pv 2) pe_int (fun _ _ => rfl)) (pa_cons (pv 3) (pa_cons (pv 4) pa_nil))))))) pss_nil)
      (pss_cons (ps_if (pt_cmpR op_eq (pv 5) (pe_ix ix_tup (pv 0) pe_int (fun _ _ => rfl)) (nomark _))
        (pss_one (ps_ret (pe_tup (pa_cons (pv 5) (pa_cons (pe_op op_add (pe_ix ix_tup (pv 0) pe_int (fun _ _ => rfl)) (pe_ix ix_tup (pv 2) pe_int (fun _ _ => rfl))) (pa_cons (pe_ix ix_tup (pv 0) pe_int (fun _ _ => rfl)) (pa_cons (pe_ix ix_tup (pv 0) pe_int (fun _ _ => rfl)) pa_nil))))))) pss_nil)
      (pss_one (ps_ret (pv 0)))))), ?_⟩
    cases z with
    | none =>
      refine ⟨_, rfl, r, _, _, _, rfl, rfl, SqT.of hz, q_at (j := 1) rfl rfl, rfl, _, rfl, if_dec (fun _ => ?_) fun q => absurd rfl q⟩
      exact ⟨_, rfl, k H f (Same.refl H) (by show QAt H f (Si97.lesser a none); rw [lesser_none]; exact hf)⟩
    | some y =>
      have hy := mz y rfl
      refine ⟨_, rfl, r, _, _, _, rfl, rfl, SqT.of hz, q_at (j := 1) rfl rfl, rfl, _, rfl, if_dec (fun q => ?_) fun _ => ?_⟩
      · have := V.int.inj q
        omega
      refine ⟨_, rfl, _, rfl, r, _, _, _, rfl, rfl, SqT.of hz, q_at (j := 0) rfl rfl, _, _, rfl, rfl, ?_⟩
      have knew : ∀ a', Si97.lesser a' (more c o x (some y)) = more c o x (some y) → a' = a → ∀ p, H p = none → Q (.ref p) (upd H p (.tup [V.int ((c : Int) + ((y.cost : Nat) : Int)), nat y.many, nat o, nat x])) := by
        rintro a' e rfl p hp
        refine k _ p (same_upd hp) ?_
        rw [e]
        show upd H p _ p = _
        rw [upd_same, cast_add]
        rfl
      cases a with
      | none =>
        refine ⟨_, rfl, f, _, _, _, rfl, rfl, SqT.of hf, q_at (j := 1) rfl rfl, rfl, _, rfl, if_true_of (decide_eq_true rfl) ?_⟩
        refine if_true_of rfl ?_
        exact ⟨_, rfl, _, rfl, r, _, _, _, rfl, rfl, SqT.of hz, q_at (j := 1) rfl rfl, _, rfl, _, rfl, by show 4 ≤ sizeLine; decide, fun p hp => knew none (none_lesser _) rfl p hp⟩
      | some b =>
        have hb := ma b rfl
        refine ⟨_, rfl, f, _, _, _, rfl, rfl, SqT.of hf, q_at (j := 1) rfl rfl, rfl, _, rfl, if_false_of (decide_eq_false fun q => ?_) ?_⟩
        · have := V.int.inj q
          omega
        refine ⟨_, rfl, _, rfl, f, _, _, _, rfl, rfl, SqT.of hf, q_at (j := 0) rfl rfl, _, _, rfl, rfl, _, rfl, if_dec (fun q => ?_) fun q => ?_⟩
        · refine ⟨_, rfl, _, rfl, r, _, _, _, rfl, rfl, SqT.of hz, q_at (j := 1) rfl rfl, _, rfl, _, rfl, by show 4 ≤ sizeLine; decide, fun p hp => knew (some b) ?_ rfl p hp⟩
          show (if c + y.cost < b.cost then _ else _) = _
          rw [if_pos (by omega)]
          rfl
        refine ⟨_, rfl, _, rfl, f, _, _, _, rfl, rfl, SqT.of hf, q_at (j := 0) rfl rfl, rfl, _, rfl, if_dec (fun q2 => ?_) fun q2 => ?_⟩
        · have e2 := V.int.inj q2
          refine ⟨_, rfl, _, rfl, f, _, _, _, rfl, rfl, SqT.of hf, q_at (j := 1) rfl rfl, _, rfl, r, _, _, _, rfl, rfl, SqT.of hz, q_at (j := 1) rfl rfl, _, _, rfl, rfl, _, rfl, f, _, _, _, rfl, rfl, SqT.of hf, q_at (j := 2) rfl rfl,
            _, rfl, f, _, _, _, rfl, rfl, SqT.of hf, q_at (j := 3) rfl rfl, by show 4 ≤ sizeLine; decide, fun p hp => k _ p (same_upd hp) ?_⟩
          have e3 : Si97.lesser (some b) (more c o x (some y)) = some { b with many := b.many + y.many } := by
            show (if c + y.cost < b.cost then _ else if b.cost = c + y.cost then _ else _) = _
            rw [if_neg (by omega), if_pos (by omega)]
          rw [e3]
          show upd H p _ p = _
          rw [upd_same]
          show some (HO.tup [V.int ((c : Int) + ((y.cost : Nat) : Int)), V.int ((b.many : Int) + (y.many : Int)), _, _]) = _
          rw [cast_add b.many y.many, e2]
          rfl
        · have e2 : ¬ (c : Int) + ((y.cost : Nat) : Int) = ((b.cost : Nat) : Int) := fun e => q2 (congrArg V.int e)
          have e3 : Si97.lesser (some b) (more c o x (some y)) = some b := by
            show (if c + y.cost < b.cost then _ else if b.cost = c + y.cost then _ else _) = _
            rw [if_neg (by omega), if_neg (by omega)]
          exact ⟨_, rfl, k H f (Same.refl H) (by rw [e3]; exact hf)⟩
end
end Sg

namespace Sg
open PySem PySem.Spec PyProof.Rows L2
open PySem.W (Codec)
open Sj03 (Storm Hour)

/-! ### the entry of an hour -/
def spEntry (CB : Addr) : Sp := fun vs H Q _ => ∃ (b p l : Addr) (s : Storm) (h : Hour) (w : Nat) (g : Nat → Option Si97.Best), vs = [.ref b, .ref p, nat w, .ref l] ∧ BAt CB H b s ∧ HrAt H p h ∧ TabAt H l g ∧ (∀ u, Many (g u)) ∧ Ok s ∧
  ∀ (H' : Hp) (q : Addr), Same H H' → QAt H' q (cand s h w g) → Q (.ref q) H'
theorem opt_right {s : Storm} {h : Hour} {w o x : Nat} {g : Nat → Option Si97.Best} (z : s.wrong w h o x = 0) : opt s h w g o x = more (s.pays w h o x) o x (g ((s.gate w h o).1 - x)) := if_neg (fun q => q z)
theorem opt_wrong {s : Storm} {h : Hour} {w o x : Nat} {g : Nat → Option Si97.Best} (z : ¬ s.wrong w h o x = 0) : opt s h w g o x = none := if_pos z
theorem int0 (i : Nat) : V.int ((0 : Int) + (i : Int)) = nat i := by rw [Int.zero_add]
section
variable {P : Program} {w : World} {K : PySem.W.Frag} {mg : Str → Option Value} {base : Heap} {CB CS : Addr}
theorem scEntry : FnScope ["bounds", "hour", "level", "later", "found", "gate", "pumped", "after", "cost"] ["bounds", "hour", "level", "later"] (defScope sEntry) := ⟨rfl, rfl, rfl, by decide +kernel, rfl, by decide +kernel, by decide +kernel⟩
theorem ok_entry {f f1 f2 f3 f4 : Addr} {fd fd1 fd2 fd3 fd4 : FuncData} (D : Dn K mg "entry_at" sEntry ["bounds", "hour", "level", "later"] f fd) (T : Txt K mg CB CS)
    (D1 : Dn K mg "behind" sBehind ["bounds", "hour", "level", "gate", "pumped"] f1 fd1) (G1 : FnOk P w K mg base CX0 2 f1 fd1 ["bounds", "hour", "level", "gate", "pumped"] (spBehind CB))
    (D2 : Dn K mg "wrong" sWrong ["bounds", "pumped", "after"] f2 fd2) (G2 : FnOk P w K mg base CX0 1 f2 fd2 ["bounds", "pumped", "after"] (spWrong CB))
    (D3 : Dn K mg "costs" sCosts ["bounds", "hour", "level", "gate", "pumped"] f3 fd3) (G3 : FnOk P w K mg base CX0 2 f3 fd3 ["bounds", "hour", "level", "gate", "pumped"] (spCosts CB))
    (D4 : Dn K mg "taken_in" sTaken ["found", "cost", "rest", "gate", "pumped"] f4 fd4) (G4 : FnOk P w K mg base CX0 1 f4 fd4 ["found", "cost", "rest", "gate", "pumped"] spTaken) :
    FnOk P w K mg base CX0 3 f fd ["bounds", "hour", "level", "later"] (spEntry CB) := by
  refine D.F.ok scEntry (fun vs H Q E h => ?_) (fun cdv A outer s H vs Q E hr h => ?_)
  · obtain ⟨_, _, _, _, _, _, _, rfl, _⟩ := h
    rfl
  · obtain ⟨b, p, l, s, h, w, g, rfl, hb, hh, ht, mg', hok, k⟩ := h
    have hr1 : Room 1 _ := hr.mono (by decide)
    refine ⟨_, pss_cons (ps_set (i := 4) scEntry.nd rfl (Or.inl rfl) (pe_tup (pa_cons pe_int (pa_cons pe_int (pa_cons pe_int (pa_cons pe_int pa_nil))))))
      (pss_cons (ps_for PassesOwn.never rfl (pi_range1 rfl T.range (pa_cons pe_int pa_nil)) (pg_name (i := 5) scEntry.nd rfl (Or.inl rfl))
        (pss_one (ps_for PassesOwn.never rfl (pi_range1 rfl T.range (pa_cons (pe_op op_add (pe_fld (pv 0) rfl) pe_int) pa_nil)) (pg_name (i := 6) scEntry.nd rfl (Or.inl rfl))
          (pss_cons (ps_set (i := 7) scEntry.nd rfl (Or.inl rfl) (pe_call G1 hr rfl D1.g D1.F.kp D1.b .nil pass0 (pa_cons (pv 0) (pa_cons (pv 1) (pa_cons (pv 2) (pa_cons (pv 5) (pa_cons (pv 6) pa_nil)))))))
          (pss_one (ps_if (pt_cmpR op_eq (pe_call G2 hr1 rfl D2.g D2.F.kp D2.b .nil pass0 (pa_cons (pv 0) (pa_cons (pv 6) (pa_cons (pv 7) pa_nil)))) pe_int (nomark _))
            (pss_cons (ps_set (i := 8) scEntry.nd rfl (Or.inl rfl) (pe_call G3 hr rfl D3.g D3.F.kp D3.b .nil pass0 (pa_cons (pv 0) (pa_cons (pv 1) (pa_cons (pv 2) (pa_cons (pv 5) (pa_cons (pv 6) pa_nil)))))))
            (pss_one (ps_set (i := 4) scEntry.nd rfl (Or.inl rfl) (pe_call G4 hr1 rfl D4.g D4.F.kp D4.b .nil pass0 (pa_cons (pv 4) (pa_cons (pv 8) (pa_cons (pe_ix ix_list (pv 3) (pv 7) (fun _ _ => rfl)) (pa_cons (pv 5) (pa_cons (pv 6) pa_nil)))))))))
            pss_nil))))))
      (pss_one (ps_ret (pv 4)))), ?_⟩
    refine ⟨by show 4 ≤ sizeLine; decide, fun p0 hp0 => ?_⟩
    refine ⟨2, rfl, by decide, by decide, for_range (lo := 0) (n := 2) (fun i σ H' => ∃ (v5 v6 v7 v8 : Option V) (q : Addr), σ = [some (.ref b), some (.ref p), some (nat w), some (.ref l), some (.ref q), v5, v6, v7, v8] ∧ Same H H' ∧
      QAt H' q (goO (stepE s h w g) none (s.pumps + 1) i)) ⟨none, none, none, none, p0, rfl, same_upd hp0, upd_same⟩ ?_ ?_⟩
    · rintro i σ H1 hi ⟨v5, v6, v7, v8, q, rfl, s1, hq⟩
      obtain ⟨dx, hbx⟩ := hb.same s1
      have hpu := hok.pu
      refine ⟨_, rfl, b, CB, dx, _, _, rfl, hbx, T.clB, T.nPumps, bF_pumps s, _, _, rfl, rfl, _, rfl, by omega, by omega, for_range (lo := 0) (n := s.pumps + 1) (fun j σ H' => ∃ (v6 v7 v8 : Option V) (q : Addr), σ = [some (.ref b), some (.ref p), some (nat w), some (.ref l), some (.ref q), some (nat i), v6, v7, v8] ∧ Same H H' ∧
        QAt H' q (goX (stepE s h w g) (goO (stepE s h w g) none (s.pumps + 1) i) i j)) ⟨v6, v7, v8, q, by rw [int0]; rfl, s1, hq⟩ ?_ ?_⟩
      · rintro j σ H2 hj ⟨v6, v7, v8, q, rfl, s2, hq⟩
        rw [int0]
        refine ⟨_, rfl, _, rfl, _, rfl, _, rfl, _, rfl, b, p, s, h, w, i, j, rfl, hb.same s2, s2 _ _ hh, ?_⟩
        refine ⟨_, rfl, _, rfl, _, rfl, b, s, j, _, rfl, hb.same s2, rfl, _, rfl, if_dec (fun c => ?_) fun c => ?_⟩
        · have z : s.wrong w h i j = 0 := by
            have e := V.int.inj c
            rw [wrongI_is] at e
            omega
          have z' := wrong_zero.mp z
          have hhi := hok.hi
          obtain ⟨as, hl, _, ha⟩ := ht.ex
          obtain ⟨r, hr', hrq⟩ := ha ((s.gate w h i).1 - j) (by omega)
          refine ⟨_, rfl, _, rfl, _, rfl, _, rfl, _, rfl, b, p, s, h, w, i, j, rfl, hb.same s2, s2 _ _ hh, ⟨by omega, hok.sa⟩, ?_⟩
          refine ⟨_, rfl, _, rfl, _, rfl, _, rfl, l, _, _, _, rfl, rfl, SqL.of (s2 _ _ hl), at_of (j := (s.gate w h i).1 - j) (lvl_nat z) (by rw [List.getElem?_map, hr']; rfl), _, rfl, _, rfl,
            q, r, _, g ((s.gate w h i).1 - j), s.pays w h i j, i, j, rfl, hq, s2 _ _ hrq, many_goX mg' (many_goO mg' many_none _ _) _ _, mg' _, fun H3 q3 s3 hq3 => ?_⟩
          refine ⟨_, _, _, q3, rfl, s2.trans s3, ?_⟩
          rw [goX_succ]
          show QAt H3 q3 (Si97.lesser _ (opt s h w g i j))
          rw [opt_right z]
          exact hq3
        · have z : ¬ s.wrong w h i j = 0 := fun z => c (by rw [wrongI_is, z]; rfl)
          refine ⟨_, _, _, q, rfl, s2, ?_⟩
          rw [goX_succ]
          show QAt H2 q (Si97.lesser _ (opt s h w g i j))
          rw [opt_wrong z, lesser_none]
          exact hq
      · rintro σ H2 ⟨v6, v7, v8, q, rfl, s2, hq⟩
        exact ⟨_, _, _, _, q, rfl, s2, by rw [goO_succ]; exact hq⟩
    · rintro σ H1 ⟨v5, v6, v7, v8, q, rfl, s1, hq⟩
      exact ⟨_, rfl, k H1 q s1 hq⟩
end
end Sg

namespace Sg
open PySem PySem.Spec PyProof.Rows L2
open PySem.W (Codec)
open Sj03 (Storm Hour)

/-! ### the tables -/
/-- a table for the hours behind each place, and one for the end -/
def TabsAt (H : Hp) (p : Addr) (s : Storm) (hs : List Hour) : Prop := ∃ ts : List Addr, H p = some (.lst (ts.map V.ref)) ∧ ∀ i, i ≤ hs.length → ∃ t, ts[i]? = some t ∧ TabAt H t (ent s (hs.drop i))
theorem TabsAt.same {H H' : Hp} {p : Addr} {s : Storm} {hs : List Hour} (h : TabsAt H p s hs) (e : Same H H') : TabsAt H' p s hs :=
  let ⟨ts, h1, h2⟩ := h; ⟨ts, e _ _ h1, fun i hi => let ⟨t, q1, q2⟩ := h2 i hi; ⟨t, q1, q2.same e⟩⟩
/-- a list of another length is another list -/
theorem TabAt.upd_lst {H : Hp} {t q : Addr} {g : Nat → Option Si97.Best} {xs : List V} {o : HO} (h : TabAt H t g) (hq : H q = some (.lst xs)) (hl : xs.length ≠ 61) : TabAt (upd H q o) t g := by
  obtain ⟨as, h1, h2, h3⟩ := h.ex
  have n1 : t ≠ q := ne_of h1 hq fun e => hl (by
    have e2 : as.map V.ref = xs := by
      injection e
    rw [← e2, List.length_map, h2])
  refine ⟨as, by rw [upd_ne n1]; exact h1, h2, fun u hu => ?_⟩
  obtain ⟨p, q1, q2⟩ := h3 u hu
  have n2 : p ≠ q := ne_of q2 hq fun e => nomatch e
  exact ⟨p, q1, (upd_ne n2).trans q2⟩
theorem rep_flat {α : Type} (x : α) : ∀ n : Nat, (List.replicate n [x]).flatten = List.replicate n x
  | 0 => rfl
  | n + 1 => by
    rw [List.replicate_succ, List.replicate_succ, List.flatten_cons, rep_flat x n]
    rfl
theorem at_last {xs : List V} {v : V} (h : xs[xs.length - 1]? = some v) : atI xs (-1) = some v := by
  have hl : 0 < xs.length := by
    cases xs with
    | nil => simp at h
    | cons a r => simp
  unfold atI ixN
  rw [if_neg (by omega), if_pos (by omega)]
  show xs[(-1 + (xs.length : Int)).toNat]? = some v
  have e : (-1 + (xs.length : Int)).toNat = xs.length - 1 := by omega
  rw [e]
  exact h
def spTables (CB : Addr) : Sp := fun vs H Q _ => ∃ (b l : Addr) (s : Storm) (as : List Addr) (hs : List Hour), vs = [.ref b, .ref l] ∧ BAt CB H b s ∧ HrsAt H l as hs ∧ Ok s ∧ hs.length ≤ 6 ∧
  ∀ (H' : Hp) (p : Addr), Same H H' → TabsAt H' p s hs → Q (.ref p) H'
section
variable {P : Program} {w : World} {K : PySem.W.Frag} {mg : Str → Option Value} {base : Heap} {CB CS : Addr}
theorem scTables : FnScope ["bounds", "hours", "backward", "hour", "later", "level"] ["bounds", "hours"] (defScope sTables) := ⟨rfl, rfl, rfl, by decide +kernel, rfl, by decide +kernel, by decide +kernel⟩
theorem ok_tables {f f1 : Addr} {fd fd1 : FuncData} (D : Dn K mg "tables_of" sTables ["bounds", "hours"] f fd) (T : Txt K mg CB CS)
    (D1 : Dn K mg "entry_at" sEntry ["bounds", "hour", "level", "later"] f1 fd1) (G1 : FnOk P w K mg base CX0 3 f1 fd1 ["bounds", "hour", "level", "later"] (spEntry CB)) :
    FnOk P w K mg base CX0 4 f fd ["bounds", "hours"] (spTables CB) := by
  refine D.F.ok scTables (fun vs H Q E h => ?_) (fun cdv A outer s H vs Q E hr h => ?_)
  · obtain ⟨_, _, _, _, _, rfl, _⟩ := h
    rfl
  · obtain ⟨b, l, s, as, hs, rfl, hb, hh, hok, hlen, k⟩ := h
    refine ⟨_, pss_cons (ps_set (i := 2) scTables.nd rfl (Or.inl rfl) (pe_lst (pa_cons (pe_op op_rep (pe_lst (pa_cons (pe_tup (pa_cons pe_int (pa_cons pe_int (pa_cons pe_int (pa_cons pe_int pa_nil))))) pa_nil)) (pe_op op_add (glob_int rfl T.top) pe_int)) pa_nil)))
      (pss_cons (ps_for PassesOwn.never rfl (pi_reversed rfl T.reversed (pa_cons (pv 1) pa_nil)) (pg_name (i := 3) scTables.nd rfl (Or.inr rfl))
        (pss_cons (ps_set (i := 4) scTables.nd rfl (Or.inr rfl) (pe_ix ix_list (pv 2) (pe_un un_neg pe_int) (fun _ _ => rfl)))
        (pss_one (ps_expr (pe_bm PySem.F.plainAttrs_list PySem.F.slot_list_append PySem.F.type_list_append mt_append (pv 2) (pa_cons
          (pe_lc (own := [("level", 5)]) (g := gName 5) (tt := tYes) rfl scTables.nd (pi_range1 rfl T.range (pa_cons (pe_op op_add (glob_int rfl T.top) pe_int) pa_nil)) (blkOk_by (N := ["bounds", "hours", "backward", "hour", "later", "level"]) (sc := defScope sTables) (by decide +kernel))
            (fun _ _ _ _ _ => pg_name (i := 5) scTables.nd rfl (Or.inl rfl)) (fun _ _ _ _ _ => pts_nil)
            (fun _ _ _ _ _ => pe_call G1 hr rfl D1.g D1.F.kp D1.b .nil pass0 (pa_cons (pv 0) (pa_cons (pv 3) (pa_cons (pv 5) (pa_cons (pv 4) pa_nil)))))) pa_nil))))))
      (pss_one (ps_ret (pe_revL (pv 2))))), ?_⟩
    -- backward = [[(0, 1, 0, 0)] * (TOP + 1)]
    refine ⟨by show 4 ≤ sizeLine; decide, fun p0 hp0 => ⟨by show 1 ≤ sizeLine; decide, fun p1 hp1 => ⟨_, _, rfl, rfl, p1, _, _, rfl, rfl, upd_same, by decide, by decide, by show 1 * 61 ≤ sizeLine; decide, fun p2 hp2 => ⟨by show 1 ≤ sizeLine; decide, fun q hq => ?_⟩⟩⟩⟩
    have nq : H q = none := (((same_upd hp0).trans (same_upd hp1)).trans (same_upd hp2)).free hq
    have s0 : Same H (upd _ q (.lst [V.ref p2])) := (((same_upd hp0).trans (same_upd hp1)).trans (same_upd hp2)).trans (same_upd hq)
    have keep : ∀ {H1 : Hp} {o : HO}, Same H H1 → Same H (upd H1 q o) := fun e c u z => by
      rw [upd_ne (ne_of_none z nq)]
      exact e c u z
    have t0 : TabAt (upd _ q (.lst [V.ref p2])) p2 (ent s []) := ⟨List.replicate 61 p0, by
        rw [List.map_replicate, ← rep_flat]
        exact same_upd hq _ _ upd_same, List.length_replicate .., fun u hu => ⟨p0, by rw [List.getElem?_replicate, if_pos hu], same_upd hq _ _ (same_upd hp2 _ _ (same_upd hp1 _ _ upd_same))⟩⟩
    refine ⟨_, rfl, l, as.map V.ref, rfl, SqL.of (s0 _ _ hh.lst), for_it (walk_rev (K := K) (a := l) (xs := as.map V.ref)) (fun i σ H' => ∃ (v3 v4 v5 : Option V) (ts : List Addr), σ = [some (.ref b), some (.ref l), some (.ref q), v3, v4, v5] ∧ Same H H' ∧
        H' q = some (.lst (ts.map V.ref)) ∧ ts.length = i + 1 ∧ ∀ j, j ≤ i → ∃ t, ts[j]? = some t ∧ TabAt H' t (ent s (hs.drop (hs.length - j))))
      ⟨none, none, none, [p2], rfl, s0, upd_same, rfl, fun j hj => ?_⟩ (fun i σ H' _ ⟨_, _, _, _, _, s1, _⟩ => SqL.of (s1 _ _ hh.lst)) ?_ ?_⟩
    · have e : j = 0 := by omega
      subst e
      refine ⟨p2, rfl, ?_⟩
      rw [Nat.sub_zero, List.drop_length]
      exact t0
    · rintro i x σ H1 H1' hi ⟨v3, v4, v5, ts, rfl, s1, hq1, hl1, ht1⟩ ⟨rfl, hx⟩
      rw [List.length_map, hh.len] at hi hx
      obtain ⟨m, em⟩ : ∃ m, hs.length = m + 1 + i := ⟨hs.length - 1 - i, by omega⟩
      have e0 : hs.length - 1 - i = m := by omega
      have e1 : hs.length - i = m + 1 := by omega
      have e2 : hs.length - (i + 1) = m := by omega
      rw [e0] at hx
      obtain ⟨h, hm⟩ : ∃ h, hs[m]? = some h := ⟨_, List.getElem?_eq_getElem (by omega)⟩
      obtain ⟨p, hp, hhp⟩ := hh.at_ m h hm
      rw [List.getElem?_map, hp] at hx
      obtain rfl : V.ref p = x := Option.some.inj hx
      obtain ⟨t, ht, htt⟩ := ht1 i (Nat.le_refl _)
      rw [e1] at htt
      refine ⟨_, rfl, 1, rfl, q, _, _, _, rfl, rfl, SqL.of hq1, at_last (v := V.ref t) (by rw [List.length_map, hl1, List.getElem?_map, show i + 1 - 1 = i from rfl, ht]; rfl), ?_⟩
      refine ⟨_, rfl, .inl ⟨rfl, _, SqL.of hq1⟩, 60, 1, rfl, rfl, 61, rfl, by decide, by decide, fun L hL => lc_range (lo := 0) (n := 61) (fun u H2 => Same H1' H2 ∧ ∃ bs : List Addr, H2 L = some (.lst (bs.map V.ref)) ∧ bs.length = u ∧ ∀ v, v < u → ∃ p, bs[v]? = some p ∧ QAt H2 p (ent s (h :: hs.drop (m + 1)) v))
        ⟨same_upd hL, [], upd_same, rfl, fun v hv => absurd hv (Nat.not_lt_zero _)⟩ ?_ ?_⟩
      · rintro u H2 hu ⟨s2, bs, hL2, hlb, hbs⟩
        rw [int0]
        refine ⟨rfl, ?_⟩
        refine ⟨_, rfl, _, rfl, _, rfl, _, rfl, b, p, t, s, h, u, ent s (hs.drop (m + 1)), rfl, hb.same (s1.trans s2), s2 _ _ (s1 _ _ hhp), htt.same s2, many_ent _ _, hok, fun H3 y s3 hy => ?_⟩
        refine ⟨_, s3 _ _ hL2, small1000 (by rw [List.length_map]; omega), ?_, bs ++ [y], ?_, ?_, fun v hv => ?_⟩
        · intro c o z
          rw [upd_ne (ne_of_none z hL)]
          exact s3 _ _ (s2 _ _ z)
        · rw [upd_same, List.map_append]
          rfl
        · rw [List.length_append, hlb]
          rfl
        · by_cases ev : v = u
          · subst ev
            refine ⟨y, by rw [List.getElem?_append_right (by omega), hlb, Nat.sub_self]; rfl, ?_⟩
            have n1 : y ≠ L := ne_of hy (s3 _ _ hL2) fun e => nomatch e
            exact (upd_ne n1).trans hy
          · obtain ⟨r, hr1, hr2⟩ := hbs v (by omega)
            refine ⟨r, by rw [List.getElem?_append_left (by omega)]; exact hr1, ?_⟩
            have n1 : r ≠ L := ne_of hr2 hL2 fun e => nomatch e
            exact (upd_ne n1).trans (s3 _ _ hr2)
      · rintro H2 ⟨s2, bs, hL2, hlb, hbs⟩
        have hq2 := s2 _ _ hq1
        have hl61 : (ts.map V.ref).length ≠ 61 := by rw [List.length_map, hl1]; omega
        have tL : TabAt H2 L (ent s (h :: hs.drop (m + 1))) := ⟨bs, hL2, hlb, hbs⟩
        refine ⟨q, _, _, rfl, rfl, hq2, small1000 (by rw [List.length_map]; omega), _, _, _, ts ++ [L], rfl, keep (s1.trans s2), ?_, ?_, fun j hj => ?_⟩
        · rw [upd_same, List.map_append]
          rfl
        · rw [List.length_append, hl1]
          rfl
        · by_cases ej : j = i + 1
          · subst ej
            refine ⟨L, by rw [List.getElem?_append_right (by omega), hl1, Nat.sub_self]; rfl, ?_⟩
            rw [e2, drop_cons hm]
            exact tL.upd_lst hq2 hl61
          · obtain ⟨t', ht', htt'⟩ := ht1 j (by omega)
            exact ⟨t', by rw [List.getElem?_append_left (by omega)]; exact ht', (htt'.same s2).upd_lst hq2 hl61⟩
    · rintro σ H1 ⟨v3, v4, v5, ts, rfl, s1, hq1, hl1, ht1⟩
      rw [List.length_map, hh.len] at hl1 ht1
      refine ⟨_, rfl, q, _, rfl, SqL.of hq1, fun p hp => k _ p (s1.trans (same_upd hp)) ⟨ts.reverse, by rw [upd_same, List.map_reverse], fun i hi => ?_⟩⟩
      obtain ⟨t, ht, htt⟩ := ht1 (hs.length - i) (by omega)
      refine ⟨t, ?_, ?_⟩
      · rw [List.getElem?_reverse (by omega), hl1, show hs.length + 1 - 1 - i = hs.length - i by omega]
        exact ht
      · rw [show hs.length - (hs.length - i) = i by omega] at htt
        exact htt.same (same_upd hp)
end
end Sg

namespace Sg
open PySem PySem.Spec PyProof.Rows L2
open PySem.W (Codec)
open Sj03 (Storm Hour)

/-! ### the earliest of the cheapest -/
def spEarliest (CB : Addr) : Sp := fun vs H Q _ => ∃ (b l t : Addr) (s : Storm) (as : List Addr) (hs : List Hour) (w : Nat) (z : Si97.Best), vs = [.ref b, nat w, .ref l, .ref t] ∧ BAt CB H b s ∧ HrsAt H l as hs ∧ TabsAt H t s hs ∧ Ok s ∧ hs.length ≤ 6 ∧ w ≤ 60 ∧
  ent s hs w = some z ∧ ∀ (H' : Hp) (p : Addr), Same H H' → H' p = some (.lst (z.row.map nat)) → Q (.ref p) H'
def spCheapest (CB : Addr) : Sp := fun vs H Q _ => ∃ (b l : Addr) (s : Storm) (as : List Addr) (hs : List Hour) (w : Nat), vs = [.ref b, nat w, .ref l] ∧ BAt CB H b s ∧ HrsAt H l as hs ∧ Ok s ∧ hs.length ≤ 6 ∧ w ≤ 60 ∧
  ∀ (H' : Hp) (p : Addr), Same H H' → H p = none → H' p = some (.lst ((toldOf (ent s hs w)).map V.int)) → Q (.ref p) H'
section
variable {P : Program} {w : World} {K : PySem.W.Frag} {mg : Str → Option Value} {base : Heap} {CB CS : Addr}
theorem scEarliest : FnScope ["bounds", "stands", "hours", "tables", "plan", "level", "at", "hour", "cost", "many", "gate", "pumped"] ["bounds", "stands", "hours", "tables"] (defScope sEarliest) := ⟨rfl, rfl, rfl, by decide +kernel, rfl, by decide +kernel, by decide +kernel⟩
theorem ok_earliest {f f1 : Addr} {fd fd1 : FuncData} (D : Dn K mg "earliest" sEarliest ["bounds", "stands", "hours", "tables"] f fd) (T : Txt K mg CB CS)
    (D1 : Dn K mg "behind" sBehind ["bounds", "hour", "level", "gate", "pumped"] f1 fd1) (G1 : FnOk P w K mg base CX0 2 f1 fd1 ["bounds", "hour", "level", "gate", "pumped"] (spBehind CB)) :
    FnOk P w K mg base CX0 3 f fd ["bounds", "stands", "hours", "tables"] (spEarliest CB) := by
  refine D.F.ok scEarliest (fun vs H Q E h => ?_) (fun cdv A outer s H vs Q E hr h => ?_)
  · obtain ⟨_, _, _, _, _, _, _, _, rfl, _⟩ := h
    rfl
  · obtain ⟨b, l, t, s, as, hs, w, z, rfl, hb, hh, ht, hok, hlen, hw, hz, k⟩ := h
    refine ⟨_, pss_cons (ps_set (i := 4) scEarliest.nd rfl (Or.inl rfl) (pe_lst pa_nil))
      (pss_cons (ps_set (i := 5) scEarliest.nd rfl (Or.inl rfl) (pv 1))
      (pss_cons (ps_for PassesOwn.never rfl (pi_enum (by rfl) T.enumerate (pa_cons (pv 2) pa_nil)) (pg_tup rfl (pgs_cons (pg_name (i := 6) scEarliest.nd rfl (Or.inl rfl)) (pgs_cons (pg_name (i := 7) scEarliest.nd rfl (Or.inl rfl)) pgs_nil)))
        (pss_cons (ps_asg (pe_ix ix_list (pe_ix ix_list (pv 3) (pv 6) (fun _ _ => rfl)) (pv 5) (fun _ _ => rfl)) (pg_tup rfl (pgs_cons (pg_name (i := 8) scEarliest.nd rfl (Or.inl rfl)) (pgs_cons (pg_name (i := 9) scEarliest.nd rfl (Or.inl rfl)) (pgs_cons (pg_name (i := 10) scEarliest.nd rfl (Or.inl rfl)) (pgs_cons (pg_name (i := 11) scEarliest.nd rfl (Or.inl rfl)) pgs_nil))))))
        (pss_cons (ps_expr (pe_bm PySem.F.plainAttrs_list PySem.F.slot_list_append PySem.F.type_list_append mt_append (pv 4) (pa_cons (pv 10) pa_nil)))
        (pss_cons (ps_expr (pe_bm PySem.F.plainAttrs_list PySem.F.slot_list_append PySem.F.type_list_append mt_append (pv 4) (pa_cons (pv 11) pa_nil)))
        (pss_one (ps_set (i := 5) scEarliest.nd rfl (Or.inl rfl) (pe_call G1 hr rfl D1.g D1.F.kp D1.b .nil pass0 (pa_cons (pv 0) (pa_cons (pv 7) (pa_cons (pv 5) (pa_cons (pv 10) (pa_cons (pv 11) pa_nil))))))))))))
      (pss_one (ps_ret (pv 4))))), ?_⟩
    refine ⟨Nat.zero_le _, fun q hq => ⟨_, rfl, _, rfl, l, as.map V.ref, rfl, SqL.of (same_upd hq _ _ hh.lst), for_it (walk_enum (K := K) (a := l) (xs := as.map V.ref))
      (fun i σ H' => ∃ (v6 v7 v8 v9 v10 v11 : Option V) (lv : Nat) (pre : List Nat), σ = [some (.ref b), some (nat w), some (.ref l), some (.ref t), some (.ref q), some (nat lv), v6, v7, v8, v9, v10, v11] ∧ Same H H' ∧
        H' q = some (.lst (pre.map nat)) ∧ Read s hs z i lv pre ∧ lv ≤ 60 ∧ pre.length = 2 * i)
      ⟨none, none, none, none, none, none, w, [], rfl, same_upd hq, upd_same, read_start hz, hw, rfl⟩ (fun i σ H' _ ⟨_, _, _, _, _, _, _, _, _, s1, _⟩ => SqL.of (s1 _ _ hh.lst)) ?_ ?_⟩⟩
    · rintro i x σ H1 H1' hi ⟨v6, v7, v8, v9, v10, v11, lv, pre, rfl, s1, hq1, hrd, hlv, hpl⟩ ⟨U, y, y', rfl, hU, rfl, ey, ey'⟩
      obtain rfl : V.int ((i : Nat) : Int) = y := Option.some.inj ey
      rw [List.length_map, hh.len] at hi
      obtain ⟨h, hm⟩ : ∃ h, hs[i]? = some h := ⟨_, List.getElem?_eq_getElem hi⟩
      obtain ⟨p, hp, hhp⟩ := hh.at_ i h hm
      have ey' : (as.map V.ref)[i]? = some y' := ey'
      rw [List.getElem?_map, hp] at ey'
      obtain rfl : V.ref p = y' := Option.some.inj ey'
      obtain ⟨c, o, x, hc, rfl, rfl, zz, hrd'⟩ := read_step hm hrd
      have s2 : Same H (upd H1 U (.tup [V.int ((i : Nat) : Int), .ref p])) := s1.trans (same_upd hU)
      have nq : H q = none := hq
      have keep : ∀ {H1 : Hp} {o : HO}, Same H H1 → Same H (upd H1 q o) := fun e c u z => by
        rw [upd_ne (ne_of_none z nq)]
        exact e c u z
      obtain ⟨ts, hts, htt⟩ := ht.same s2
      obtain ⟨tt, ht1, ht2⟩ := htt i (by omega)
      obtain ⟨es, he1, he2, he3⟩ := ht2.ex
      obtain ⟨e, he4, he5⟩ := he3 lv (by omega)
      rw [hc] at he5
      have z' := wrong_zero.mp zz
      have hhi := hok.hi
      refine ⟨U, _, rfl, SqT.of upd_same, rfl, _, _, rfl, _, _, rfl, rfl, ?_⟩
      refine ⟨_, rfl, _, rfl, t, _, _, _, rfl, rfl, SqL.of hts, at_of (j := i) (v := V.ref tt) rfl (by rw [List.getElem?_map, ht1]; rfl), _, rfl, tt, _, _, _, rfl, rfl, SqL.of he1, at_of (j := lv) (v := V.ref e) rfl (by rw [List.getElem?_map, he4]; rfl), ?_⟩
      refine ⟨e, _, rfl, SqT.of he5, rfl, _, _, rfl, _, _, rfl, _, _, rfl, _, _, rfl, rfl, ?_⟩
      have hq2 : upd H1 U (.tup [V.int ((i : Nat) : Int), .ref p]) q = some (.lst (pre.map nat)) := same_upd hU _ _ hq1
      refine ⟨_, rfl, .inl ⟨rfl, _, SqL.of hq2⟩, _, rfl, q, _, _, rfl, rfl, hq2, small1000 (by rw [List.length_map]; omega), ?_⟩
      refine ⟨_, rfl, .inl ⟨rfl, _, SqL.of upd_same⟩, _, rfl, q, _, _, rfl, rfl, upd_same, small1000 (by rw [List.length_append, List.length_map]; show pre.length + 1 ≤ 1000; omega), ?_⟩
      have s3 := keep (o := .lst (pre.map nat ++ [nat (c.row.getD 0 0)] ++ [nat (c.row.getD 1 0)])) (keep (o := .lst (pre.map nat ++ [nat (c.row.getD 0 0)])) s2)
      refine ⟨_, rfl, _, rfl, _, rfl, _, rfl, _, rfl, b, p, s, h, lv, _, _, rfl, hb.same s3, s3 _ _ hhp, ?_⟩
      rw [lvl_nat zz]
      refine ⟨_, _, _, _, _, _, (s.gate lv h (c.row.getD 0 0)).1 - c.row.getD 1 0, pre ++ [c.row.getD 0 0, c.row.getD 1 0], rfl, s3, ?_, hrd', by omega, ?_⟩
      · rw [upd_same, List.map_append, List.append_assoc]
        rfl
      · rw [List.length_append, hpl]
        show 2 * i + 2 = 2 * (i + 1)
        omega
    · rintro σ H1 ⟨v6, v7, v8, v9, v10, v11, lv, pre, rfl, s1, hq1, hrd, hlv, hpl⟩
      rw [List.length_map, hh.len] at hrd
      exact ⟨_, rfl, k H1 q s1 (by rw [read_end hrd]; exact hq1)⟩
theorem scCheapest : FnScope ["bounds", "stands", "hours", "tables", "cost", "many", "gate", "pumped"] ["bounds", "stands", "hours"] (defScope sCheapest) := ⟨rfl, rfl, rfl, by decide +kernel, rfl, by decide +kernel, by decide +kernel⟩
theorem ok_cheapest {f f1 f2 : Addr} {fd fd1 fd2 : FuncData} (D : Dn K mg "cheapest" sCheapest ["bounds", "stands", "hours"] f fd)
    (D1 : Dn K mg "tables_of" sTables ["bounds", "hours"] f1 fd1) (G1 : FnOk P w K mg base CX0 4 f1 fd1 ["bounds", "hours"] (spTables CB))
    (D2 : Dn K mg "earliest" sEarliest ["bounds", "stands", "hours", "tables"] f2 fd2) (G2 : FnOk P w K mg base CX0 3 f2 fd2 ["bounds", "stands", "hours", "tables"] (spEarliest CB)) :
    FnOk P w K mg base CX0 5 f fd ["bounds", "stands", "hours"] (spCheapest CB) := by
  refine D.F.ok scCheapest (fun vs H Q E h => ?_) (fun cdv A outer s H vs Q E hr h => ?_)
  · obtain ⟨_, _, _, _, _, _, rfl, _⟩ := h
    rfl
  · obtain ⟨b, l, s, as, hs, w, rfl, hb, hh, hok, hlen, hw, k⟩ := h
    have hr1 : Room 3 _ := hr.mono (by decide)
    refine ⟨_, pss_cons (ps_set (i := 3) scCheapest.nd rfl (Or.inl rfl) (pe_call G1 hr rfl D1.g D1.F.kp D1.b .nil pass0 (pa_cons (pv 0) (pa_cons (pv 2) pa_nil))))
      (pss_cons (ps_asg (pe_ix ix_list (pe_ix ix_list (pv 3) pe_int (fun _ _ => rfl)) (pv 1) (fun _ _ => rfl)) (pg_tup rfl (pgs_cons (pg_name (i := 4) scCheapest.nd rfl (Or.inl rfl)) (pgs_cons (pg_name (i := 5) scCheapest.nd rfl (Or.inl rfl)) (pgs_cons (pg_name (i := 6) scCheapest.nd rfl (Or.inl rfl)) (pgs_cons (pg_name (i := 7) scCheapest.nd rfl (Or.inl rfl)) pgs_nil))))))
      (pss_cons (ps_if (pt_cmpR op_eq (pv 5) pe_int (nomark _)) (pss_one (ps_ret (pe_lst (pa_cons (pe_un un_neg pe_int) pa_nil)))) pss_nil)
      (pss_one (ps_ret (pe_op op_cat (pe_lst (pa_cons (pv 4) (pa_cons (pv 5) pa_nil))) (pe_call G2 hr1 rfl D2.g D2.F.kp D2.b .nil pass0 (pa_cons (pv 0) (pa_cons (pv 1) (pa_cons (pv 2) (pa_cons (pv 3) pa_nil)))))))))), ?_⟩
    refine ⟨_, rfl, _, rfl, b, l, s, as, hs, rfl, hb, hh, hok, hlen, fun H1 t s1 ht => ?_⟩
    obtain ⟨ts, hts, htt⟩ := id ht
    obtain ⟨tt, ht1, ht2⟩ := htt 0 (Nat.zero_le _)
    obtain ⟨es, he1, he2, he3⟩ := ht2.ex
    obtain ⟨e, he4, he5⟩ := he3 w (by omega)
    refine ⟨_, rfl, t, _, _, _, rfl, rfl, SqL.of hts, at_of (j := 0) (v := V.ref tt) rfl (by rw [List.getElem?_map, ht1]; rfl), _, rfl, tt, _, _, _, rfl, rfl, SqL.of he1, at_of (j := w) (v := V.ref e) rfl (by rw [List.getElem?_map, he4]; rfl), ?_⟩
    have em := many_ent s hs w
    rw [List.drop_zero] at he5
    cases ez : ent s hs w with
    | none =>
      rw [ez] at he5 k
      refine ⟨e, _, rfl, SqT.of he5, rfl, _, _, rfl, _, _, rfl, _, _, rfl, _, _, rfl, rfl, ?_⟩
      refine ⟨_, rfl, rfl, _, rfl, if_true_of (decide_eq_true rfl) ?_⟩
      exact ⟨_, rfl, by show 1 ≤ sizeLine; decide, fun p hp => k _ p (s1.trans (same_upd hp)) (s1.free hp) upd_same⟩
    | some z =>
      rw [ez] at he5 k
      have hz := em z ez
      refine ⟨e, _, rfl, SqT.of he5, rfl, _, _, rfl, _, _, rfl, _, _, rfl, _, _, rfl, rfl, ?_⟩
      refine ⟨_, rfl, rfl, _, rfl, if_false_of (decide_eq_false fun q => ?_) ?_⟩
      · have := V.int.inj q
        omega
      refine ⟨_, rfl, _, rfl, by show 2 ≤ sizeLine; decide, fun p hp => ?_⟩
      have s2 := s1.trans (same_upd (o := .lst [nat z.cost, nat z.many]) hp)
      refine ⟨_, rfl, _, rfl, _, rfl, _, rfl, b, l, t, s, as, hs, w, z, rfl, hb.same s2, hh.same s2, ht.same (same_upd hp), hok, hlen, hw, ez, fun H2 p2 s3 hp2 => ?_⟩
      have hrl := read_len hs w z ez
      refine ⟨p, p2, _, _, rfl, rfl, s3 _ _ upd_same, hp2, Nat.le_of_lt (small1000 (by rw [List.length_map]; show 2 + z.row.length ≤ 1000; omega)), fun p3 hp3 => ?_⟩
      refine k _ p3 ((s2.trans s3).trans (same_upd hp3)) ((s2.trans s3).free hp3) ?_
      rw [upd_same]
      show some (HO.lst (nat z.cost :: nat z.many :: z.row.map nat)) = some (HO.lst (nat z.cost :: nat z.many :: (z.row.map fun (n : Nat) => (n : Int)).map V.int))
      rw [List.map_map]
      rfl
end
end Sg

namespace Sg
open PySem PySem.Spec PyProof.Rows L2
open PySem.W (Codec)
open Sj03 (Storm Hour)

/-! ### the bounds -/
def spBInit (C : Addr) : Sp := fun vs H Q _ => ∃ (p dx : Addr) (s : Storm), vs = [.ref p, nat s.low, nat s.high, nat s.pumps, nat s.wide, nat s.salt] ∧ H p = some (.ins C dx []) ∧
  ∀ H' : Hp, BAt C H' p s → (∀ b o, H b = some o → b ≠ p → H' b = some o) → Q .non H'
/-- new bounds, made from b's -/
def spOther (C : Addr) (g : Storm → Storm) : Sp := fun vs H Q _ => ∃ (b : Addr) (s : Storm), vs = [.ref b] ∧ BAt C H b s ∧ ∀ (H' : Hp) (p : Addr), Same H H' → BAt C H' p (g s) → Q (.ref p) H'
def Begun (st : Nat) (n : Storm) : Prop := st ≤ 60 ∧ (n.high ≤ 60 ∧ n.low ≤ n.high) ∧ n.pumps ≤ 12 ∧ n.wide ≤ 100 ∧ n.salt ≤ 100
instance (st : Nat) (n : Storm) : Decidable (Begun st n) := by unfold Begun; infer_instance
def spAsTold (C : Addr) : Sp := fun vs H Q _ => ∃ (b : Addr) (st : Nat) (s : Storm), vs = [nat st, .ref b] ∧ BAt C H b s ∧ Q (.bl (decide (Begun st s))) H
theorem put_lt {f : Str} {v : V} {fs : List (Str × V)} {n : Nat} (h : fs.length < n) : (putF f v fs).length < n + 1 := Nat.lt_of_le_of_lt (length_putF f v fs) (Nat.add_lt_add_right h 1)
section
variable {P : Program} {w : World} {K : PySem.W.Frag} {mg : Str → Option Value} {base : Heap} {CB CS : Addr}
theorem scBInit : FnScope ["self", "low", "high", "pumps", "width", "salt"] ["self", "low", "high", "pumps", "width", "salt"] (defScope sBInit) := ⟨rfl, rfl, rfl, by decide +kernel, rfl, by decide +kernel, by decide +kernel⟩
theorem ok_binit {f : Addr} {fd : FuncData} (F : Fun K "__init__" "Bounds.__init__" sBInit f fd) (T : Txt K mg CB CS) : FnOk P w K mg base CX0 1 f fd ["self", "low", "high", "pumps", "width", "salt"] (spBInit CB) := by
  refine F.ok scBInit (fun vs H Q E h => ?_) (fun cdv A outer s H vs Q E hr h => ?_)
  · obtain ⟨_, _, _, rfl, _⟩ := h
    rfl
  · obtain ⟨p, dx, s, rfl, hp, k⟩ := h
    refine ⟨_, pss_cons (ps_fld (pv 0) (pv 1) rfl) (pss_cons (ps_fld (pv 0) (pv 2) rfl) (pss_cons (ps_fld (pv 0) (pv 3) rfl) (pss_cons (ps_fld (pv 0) (pv 4) rfl) (pss_one (ps_fld (pv 0) (pv 5) rfl))))), ?_⟩
    refine ⟨_, rfl, _, rfl, p, CB, dx, _, rfl, hp, T.clB, T.nLow, by show 0 < 1000; decide, ?_⟩
    have l0 : ([] : List (Str × V)).length < 1 := by decide
    refine ⟨_, rfl, _, rfl, p, CB, dx, _, rfl, upd_same, T.clB, T.nHigh, Nat.lt_of_lt_of_le (put_lt l0) (by decide), ?_⟩
    refine ⟨_, rfl, _, rfl, p, CB, dx, _, rfl, upd_same, T.clB, T.nPumps, Nat.lt_of_lt_of_le (put_lt (put_lt l0)) (by decide), ?_⟩
    refine ⟨_, rfl, _, rfl, p, CB, dx, _, rfl, upd_same, T.clB, T.nWidth, Nat.lt_of_lt_of_le (put_lt (put_lt (put_lt l0))) (by decide), ?_⟩
    refine ⟨_, rfl, _, rfl, p, CB, dx, _, rfl, upd_same, T.clB, T.nSalt, Nat.lt_of_lt_of_le (put_lt (put_lt (put_lt (put_lt l0)))) (by decide), ?_⟩
    refine k _ ⟨dx, Eq.trans upd_same (congrArg (fun q => some (HO.ins CB dx q)) (bF_new s))⟩ fun b o e hb => ?_
    rw [upd_ne hb, upd_ne hb, upd_ne hb, upd_ne hb, upd_ne hb]
    exact e
/-- what a class's making asks -/
structure Bm (K : PySem.W.Frag) (CB f : Addr) (fd : FuncData) : Prop where
  F : Fun K "__init__" "Bounds.__init__" sBInit f fd
  M : Mk K CB f
  b : Binds K fd ["self", "low", "high", "pumps", "width", "salt"] []
theorem scNoGate : FnScope ["bounds"] ["bounds"] (defScope sNoGate) := ⟨rfl, rfl, rfl, by decide +kernel, rfl, by decide +kernel, by decide +kernel⟩
theorem ok_nogate {f f1 : Addr} {fd fd1 : FuncData} (D : Dn K mg "without_gate" sNoGate ["bounds"] f fd) (T : Txt K mg CB CS) (B : Bm K CB f1 fd1) : FnOk P w K mg base CX0 3 f fd ["bounds"] (spOther CB Sj03.Storm.shut) := by
  have G : FnOk P w K mg base CX0 1 f1 fd1 ["self", "low", "high", "pumps", "width", "salt"] (spBInit CB) := ok_binit B.F T
  refine D.F.ok scNoGate (fun vs H Q E h => ?_) (fun cdv A outer s H vs Q E hr h => ?_)
  · obtain ⟨_, _, rfl, _⟩ := h
    rfl
  · obtain ⟨b, s, rfl, ⟨dx, hb⟩, k⟩ := h
    refine ⟨_, pss_one (ps_ret (pe_make B.M G hr rfl T.gB B.b .nil pass0 (pa_cons (pe_fld (pv 0) rfl) (pa_cons (pe_fld (pv 0) rfl) (pa_cons (pe_fld (pv 0) rfl) (pa_cons pe_int (pa_cons (pe_fld (pv 0) rfl) pa_nil))))))), ?_⟩
    refine ⟨_, rfl, b, CB, dx, _, _, rfl, hb, T.clB, T.nLow, bF_low s, _, rfl, b, CB, dx, _, _, rfl, hb, T.clB, T.nHigh, bF_high s, _, rfl, b, CB, dx, _, _, rfl, hb, T.clB, T.nPumps, bF_pumps s,
      _, rfl, b, CB, dx, _, _, rfl, hb, T.clB, T.nSalt, bF_salt s, fun x dx nx nd ne => ?_⟩
    exact ⟨x, dx, s.shut, rfl, upd_same, fun H' hB kp => ⟨rfl, k H' x (Same.made nx nd kp) hB⟩⟩
theorem scNoPumps : FnScope ["bounds"] ["bounds"] (defScope sNoPumps) := ⟨rfl, rfl, rfl, by decide +kernel, rfl, by decide +kernel, by decide +kernel⟩
theorem ok_nopumps {f f1 : Addr} {fd fd1 : FuncData} (D : Dn K mg "without_pumps" sNoPumps ["bounds"] f fd) (T : Txt K mg CB CS) (B : Bm K CB f1 fd1) : FnOk P w K mg base CX0 3 f fd ["bounds"] (spOther CB Sj03.Storm.still) := by
  have G : FnOk P w K mg base CX0 1 f1 fd1 ["self", "low", "high", "pumps", "width", "salt"] (spBInit CB) := ok_binit B.F T
  refine D.F.ok scNoPumps (fun vs H Q E h => ?_) (fun cdv A outer s H vs Q E hr h => ?_)
  · obtain ⟨_, _, rfl, _⟩ := h
    rfl
  · obtain ⟨b, s, rfl, ⟨dx, hb⟩, k⟩ := h
    refine ⟨_, pss_one (ps_ret (pe_make B.M G hr rfl T.gB B.b .nil pass0 (pa_cons (pe_fld (pv 0) rfl) (pa_cons (pe_fld (pv 0) rfl) (pa_cons pe_int (pa_cons (pe_fld (pv 0) rfl) (pa_cons (pe_fld (pv 0) rfl) pa_nil))))))), ?_⟩
    refine ⟨_, rfl, b, CB, dx, _, _, rfl, hb, T.clB, T.nLow, bF_low s, _, rfl, b, CB, dx, _, _, rfl, hb, T.clB, T.nHigh, bF_high s, _, rfl, b, CB, dx, _, _, rfl, hb, T.clB, T.nWidth, bF_width s,
      _, rfl, b, CB, dx, _, _, rfl, hb, T.clB, T.nSalt, bF_salt s, fun x dx nx nd ne => ?_⟩
    exact ⟨x, dx, s.still, rfl, upd_same, fun H' hB kp => ⟨rfl, k H' x (Same.made nx nd kp) hB⟩⟩
theorem scUpTop : FnScope ["bounds"] ["bounds"] (defScope sUpTop) := ⟨rfl, rfl, rfl, by decide +kernel, rfl, by decide +kernel, by decide +kernel⟩
theorem ok_uptop {f f1 : Addr} {fd fd1 : FuncData} (D : Dn K mg "up_to_top" sUpTop ["bounds"] f fd) (T : Txt K mg CB CS) (B : Bm K CB f1 fd1) : FnOk P w K mg base CX0 3 f fd ["bounds"] (spOther CB fun s => high s 60) := by
  have G : FnOk P w K mg base CX0 1 f1 fd1 ["self", "low", "high", "pumps", "width", "salt"] (spBInit CB) := ok_binit B.F T
  refine D.F.ok scUpTop (fun vs H Q E h => ?_) (fun cdv A outer s H vs Q E hr h => ?_)
  · obtain ⟨_, _, rfl, _⟩ := h
    rfl
  · obtain ⟨b, s, rfl, ⟨dx, hb⟩, k⟩ := h
    refine ⟨_, pss_one (ps_ret (pe_make B.M G hr rfl T.gB B.b .nil pass0 (pa_cons (pe_fld (pv 0) rfl) (pa_cons (glob_int rfl T.top) (pa_cons (pe_fld (pv 0) rfl) (pa_cons (pe_fld (pv 0) rfl) (pa_cons (pe_fld (pv 0) rfl) pa_nil))))))), ?_⟩
    refine ⟨_, rfl, b, CB, dx, _, _, rfl, hb, T.clB, T.nLow, bF_low s, _, rfl, b, CB, dx, _, _, rfl, hb, T.clB, T.nPumps, bF_pumps s, _, rfl, b, CB, dx, _, _, rfl, hb, T.clB, T.nWidth, bF_width s,
      _, rfl, b, CB, dx, _, _, rfl, hb, T.clB, T.nSalt, bF_salt s, fun x dx nx nd ne => ?_⟩
    exact ⟨x, dx, high s 60, rfl, upd_same, fun H' hB kp => ⟨rfl, k H' x (Same.made nx nd kp) hB⟩⟩
theorem scAsTold : FnScope ["stands", "bounds"] ["stands", "bounds"] (defScope sAsTold) := ⟨rfl, rfl, rfl, by decide +kernel, rfl, by decide +kernel, by decide +kernel⟩
theorem ok_astold {f : Addr} {fd : FuncData} (D : Dn K mg "as_told" sAsTold ["stands", "bounds"] f fd) (T : Txt K mg CB CS) : FnOk P w K mg base CX0 1 f fd ["stands", "bounds"] (spAsTold CB) := by
  refine D.F.ok scAsTold (fun vs H Q E h => ?_) (fun cdv A outer s H vs Q E hr h => ?_)
  · obtain ⟨_, _, _, rfl, _⟩ := h
    rfl
  · obtain ⟨b, st, s, rfl, ⟨dx, hb⟩, k⟩ := h
    refine ⟨_, pss_cons (ps_if (pt_cmpR op_gt (pv 0) (glob_int rfl T.top) (nomark _)) (pss_one (ps_ret pe_bl)) pss_nil)
      (pss_cons (ps_if (PW.pt (pw_or (pt_cmpR op_gt (pe_fld (pv 1) rfl) (glob_int rfl T.top) (nomark _)) (pw_or1 (pt_cmpR op_gt (pe_fld (pv 1) rfl) (pe_fld (pv 1) rfl) (nomark _))))) (pss_one (ps_ret pe_bl)) pss_nil)
      (pss_one (ps_ret (pe_and (pe_cmpR op_le (pe_fld (pv 1) rfl) (glob_int rfl T.mostPumps) (nomark _)) (pe_and (pe_cmpR op_le (pe_fld (pv 1) rfl) (glob_int rfl T.mostWidth) (nomark _)) (pe_one (pe_cmpR op_le (pe_fld (pv 1) rfl) (glob_int rfl T.mostSalt) (nomark _)))))))), ?_⟩
    have no : ¬ Begun st s → Q (.bl false) H := fun z => by
      rw [decide_eq_false z] at k
      exact k
    refine ⟨_, rfl, _, _, rfl, rfl, _, rfl, if_dec (fun c => ?_) fun c1 => ?_⟩
    · exact no fun z => absurd z.1 (by omega)
    refine ⟨_, rfl, b, CB, dx, _, _, rfl, hb, T.clB, T.nHigh, bF_high s, _, _, rfl, rfl, _, rfl, if_dec (fun c => ?_) fun c2 => ?_⟩
    · exact iteT (no fun z => absurd z.2.1.1 (by omega))
    refine ⟨_, rfl, b, CB, dx, _, _, rfl, hb, T.clB, T.nLow, bF_low s, _, rfl, b, CB, dx, _, _, rfl, hb, T.clB, T.nHigh, bF_high s, _, _, rfl, rfl, _, rfl, if_dec (fun c => ?_) fun c3 => ?_⟩
    · exact no fun z => absurd z.2.1.2 (by omega)
    refine ⟨_, rfl, b, CB, dx, _, _, rfl, hb, T.clB, T.nPumps, bF_pumps s, _, _, rfl, rfl, _, rfl, if_dec (fun c4 => ?_) fun c => ?_⟩
    · refine ⟨_, rfl, b, CB, dx, _, _, rfl, hb, T.clB, T.nWidth, bF_width s, _, _, rfl, rfl, _, rfl, if_dec (fun c5 => ?_) fun c => ?_⟩
      · refine ⟨_, rfl, b, CB, dx, _, _, rfl, hb, T.clB, T.nSalt, bF_salt s, _, _, rfl, rfl, ?_⟩
        have e : decide (Begun st s) = decide (((s.salt : Nat) : Int) ≤ 100) := by
          apply decide_eq_decide.mpr
          unfold Begun
          omega
        rw [e] at k
        exact k
      · exact no fun z => absurd z.2.2.2.1 (by omega)
    · exact no fun z => absurd z.2.2.1 (by omega)
end
end Sg

namespace Sg
open PySem PySem.Spec PyProof.Rows L2
open PySem.W (Codec)
open Sj03 (Storm Hour)

/-! ### how high it has to be let stand -/
def spNeedAt (CB : Addr) : Sp := fun vs H Q _ => ∃ (b p l : Addr) (s : Storm) (h : Hour) (w : Nat) (g : Nat → Nat), vs = [.ref b, .ref p, nat w, .ref l] ∧ BAt CB H b s ∧ HrAt H p h ∧ RowAt H l g ∧ (s.high ≤ 60 ∧ s.pumps ≤ 12) ∧
  Q (nat (goO (stepN s h w g) 61 (s.pumps + 1) 2)) H
def needI (s : Storm) (hs : List Hour) (w : Nat) : Int := if need (high s 60) hs w = 61 then -6 else ((need (high s 60) hs w : Nat) : Int)
def spNeeded (CB : Addr) : Sp := fun vs H Q _ => ∃ (b l : Addr) (s : Storm) (as : List Addr) (hs : List Hour) (w : Nat), vs = [.ref b, nat w, .ref l] ∧ BAt CB H b s ∧ HrsAt H l as hs ∧ Ok s ∧ w ≤ 60 ∧
  ∀ H' : Hp, Same H H' → Q (.int (needI s hs w)) H'
theorem row_at {g : Nat → Nat} {u : Nat} (hu : u < 61) : ((List.range 61).map fun v => nat (g v))[u]? = some (nat (g u)) := by
  rw [List.getElem?_map, List.getElem?_range hu]
  rfl
theorem max_nat (a b : Nat) : (if ((b : Nat) : Int) > ((a : Nat) : Int) then ((b : Nat) : Int) else ((a : Nat) : Int)) = ((max a b : Nat) : Int) := by
  by_cases c : ((b : Nat) : Int) > ((a : Nat) : Int)
  · rw [if_pos c]
    omega
  · rw [if_neg c]
    omega
theorem min_nat (a b : Nat) : (if ((b : Nat) : Int) < ((a : Nat) : Int) then ((b : Nat) : Int) else ((a : Nat) : Int)) = ((min a b : Nat) : Int) := by
  by_cases c : ((b : Nat) : Int) < ((a : Nat) : Int)
  · rw [if_pos c]
    omega
  · rw [if_neg c]
    omega
section
variable {P : Program} {w : World} {K : PySem.W.Frag} {mg : Str → Option Value} {base : Heap} {CB CS : Addr}
theorem scNeedAt : FnScope ["bounds", "hour", "level", "later", "least", "gate", "pumped", "after"] ["bounds", "hour", "level", "later"] (defScope sNeedAt) := ⟨rfl, rfl, rfl, by decide +kernel, rfl, by decide +kernel, by decide +kernel⟩
theorem ok_needat {f f1 f2 : Addr} {fd fd1 fd2 : FuncData} (D : Dn K mg "need_at" sNeedAt ["bounds", "hour", "level", "later"] f fd) (T : Txt K mg CB CS)
    (D1 : Dn K mg "behind" sBehind ["bounds", "hour", "level", "gate", "pumped"] f1 fd1) (G1 : FnOk P w K mg base CX0 2 f1 fd1 ["bounds", "hour", "level", "gate", "pumped"] (spBehind CB))
    (D2 : Dn K mg "wrong" sWrong ["bounds", "pumped", "after"] f2 fd2) (G2 : FnOk P w K mg base CX0 1 f2 fd2 ["bounds", "pumped", "after"] (spWrong CB)) :
    FnOk P w K mg base CX0 3 f fd ["bounds", "hour", "level", "later"] (spNeedAt CB) := by
  refine D.F.ok scNeedAt (fun vs H Q E h => ?_) (fun cdv A outer s H vs Q E hr h => ?_)
  · obtain ⟨_, _, _, _, _, _, _, rfl, _⟩ := h
    rfl
  · obtain ⟨b, p, l, s, h, w, g, rfl, ⟨dx, hb⟩, hh, ht, ⟨hhi, hpu⟩, k⟩ := h
    have hr1 : Room 1 _ := hr.mono (by decide)
    refine ⟨_, pss_cons (ps_set (i := 4) scNeedAt.nd rfl (Or.inl rfl) (glob_int rfl T.noneCan))
      (pss_cons (ps_for PassesOwn.never rfl (pi_range1 rfl T.range (pa_cons pe_int pa_nil)) (pg_name (i := 5) scNeedAt.nd rfl (Or.inl rfl))
        (pss_one (ps_for PassesOwn.never rfl (pi_range1 rfl T.range (pa_cons (pe_op op_add (pe_fld (pv 0) rfl) pe_int) pa_nil)) (pg_name (i := 6) scNeedAt.nd rfl (Or.inl rfl))
          (pss_cons (ps_set (i := 7) scNeedAt.nd rfl (Or.inl rfl) (pe_call G1 hr rfl D1.g D1.F.kp D1.b .nil pass0 (pa_cons (pv 0) (pa_cons (pv 1) (pa_cons (pv 2) (pa_cons (pv 5) (pa_cons (pv 6) pa_nil)))))))
          (pss_one (ps_if (pt_cmpR op_eq (pe_call G2 hr1 rfl D2.g D2.F.kp D2.b .nil pass0 (pa_cons (pv 0) (pa_cons (pv 6) (pa_cons (pv 7) pa_nil)))) pe_int (nomark _))
            (pss_one (ps_set (i := 4) scNeedAt.nd rfl (Or.inl rfl) (pe_callB (call_min2 rfl) (by rfl) T.min (by decide +kernel) (pa_cons (pv 4) (pa_cons
              (pe_callB (call_max2 rfl) (by rfl) T.max (by decide +kernel) (pa_cons (pv 7) (pa_cons (pe_ix ix_list (pv 3) (pv 7) (fun _ _ => rfl)) pa_nil))) pa_nil)))))
            pss_nil))))))
      (pss_one (ps_ret (pv 4)))), ?_⟩
    refine ⟨2, rfl, by decide, by decide, for_range (lo := 0) (n := 2) (fun i σ H' => ∃ v5 v6 v7 : Option V, σ = [some (.ref b), some (.ref p), some (nat w), some (.ref l), some (nat (goO (stepN s h w g) 61 (s.pumps + 1) i)), v5, v6, v7] ∧ H' = H)
      ⟨none, none, none, rfl, rfl⟩ ?_ ?_⟩
    · rintro i σ H1 hi ⟨v5, v6, v7, rfl, rfl⟩
      refine ⟨_, rfl, b, CB, dx, _, _, rfl, hb, T.clB, T.nPumps, bF_pumps s, _, _, rfl, rfl, _, rfl, by omega, by omega, for_range (lo := 0) (n := s.pumps + 1)
        (fun j σ H' => ∃ v6 v7 : Option V, σ = [some (.ref b), some (.ref p), some (nat w), some (.ref l), some (nat (goX (stepN s h w g) (goO (stepN s h w g) 61 (s.pumps + 1) i) i j)), some (nat i), v6, v7] ∧ H' = H1) ⟨v6, v7, by rw [int0]; rfl, rfl⟩ ?_ ?_⟩
      · rintro j σ H2 hj ⟨v6, v7, rfl, rfl⟩
        rw [int0]
        refine ⟨_, rfl, _, rfl, _, rfl, _, rfl, _, rfl, b, p, s, h, w, i, j, rfl, ⟨dx, hb⟩, hh, ?_⟩
        refine ⟨_, rfl, _, rfl, _, rfl, b, s, j, _, rfl, ⟨dx, hb⟩, rfl, _, rfl, if_dec (fun c => ?_) fun c => ?_⟩
        · have z : s.wrong w h i j = 0 := by
            have e := V.int.inj c
            rw [wrongI_is] at e
            omega
          have z' := wrong_zero.mp z
          rw [lvl_nat z]
          refine ⟨_, rfl, _, rfl, _, rfl, _, rfl, l, _, _, _, rfl, rfl, SqL.of ht, at_of (j := (s.gate w h i).1 - j) rfl (row_at (by omega)), _, _, rfl, _, _, rfl, ?_⟩
          refine ⟨some (nat j), some (nat ((s.gate w h i).1 - j)), ?_, rfl⟩
          rw [goX_succ, max_nat, min_nat]
          show _ = [_, _, _, _, some (nat (stepN s h w g _ i j)), _, _, _]
          rw [show stepN s h w g (goX (stepN s h w g) (goO (stepN s h w g) 61 (s.pumps + 1) i) i j) i j = _ from if_neg (fun q => q z)]
          rfl
        · have z : ¬ s.wrong w h i j = 0 := fun z => c (by rw [wrongI_is, z]; rfl)
          refine ⟨some (nat j), some (.int (lvl s h w i j)), ?_, rfl⟩
          rw [goX_succ]
          rw [show stepN s h w g (goX (stepN s h w g) (goO (stepN s h w g) 61 (s.pumps + 1) i) i j) i j = _ from if_pos z]
          rfl
      · rintro σ H2 ⟨v6, v7, rfl, rfl⟩
        exact ⟨some (nat i), v6, v7, by rw [goO_succ], rfl⟩
    · rintro σ H1 ⟨v5, v6, v7, rfl, rfl⟩
      exact ⟨_, rfl, k⟩
theorem scNeeded : FnScope ["bounds", "stands", "hours", "widest", "later", "hour", "level"] ["bounds", "stands", "hours"] (defScope sNeeded) := ⟨rfl, rfl, rfl, by decide +kernel, rfl, by decide +kernel, by decide +kernel⟩
theorem ok_needed {f f1 f2 : Addr} {fd fd1 fd2 : FuncData} (D : Dn K mg "needed" sNeeded ["bounds", "stands", "hours"] f fd) (T : Txt K mg CB CS)
    (D1 : Dn K mg "up_to_top" sUpTop ["bounds"] f1 fd1) (G1 : FnOk P w K mg base CX0 3 f1 fd1 ["bounds"] (spOther CB fun s => high s 60))
    (D2 : Dn K mg "need_at" sNeedAt ["bounds", "hour", "level", "later"] f2 fd2) (G2 : FnOk P w K mg base CX0 3 f2 fd2 ["bounds", "hour", "level", "later"] (spNeedAt CB)) :
    FnOk P w K mg base CX0 4 f fd ["bounds", "stands", "hours"] (spNeeded CB) := by
  refine D.F.ok scNeeded (fun vs H Q E h => ?_) (fun cdv A outer s H vs Q E hr h => ?_)
  · obtain ⟨_, _, _, _, _, _, rfl, _⟩ := h
    rfl
  · obtain ⟨b, l, s, as, hs, w, rfl, hb, hh, hok, hw, k⟩ := h
    refine ⟨_, pss_cons (ps_set (i := 3) scNeeded.nd rfl (Or.inr rfl) (pe_call G1 hr rfl D1.g D1.F.kp D1.b .nil pass0 (pa_cons (pv 0) pa_nil)))
      (pss_cons (ps_set (i := 4) scNeeded.nd rfl (Or.inr rfl) (pe_op op_rep (pe_lst (pa_cons (pe_fld (pv 0) rfl) pa_nil)) (pe_op op_add (glob_int rfl T.top) pe_int)))
      (pss_cons (ps_for PassesOwn.never rfl (pi_reversed rfl T.reversed (pa_cons (pv 2) pa_nil)) (pg_name (i := 5) scNeeded.nd rfl (Or.inr rfl))
        (pss_one (ps_set (i := 4) scNeeded.nd rfl (Or.inr rfl)
          (pe_lc (own := [("level", 6)]) (g := gName 6) (tt := tYes) rfl scNeeded.nd (pi_range1 rfl T.range (pa_cons (pe_op op_add (glob_int rfl T.top) pe_int) pa_nil)) (blkOk_by (N := ["bounds", "stands", "hours", "widest", "later", "hour", "level"]) (sc := defScope sNeeded) (by decide +kernel))
            (fun _ _ _ _ _ => pg_name (i := 6) scNeeded.nd rfl (Or.inl rfl)) (fun _ _ _ _ _ => pts_nil)
            (fun _ _ _ _ _ => pe_call G2 hr rfl D2.g D2.F.kp D2.b .nil pass0 (pa_cons (pv 3) (pa_cons (pv 5) (pa_cons (pv 6) (pa_cons (pv 4) pa_nil)))))))))
      (pss_cons (ps_if (pt_cmpR op_eq (pe_ix ix_list (pv 4) (pv 1) (fun _ _ => rfl)) (glob_int rfl T.noneCan) (nomark _)) (pss_one (ps_ret (pe_un un_neg pe_int))) pss_nil)
      (pss_one (ps_ret (pe_ix ix_list (pv 4) (pv 1) (fun _ _ => rfl))))))), ?_⟩
    refine ⟨_, rfl, b, s, rfl, hb, fun H1 b' s1 hb1 => ?_⟩
    obtain ⟨dx, hbx⟩ := hb.same s1
    refine ⟨_, rfl, b, CB, dx, _, _, rfl, hbx, T.clB, T.nLow, bF_low s, by show 1 ≤ sizeLine; decide, fun p1 hp1 => ⟨_, _, rfl, rfl, p1, _, _, rfl, rfl, upd_same, by decide, by decide, by show 1 * 61 ≤ sizeLine; decide, fun p2 hp2 => ?_⟩⟩
    have s2 : Same H1 (upd (upd H1 p1 (.lst [nat s.low])) p2 (.lst (List.replicate 61 [nat s.low]).flatten)) := (same_upd hp1).trans (same_upd hp2)
    refine ⟨_, rfl, l, as.map V.ref, rfl, SqL.of (s2 _ _ (s1 _ _ hh.lst)), for_it (walk_rev (K := K) (a := l) (xs := as.map V.ref)) (fun i σ H' => ∃ (v5 v6 : Option V) (r : Addr), σ = [some (.ref b), some (nat w), some (.ref l), some (.ref b'), some (.ref r), v5, v6] ∧ Same H1 H' ∧
        RowAt H' r (need (high s 60) (hs.drop (hs.length - i))))
      ⟨none, none, p2, rfl, s2, ?_⟩ (fun i σ H' _ ⟨_, _, _, _, s3, _⟩ => SqL.of (s3 _ _ (s1 _ _ hh.lst))) ?_ ?_⟩
    · unfold RowAt
      rw [Nat.sub_zero, List.drop_length]
      refine Eq.trans upd_same ?_
      show some (HO.lst (List.replicate 61 [nat s.low]).flatten) = _
      rw [rep_flat]
      rfl
    · rintro i x σ H2 H2' hi ⟨v5, v6, r, rfl, s3, hrow⟩ ⟨rfl, hx⟩
      rw [List.length_map, hh.len] at hi hx
      obtain ⟨m, em⟩ : ∃ m, hs.length = m + 1 + i := ⟨hs.length - 1 - i, by omega⟩
      have e0 : hs.length - 1 - i = m := by omega
      have e1 : hs.length - i = m + 1 := by omega
      have e2 : hs.length - (i + 1) = m := by omega
      rw [e0] at hx
      rw [e1] at hrow
      obtain ⟨h, hm⟩ : ∃ h, hs[m]? = some h := ⟨_, List.getElem?_eq_getElem (by omega)⟩
      obtain ⟨p, hp, hhp⟩ := hh.at_ m h hm
      rw [List.getElem?_map, hp] at hx
      obtain rfl : V.ref p = x := Option.some.inj hx
      refine ⟨60, 1, rfl, rfl, 61, rfl, by decide, by decide, fun L hL => lc_range (lo := 0) (n := 61) (fun u H3 => Same H2' H3 ∧ H3 L = some (.lst ((List.range u).map fun v => nat (need (high s 60) (h :: hs.drop (m + 1)) v))))
        ⟨same_upd hL, upd_same⟩ ?_ ?_⟩
      · rintro u H3 hu ⟨s4, hL3⟩
        rw [int0]
        refine ⟨rfl, ?_⟩
        refine ⟨_, rfl, _, rfl, _, rfl, _, rfl, b', p, r, high s 60, h, u, _, rfl, (hb1.same s3).same s4, s4 _ _ (s3 _ _ (s1 _ _ hhp)), s4 _ _ hrow, ⟨Nat.le_refl _, hok.pu⟩, ?_⟩
        refine ⟨_, hL3, small1000 (by rw [List.length_map, List.length_range]; omega), ?_, ?_⟩
        · intro c o z
          rw [upd_ne (ne_of_none z hL)]
          exact s4 _ _ z
        · rw [upd_same, List.range_succ, List.map_append]
          rfl
      · rintro H3 ⟨s4, hL3⟩
        refine ⟨_, _, L, rfl, s3.trans s4, ?_⟩
        rw [e2, drop_cons hm]
        exact hL3
    · rintro σ H2 ⟨v5, v6, r, rfl, s3, hrow⟩
      rw [List.length_map, hh.len, Nat.sub_self, List.drop_zero] at hrow
      have k2 := k H2 (s1.trans s3)
      unfold needI at k2
      refine ⟨_, rfl, _, rfl, r, _, _, _, rfl, rfl, SqL.of hrow, at_of (j := w) rfl (row_at (by omega)), rfl, _, rfl, if_dec (fun c => ?_) fun c => ?_⟩
      · rw [if_pos (by have := V.int.inj c; omega)] at k2
        exact ⟨_, rfl, k2⟩
      · rw [if_neg (fun q => c (by rw [q]; rfl))] at k2
        exact ⟨_, rfl, _, rfl, r, _, _, _, rfl, rfl, SqL.of hrow, at_of (j := w) rfl (row_at (by omega)), k2⟩
end
end Sg

namespace Sg
open PySem PySem.Spec PyProof.Rows L2
open PySem.W (Codec)
open Sj03 (Storm Hour)

/-! ### a plan that is handed in -/
def PlanP (l : List Nat) (n : Nat) : Prop := l.length = 2 * n ∧ ∀ j, j < n → ∀ o, l[2 * j]? = some o → o < 2
theorem told_plan (s : Storm) (l : List Nat) : PlanP l s.hours.length ↔ s.told l = true := by
  by_cases h : l.length = 2 * s.hours.length
  · rw [told_iff h]
    exact ⟨fun q => q.2, fun q => ⟨h, q⟩⟩
  · rw [told_len h]
    exact ⟨fun q => absurd q.1 h, fun q => nomatch q⟩
def checkL (s : Storm) (l : List Nat) : List Int := if s.told l = false then [-1] else match s.goes 0 s.stands s.hours l with
  | .error x => [-6, ((x.1 : Nat) : Int), ((x.2 : Nat) : Int)]
  | .ok r => ((s.cost l : Nat) : Int) :: (r.map fun x => x.1).map fun (n : Nat) => (n : Int)
def spIsPlan : Sp := fun vs H Q _ => ∃ (d : Addr) (l : List Nat) (n : Nat), vs = [.ref d, nat n] ∧ H d = some (.lst (l.map nat)) ∧ n ≤ 6 ∧ ∀ k : Bool, (k = true ↔ PlanP l n) → Q (.bl k) H
def spTry (CB : Addr) : Sp := fun vs H Q _ => ∃ (b hl d : Addr) (s : Storm) (as : List Addr) (l : List Nat), vs = [.ref b, nat s.stands, .ref hl, .ref d] ∧ BAt CB H b s ∧ HrsAt H hl as s.hours ∧ Ok s ∧ H d = some (.lst (l.map nat)) ∧
  ∀ (H' : Hp) (p : Addr), Same H H' → H p = none → H' p = some (.lst ((checkL s l).map V.int)) → Q (.ref p) H'
theorem map_at {l : List Nat} {j o : Nat} (h : l[j]? = some o) : (l.map nat)[j]? = some (nat o) := by
  rw [List.getElem?_map, h]
  rfl
section
variable {P : Program} {w : World} {K : PySem.W.Frag} {mg : Str → Option Value} {base : Heap} {CB CS : Addr}
theorem scIsPlan : FnScope ["doings", "many_hours", "at"] ["doings", "many_hours"] (defScope sIsPlan) := ⟨rfl, rfl, rfl, by decide +kernel, rfl, by decide +kernel, by decide +kernel⟩
theorem ok_isplan {f : Addr} {fd : FuncData} (D : Dn K mg "is_plan" sIsPlan ["doings", "many_hours"] f fd) (T : Txt K mg CB CS) : FnOk P w K mg base CX0 1 f fd ["doings", "many_hours"] spIsPlan := by
  refine D.F.ok scIsPlan (fun vs H Q E h => ?_) (fun cdv A outer s H vs Q E hr h => ?_)
  · obtain ⟨_, _, _, rfl, _⟩ := h
    rfl
  · obtain ⟨d, l, n, rfl, hd, hn, k⟩ := h
    refine ⟨_, pss_cons (ps_if (pt_cmpR op_ne (pe_callB call_len_seq (by rfl) T.len PySem.boot_len (pa_cons (pv 0) pa_nil)) (pe_op op_mul pe_int (pv 1)) (nomark _)) (pss_one (ps_ret pe_bl)) pss_nil)
      (pss_cons (ps_for PassesOwn.never rfl (pi_range1 rfl T.range (pa_cons (pv 1) pa_nil)) (pg_name (i := 2) scIsPlan.nd rfl (Or.inl rfl))
        (pss_one (ps_if (pt_cmpR op_gt (pe_ix ix_list (pv 0) (pe_op op_mul pe_int (pv 2)) (fun _ _ => rfl)) pe_int (nomark _)) (pss_one (ps_ret pe_bl)) pss_nil)))
      (pss_one (ps_ret pe_bl))), ?_⟩
    refine ⟨_, rfl, d, _, rfl, .inl (SqL.of hd), _, rfl, _, _, rfl, rfl, .inl ⟨by decide, by decide⟩, rfl, _, rfl, if_ndec (fun c => ?_) fun c => ?_⟩
    · refine k false ⟨fun q => (nomatch q), fun q => absurd ?_ c⟩
      have e := q.1
      show V.int (((l.map nat).length : Nat) : Int) = V.int (2 * (n : Int))
      rw [List.length_map, e]
      exact congrArg V.int (by omega)
    · have hl : l.length = 2 * n := by
        have e := V.int.inj c
        rw [List.length_map] at e
        omega
      refine ⟨_, rfl, _, rfl, by omega, by omega, for_range (lo := 0) (n := n) (fun i σ H' => ∃ v2 : Option V, σ = [some (.ref d), some (nat n), v2] ∧ H' = H ∧ ∀ j, j < i → ∀ o, l[2 * j]? = some o → o < 2)
        ⟨none, rfl, rfl, fun j hj => absurd hj (Nat.not_lt_zero _)⟩ ?_ ?_⟩
      · rintro i σ H1 hi ⟨v2, rfl, rfl, hall⟩
        rw [int0]
        obtain ⟨o, ho⟩ : ∃ o, l[2 * i]? = some o := ⟨_, List.getElem?_eq_getElem (by omega)⟩
        refine ⟨_, rfl, _, rfl, _, _, rfl, rfl, .inl ⟨by decide, by decide⟩, d, _, _, _, rfl, rfl, SqL.of hd, at_of (j := 2 * i) (v := nat o) (by omega) (map_at ho), _, _, rfl, rfl, _, rfl, if_dec (fun c => ?_) fun c => ?_⟩
        · refine k false ⟨fun q => (nomatch q), fun q => ?_⟩
          have := q.2 i hi o ho
          omega
        · refine ⟨_, rfl, rfl, fun j hj o' ho' => ?_⟩
          by_cases e : j = i
          · subst e
            rw [ho] at ho'
            cases ho'
            omega
          · exact hall j (by omega) o' ho'
      · rintro σ H1 ⟨v2, rfl, rfl, hall⟩
        exact k true ⟨fun _ => ⟨hl, hall⟩, fun _ => rfl⟩
theorem scTryPlan : FnScope ["bounds", "stands", "hours", "doings", "cost", "levels", "level", "at", "hour", "gate", "pumped", "after", "fault"] ["bounds", "stands", "hours", "doings"] (defScope sTryPlan) := ⟨rfl, rfl, rfl, by decide +kernel, rfl, by decide +kernel, by decide +kernel⟩
theorem ok_try {f f0 f1 f2 f3 : Addr} {fd fd0 fd1 fd2 fd3 : FuncData} (D : Dn K mg "try_plan" sTryPlan ["bounds", "stands", "hours", "doings"] f fd) (T : Txt K mg CB CS)
    (D0 : Dn K mg "is_plan" sIsPlan ["doings", "many_hours"] f0 fd0) (G0 : FnOk P w K mg base CX0 1 f0 fd0 ["doings", "many_hours"] spIsPlan)
    (D1 : Dn K mg "behind" sBehind ["bounds", "hour", "level", "gate", "pumped"] f1 fd1) (G1 : FnOk P w K mg base CX0 2 f1 fd1 ["bounds", "hour", "level", "gate", "pumped"] (spBehind CB))
    (D2 : Dn K mg "wrong" sWrong ["bounds", "pumped", "after"] f2 fd2) (G2 : FnOk P w K mg base CX0 1 f2 fd2 ["bounds", "pumped", "after"] (spWrong CB))
    (D3 : Dn K mg "costs" sCosts ["bounds", "hour", "level", "gate", "pumped"] f3 fd3) (G3 : FnOk P w K mg base CX0 2 f3 fd3 ["bounds", "hour", "level", "gate", "pumped"] (spCosts CB)) :
    FnOk P w K mg base CX0 3 f fd ["bounds", "stands", "hours", "doings"] (spTry CB) := by
  refine D.F.ok scTryPlan (fun vs H Q E h => ?_) (fun cdv A outer s H vs Q E hr h => ?_)
  · obtain ⟨_, _, _, _, _, _, rfl, _⟩ := h
    rfl
  · obtain ⟨b, hl, d, s, as, l, rfl, hb, hh, hok, hd, k⟩ := h
    have hr1 : Room 1 _ := hr.mono (by decide)
    refine ⟨_, pss_cons (ps_if (pt_not (pt_val (pe_call G0 hr1 rfl D0.g D0.F.kp D0.b .nil pass0 (pa_cons (pv 3) (pa_cons (pe_callB call_len_seq (by rfl) T.len PySem.boot_len (pa_cons (pv 2) pa_nil)) pa_nil))))) (pss_one (ps_ret (pe_lst (pa_cons (pe_un un_neg pe_int) pa_nil)))) pss_nil)
      (pss_cons (ps_set (i := 4) scTryPlan.nd rfl (Or.inl rfl) pe_int)
      (pss_cons (ps_set (i := 5) scTryPlan.nd rfl (Or.inl rfl) (pe_lst pa_nil))
      (pss_cons (ps_set (i := 6) scTryPlan.nd rfl (Or.inl rfl) (pv 1))
      (pss_cons (ps_for PassesOwn.never rfl (pi_enum (by rfl) T.enumerate (pa_cons (pv 2) pa_nil)) (pg_tup rfl (pgs_cons (pg_name (i := 7) scTryPlan.nd rfl (Or.inl rfl)) (pgs_cons (pg_name (i := 8) scTryPlan.nd rfl (Or.inl rfl)) pgs_nil)))
        (pss_cons (ps_set (i := 9) scTryPlan.nd rfl (Or.inl rfl) (pe_ix ix_list (pv 3) (pe_op op_mul pe_int (pv 7)) (fun _ _ => rfl)))
        (pss_cons (ps_set (i := 10) scTryPlan.nd rfl (Or.inl rfl) (pe_ix ix_list (pv 3) (pe_op op_add (pe_op op_mul pe_int (pv 7)) pe_int) (fun _ _ => rfl)))
        (pss_cons (ps_set (i := 11) scTryPlan.nd rfl (Or.inl rfl) (pe_call G1 hr rfl D1.g D1.F.kp D1.b .nil pass0 (pa_cons (pv 0) (pa_cons (pv 8) (pa_cons (pv 6) (pa_cons (pv 9) (pa_cons (pv 10) pa_nil)))))))
        (pss_cons (ps_set (i := 12) scTryPlan.nd rfl (Or.inl rfl) (pe_call G2 hr1 rfl D2.g D2.F.kp D2.b .nil pass0 (pa_cons (pv 0) (pa_cons (pv 10) (pa_cons (pv 11) pa_nil)))))
        (pss_cons (ps_if (pt_cmpR op_ne (pv 12) pe_int (nomark _)) (pss_one (ps_ret (pe_lst (pa_cons (pe_un un_neg pe_int) (pa_cons (pv 7) (pa_cons (pv 12) pa_nil)))))) pss_nil)
        (pss_cons (ps_aug (i := 4) scTryPlan.nd rfl (Or.inl rfl) (pe_call G3 hr rfl D3.g D3.F.kp D3.b .nil pass0 (pa_cons (pv 0) (pa_cons (pv 8) (pa_cons (pv 6) (pa_cons (pv 9) (pa_cons (pv 10) pa_nil)))))) ip_add)
        (pss_cons (ps_expr (pe_bm PySem.F.plainAttrs_list PySem.F.slot_list_append PySem.F.type_list_append mt_append (pv 5) (pa_cons (pv 11) pa_nil)))
        (pss_one (ps_set (i := 6) scTryPlan.nd rfl (Or.inl rfl) (pv 11)))))))))))
      (pss_one (ps_ret (pe_op op_cat (pe_lst (pa_cons (pv 4) pa_nil)) (pv 5)))))))), ?_⟩
    have hlen := hok.hr
    refine ⟨_, rfl, _, rfl, hl, _, rfl, .inl (SqL.of hh.lst), d, l, s.hours.length, by rw [List.length_map, hh.len]; rfl, hd, hlen, fun y hy => ⟨y, rfl, ?_⟩⟩
    have hy' := hy.trans (told_plan s l)
    unfold checkL at k
    cases y with
    | false =>
      have e : s.told l = false := by
        cases q : s.told l with
        | false => rfl
        | true => exact absurd (hy'.mpr q) (by decide)
      rw [if_pos e] at k
      refine if_true_of rfl ?_
      exact ⟨_, rfl, by show 1 ≤ sizeLine; decide, fun p hp => k _ p (same_upd hp) hp upd_same⟩
    | true =>
      have e : ¬ s.told l = false := by
        rw [hy'.mp rfl]
        decide
      rw [if_neg e] at k
      have hl2 : l.length = 2 * s.hours.length := (hy.mp rfl).1
      refine if_false_of rfl ?_
      refine ⟨Nat.zero_le _, fun q hq => ?_⟩
      have nq : H q = none := hq
      have keep : ∀ {H1 : Hp} {o : HO}, Same H H1 → Same H (upd H1 q o) := fun e c u z => by
        rw [upd_ne (ne_of_none z nq)]
        exact e c u z
      refine ⟨_, rfl, _, rfl, hl, as.map V.ref, rfl, SqL.of (same_upd hq _ _ hh.lst), for_it (walk_enum (K := K) (a := hl) (xs := as.map V.ref))
        (fun i σ H' => ∃ (v7 v8 v9 v10 v11 v12 : Option V) (lv : Nat) (pre : List (Nat × Nat)), σ = [some (.ref b), some (nat s.stands), some (.ref hl), some (.ref d), some (nat ((pre.map fun x => x.2).sum)), some (.ref q), some (nat lv), v7, v8, v9, v10, v11, v12] ∧ Same H H' ∧
          H' q = some (.lst ((pre.map fun x => x.1).map nat)) ∧ Goes s l i lv pre ∧ pre.length = i)
        ⟨none, none, none, none, none, none, s.stands, [], rfl, same_upd hq, upd_same, goes_start s l, rfl⟩ (fun i σ H' _ ⟨_, _, _, _, _, _, _, _, _, s1, _⟩ => SqL.of (s1 _ _ hh.lst)) ?_ ?_⟩
      · rintro i x σ H1 H1' hi ⟨v7, v8, v9, v10, v11, v12, lv, pre, rfl, s1, hq1, hg, hpl⟩ ⟨U, y, y', rfl, hU, rfl, ey, ey'⟩
        obtain rfl : V.int ((i : Nat) : Int) = y := Option.some.inj ey
        rw [List.length_map, hh.len] at hi
        obtain ⟨h, hm⟩ : ∃ h, s.hours[i]? = some h := ⟨_, List.getElem?_eq_getElem hi⟩
        obtain ⟨p, hp, hhp⟩ := hh.at_ i h hm
        have ey' : (as.map V.ref)[i]? = some y' := ey'
        rw [List.getElem?_map, hp] at ey'
        obtain rfl : V.ref p = y' := Option.some.inj ey'
        obtain ⟨o, ho⟩ : ∃ o, l[2 * i]? = some o := ⟨_, List.getElem?_eq_getElem (by omega)⟩
        obtain ⟨x, hx⟩ : ∃ x, l[2 * i + 1]? = some x := ⟨_, List.getElem?_eq_getElem (by omega)⟩
        have s2 : Same H (upd H1 U (.tup [V.int ((i : Nat) : Int), .ref p])) := s1.trans (same_upd hU)
        refine ⟨U, _, rfl, SqT.of upd_same, rfl, _, _, rfl, _, _, rfl, rfl, ?_⟩
        refine ⟨_, rfl, _, rfl, _, _, rfl, rfl, .inl ⟨by decide, by decide⟩, d, _, _, _, rfl, rfl, SqL.of (s2 _ _ hd), at_of (j := 2 * i) (v := nat o) (by omega) (map_at ho), ?_⟩
        refine ⟨_, rfl, _, rfl, _, _, rfl, rfl, .inl ⟨by decide, by decide⟩, _, _, rfl, rfl, d, _, _, _, rfl, rfl, SqL.of (s2 _ _ hd), at_of (j := 2 * i + 1) (v := nat x) (by omega) (map_at hx), ?_⟩
        refine ⟨_, rfl, _, rfl, _, rfl, _, rfl, _, rfl, b, p, s, h, lv, o, x, rfl, hb.same s2, s2 _ _ hhp, ?_⟩
        refine ⟨_, rfl, _, rfl, _, rfl, b, s, x, _, rfl, hb.same s2, ?_⟩
        rw [wrongI_is]
        refine ⟨_, rfl, rfl, _, rfl, if_ndec (fun c => ?_) fun c => ?_⟩
        · have z : s.wrong lv h o x ≠ 0 := fun z => c (by rw [z]; rfl)
          rw [goes_wrong hm ho hx hg z] at k
          exact ⟨_, rfl, _, rfl, _, rfl, by show 3 ≤ sizeLine; decide, fun p3 hp3 => k _ p3 (s2.trans (same_upd hp3)) (s2.free hp3) upd_same⟩
        · have z : s.wrong lv h o x = 0 := by
            have := V.int.inj c
            omega
          have z' := wrong_zero.mp z
          have hpu := hok.pu
          rw [lvl_nat z]
          refine ⟨_, rfl, _, rfl, _, rfl, _, rfl, _, rfl, _, rfl, b, p, s, h, lv, o, x, rfl, hb.same s2, s2 _ _ hhp, ⟨by omega, hok.sa⟩, _, _, rfl, rfl, ?_⟩
          have hq2 : upd H1 U (.tup [V.int ((i : Nat) : Int), .ref p]) q = some (.lst ((pre.map fun x => x.1).map nat)) := same_upd hU _ _ hq1
          refine ⟨_, rfl, .inl ⟨rfl, _, SqL.of hq2⟩, _, rfl, q, _, _, rfl, rfl, hq2, small1000 (by rw [List.length_map, List.length_map]; omega), ?_⟩
          refine ⟨_, rfl, some (nat i), some (.ref p), some (nat o), some (nat x), some (nat ((s.gate lv h o).1 - x)), some (nat (s.wrong lv h o x)), (s.gate lv h o).1 - x, pre ++ [((s.gate lv h o).1 - x, s.pays lv h o x)], ?_, keep s2, ?_, goes_step hm ho hx hg z, by rw [List.length_append, hpl]; rfl⟩
          · rw [cast_add, List.map_append, List.map_cons, List.map_nil, sum_snoc]
            rfl
          · rw [upd_same, List.map_append, List.map_append]
            rfl
      · rintro σ H1 ⟨v7, v8, v9, v10, v11, v12, lv, pre, rfl, s1, hq1, hg, hpl⟩
        rw [List.length_map, hh.len] at hg hpl
        have hge := goes_end hg
        rw [hge, cost_ok hge] at k
        refine ⟨_, rfl, by show 1 ≤ sizeLine; decide, fun p3 hp3 => ?_⟩
        refine ⟨_, rfl, p3, q, _, _, rfl, rfl, upd_same, same_upd hp3 _ _ hq1, Nat.le_of_lt (small1000 (by rw [List.length_map, List.length_map, hpl]; show 1 + s.hours.length ≤ 1000; omega)), fun p4 hp4 => ?_⟩
        have s4 := (s1.trans (same_upd hp3)).trans (same_upd (o := .lst ([nat ((pre.map fun x => x.2).sum)] ++ (pre.map fun x => x.1).map nat)) hp4)
        refine k _ p4 s4 ((s1.trans (same_upd hp3)).free hp4) ?_
        refine Eq.trans upd_same ?_
        rw [List.map_cons, List.map_map, List.map_map, List.map_map]
        rfl
end
end Sg

namespace Sg
open PySem PySem.Spec PyProof.Rows L2
open PySem.W (Codec)
open Sj03 (Storm Hour)

/-! ### the calls, taken apart -/
def spLenAt (K : PySem.W.Frag) : Sp := fun vs H Q _ => ∃ (a : Addr) (ns : List Int) (i : Nat) (c : List (List Int)) (t : List Int), vs = [.ref a, nat i] ∧ SqL K H a (ns.map V.int) ∧ Raw c ∧ ns.drop i = flat c ++ t ∧ Q (nat (flat c).length) H
/-- the calls stand apart in new lists, these in the list at p -/
def ApartAt (H H' : Hp) (p : Addr) (cs : List (List (List Int))) : Prop := ∃ qs : List Addr, H' p = some (.lst (qs.map V.ref)) ∧ qs.length = cs.length ∧
  ∀ (j : Nat) c, cs[j]? = some c → ∃ q, qs[j]? = some q ∧ H q = none ∧ H' q = some (.lst ((flat c).map V.int))
def spCallsOf (K : PySem.W.Frag) : Sp := fun vs H Q _ => ∃ (a : Addr) (ns : List Int) (cs : List (List (List Int))), vs = [.ref a] ∧ SqL K H a (ns.map V.int) ∧ (∀ c ∈ cs, Raw c) ∧ ns = (cs.map flat).flatten ∧ ns.length ≤ 1000 ∧
  ∀ (H' : Hp) (p : Addr), Same H H' → H p = none → ApartAt H H' p cs → Q (.ref p) H'
theorem int_at {ns : List Int} {i j : Nat} {z : Int} {m : List Int} {t : List Int} (h : ns.drop i = m ++ t) (hm : m[j]? = some z) : (ns.map V.int)[i + j]? = some (V.int z) := by
  have e : (ns.drop i)[j]? = some z := by
    rw [h, List.getElem?_append_left (List.getElem?_eq_some_iff.mp hm).1]
    exact hm
  rw [List.getElem?_drop] at e
  rw [List.getElem?_map, e]
  rfl
theorem cut_is {ns : List Int} {i : Nat} {m t : List Int} (h : ns.drop i = m ++ t) (hi : i ≤ ns.length) : cutV (ns.map V.int) (some (i : Int)) (some ((i + m.length : Nat) : Int)) = m.map V.int := by
  unfold cutV
  have hl : ns.length = i + (m.length + t.length) := by
    have e := congrArg List.length h
    rw [List.length_drop, List.length_append] at e
    omega
  rw [HT.sIx_nat, HT.sIx_nat, List.length_map, Nat.min_eq_left hi, Nat.min_eq_left (by omega), ← List.map_drop, ← List.map_take, h, Nat.add_sub_cancel_left, List.take_left']
  rfl
/-- there are no more calls than numbers -/
theorem calls_len : ∀ {cs : List (List (List Int))} {ns : List Int} {n : Nat}, (∀ c ∈ cs, Raw c) → ns = (cs.map flat).flatten → ns.length ≤ n → cs.length ≤ n
  | [], _, _, _, _, _ => Nat.zero_le _
  | c :: cs, ns, n, hr, e, h => by
    have h1 := (lenAt_is (hr c (List.mem_cons_self ..)) []).2
    have e2 : ns.length = (flat c).length + ((cs.map flat).flatten).length := by
      rw [e, List.map_cons, List.flatten_cons, List.length_append]
    have h2 := calls_len (n := n - 1) (fun d hd => hr d (List.mem_cons_of_mem _ hd)) (ns := (cs.map flat).flatten) rfl (by omega)
    rw [List.length_cons]
    omega
section
variable {P : Program} {w : World} {K : PySem.W.Frag} {mg : Str → Option Value} {base : Heap} {CB CS : Addr}
theorem scLenAt : FnScope ["calls", "place", "word"] ["calls", "place"] (defScope sLenAt) := ⟨rfl, rfl, rfl, by decide +kernel, rfl, by decide +kernel, by decide +kernel⟩
theorem ok_lenat {f : Addr} {fd : FuncData} (D : Dn K mg "length_at" sLenAt ["calls", "place"] f fd) : FnOk P w K mg base CX0 1 f fd ["calls", "place"] (spLenAt K) := by
  refine D.F.ok scLenAt (fun vs H Q E h => ?_) (fun cdv A outer s H vs Q E hr h => ?_)
  · obtain ⟨_, _, _, _, _, rfl, _⟩ := h
    rfl
  · obtain ⟨a, ns, i, c, t, rfl, hS, hc, hd, k⟩ := h
    refine ⟨_, pss_cons (ps_set (i := 2) scLenAt.nd rfl (Or.inl rfl) (pe_ix ix_list (pv 0) (pv 1) (fun _ _ => rfl)))
      (pss_cons (ps_if (pt_cmpR op_eq (pv 2) pe_int (nomark _)) (pss_one (ps_ret pe_int)) pss_nil)
      (pss_cons (ps_if (pt_cmpR op_eq (pv 2) pe_int (nomark _)) (pss_one (ps_ret pe_int)) pss_nil)
      (pss_cons (ps_if (pt_cmpR op_eq (pv 2) pe_int (nomark _)) (pss_one (ps_ret (pe_op op_add pe_int (pe_ix ix_list (pv 0) (pe_op op_add (pv 1) pe_int) (fun _ _ => rfl))))) pss_nil)
      (pss_one (ps_ret pe_int))))), ?_⟩
    -- the word: its number; what is behind the tests
    suffices go : ∃ z : Int, (flat c)[0]? = some z ∧ (z = 0 → Q (nat 7) H) ∧ (z = 1 → Q (nat 4) H) ∧ (z = 2 → ∃ n : Int, (flat c)[1]? = some n ∧ Q (.int (2 + n)) H) ∧ (z ≠ 0 → z ≠ 1 → z ≠ 2 → Q (nat 1) H) by
      obtain ⟨z, hz, k0, k1, k2, k3⟩ := go
      refine ⟨_, rfl, _, rfl, a, _, _, _, rfl, rfl, hS, at_of (j := i + 0) rfl (int_at hd hz), ?_⟩
      refine ⟨_, rfl, rfl, _, rfl, if_dec (fun q => k0 (V.int.inj q)) fun q0 => ?_⟩
      refine ⟨_, rfl, rfl, _, rfl, if_dec (fun q => k1 (V.int.inj q)) fun q1 => ?_⟩
      refine ⟨_, rfl, rfl, _, rfl, if_dec (fun q => ?_) fun q2 => ?_⟩
      · obtain ⟨n, hn, kn⟩ := k2 (V.int.inj q)
        exact ⟨_, rfl, _, rfl, _, _, rfl, rfl, a, _, _, _, rfl, rfl, hS, at_of (j := i + 1) (by omega) (int_at hd hn), _, _, rfl, rfl, kn⟩
      · exact k3 (fun e => q0 (congrArg V.int e)) (fun e => q1 (congrArg V.int e)) (fun e => q2 (congrArg V.int e))
    cases hc with
    | begins x0 x1 x2 x3 x4 x5 => exact ⟨0, rfl, fun _ => k, fun e => absurd e (by decide), fun e => absurd e (by decide), fun e => absurd rfl e⟩
    | hour x0 x1 x2 => exact ⟨1, rfl, fun e => absurd e (by decide), fun _ => k, fun e => absurd e (by decide), fun _ e => absurd rfl e⟩
    | check r =>
      refine ⟨2, rfl, fun e => absurd e (by decide), fun e => absurd e (by decide), fun _ => ⟨((r.length : Nat) : Int), rfl, ?_⟩, fun _ _ e => absurd rfl e⟩
      have e : (2 : Int) + ((r.length : Nat) : Int) = (((flat [[2], r]).length : Nat) : Int) := by
        show _ = ((r.length + 1 + 1 : Nat) : Int)
        omega
      rw [e]
      exact k
    | best => exact ⟨3, rfl, fun e => absurd e (by decide), fun e => absurd e (by decide), fun e => absurd e (by decide), fun _ _ _ => k⟩
    | shut => exact ⟨4, rfl, fun e => absurd e (by decide), fun e => absurd e (by decide), fun e => absurd e (by decide), fun _ _ _ => k⟩
    | still => exact ⟨5, rfl, fun e => absurd e (by decide), fun e => absurd e (by decide), fun e => absurd e (by decide), fun _ _ _ => k⟩
    | needs => exact ⟨6, rfl, fun e => absurd e (by decide), fun e => absurd e (by decide), fun e => absurd e (by decide), fun _ _ _ => k⟩
theorem scCallsOf : FnScope ["calls", "apart", "place", "behind_it"] ["calls"] (defScope sCallsOf) := ⟨rfl, rfl, rfl, by decide +kernel, rfl, by decide +kernel, by decide +kernel⟩
theorem ok_callsof {f f1 : Addr} {fd fd1 : FuncData} (D : Dn K mg "calls_of" sCallsOf ["calls"] f fd) (T : Txt K mg CB CS)
    (D1 : Dn K mg "length_at" sLenAt ["calls", "place"] f1 fd1) (G1 : FnOk P w K mg base CX0 1 f1 fd1 ["calls", "place"] (spLenAt K)) : FnOk P w K mg base CX0 2 f fd ["calls"] (spCallsOf K) := by
  refine D.F.ok scCallsOf (fun vs H Q E h => ?_) (fun cdv A outer s H vs Q E hr h => ?_)
  · obtain ⟨_, _, _, rfl, _⟩ := h
    rfl
  · obtain ⟨a, ns, cs, rfl, hS, hraw, hns, hlen, k⟩ := h
    refine ⟨_, pss_cons (ps_set (i := 1) scCallsOf.nd rfl (Or.inl rfl) (pe_lst pa_nil))
      (pss_cons (ps_set (i := 2) scCallsOf.nd rfl (Or.inl rfl) pe_int)
      (pss_cons (ps_while PassesOwn.never (pt_cmpR op_lt (pv 2) (pe_callB call_len_seq (by rfl) T.len PySem.boot_len (pa_cons (pv 0) pa_nil)) (nomark _))
        (pss_cons (ps_set (i := 3) scCallsOf.nd rfl (Or.inl rfl) (pe_op op_add (pv 2) (pe_call G1 hr rfl D1.g D1.F.kp D1.b .nil pass0 (pa_cons (pv 0) (pa_cons (pv 2) pa_nil)))))
        (pss_cons (ps_expr (pe_bm PySem.F.plainAttrs_list PySem.F.slot_list_append PySem.F.type_list_append mt_append (pv 1) (pa_cons (pe_slice sl_list (pv 0) (po_some (pv 2)) (po_some (pv 3))) pa_nil)))
        (pss_one (ps_set (i := 2) scCallsOf.nd rfl (Or.inl rfl) (pv 3))))))
      (pss_one (ps_ret (pv 1))))), ?_⟩
    refine ⟨Nat.zero_le _, fun p hp => ?_⟩
    have np : H p = none := hp
    refine while_by (fun σ H' => ∃ (v3 : Option V) (j i : Nat) (qs : List Addr), σ = [some (.ref a), some (.ref p), some (nat i), v3] ∧ Same H H' ∧ j ≤ cs.length ∧ i ≤ ns.length ∧ H' p = some (.lst (qs.map V.ref)) ∧ qs.length = j ∧
        ns.drop i = ((cs.drop j).map flat).flatten ∧ ∀ (m : Nat) c, m < j → cs[m]? = some c → ∃ q, qs[m]? = some q ∧ H q = none ∧ H' q = some (.lst ((flat c).map V.int)) ∧ q ≠ p)
      (fun σ _ => match σ with
        | [_, _, some (.int z), _] => ns.length - z.toNat
        | _ => 0)
      ⟨none, 0, 0, [], rfl, same_upd hp, Nat.zero_le _, Nat.zero_le _, upd_same, rfl, hns, fun m c hm => absurd hm (Nat.not_lt_zero _)⟩ ?_ ?_
    · rintro σ H1 ⟨v3, j, i, qs, rfl, s1, hj, hi, hp1, hl, hd, hall⟩
      refine ⟨_, rfl, _, rfl, a, _, rfl, .inl (s1.seq hS), _, _, rfl, rfl, _, rfl, ?_⟩
      rw [List.length_map]
      by_cases hjl : j < cs.length
      · obtain ⟨c, hc⟩ : ∃ c, cs[j]? = some c := ⟨_, List.getElem?_eq_getElem hjl⟩
        have hcr := hraw c (List.mem_of_getElem? hc)
        have hd2 : ns.drop i = flat c ++ ((cs.drop (j + 1)).map flat).flatten := by
          rw [hd, drop_cons hc]
          rfl
        have hpos : 0 < (flat c).length := (lenAt_is hcr []).2
        have hbound : i + (flat c).length ≤ ns.length := by
          have e := congrArg List.length hd2
          rw [List.length_drop, List.length_append] at e
          omega
        refine if_true_of (decide_eq_true (by omega)) ?_
        refine ⟨_, rfl, _, rfl, _, rfl, a, ns, i, c, _, rfl, s1.seq hS, hcr, hd2, _, _, rfl, rfl, ?_⟩
        show gName 3 (V.int ((i : Int) + (((flat c).length : Nat) : Int))) _ _ _
        rw [cast_add]
        refine ⟨_, rfl, .inl ⟨rfl, _, SqL.of hp1⟩, _, rfl, _, rfl, _, rfl, _, rfl, _, rfl, a, _, rfl, s1.seq hS, fun q hq => ?_⟩
        rw [cut_is hd2 hi]
        have s2 : Same H1 (upd H1 q (.lst ((flat c).map V.int))) := same_upd hq
        have nqp : q ≠ p := fun e => ne_of_none hp1 hq e.symm
        refine ⟨p, _, _, rfl, rfl, s2 _ _ hp1, small1000 ?_, ?_⟩
        · rw [List.length_map, hl]
          exact Nat.le_of_lt (Nat.lt_of_lt_of_le hjl (calls_len hraw hns hlen))
        refine ⟨_, rfl, ⟨some (nat (i + (flat c).length)), j + 1, i + (flat c).length, qs ++ [q], rfl, ?_, hjl, hbound, ?_, ?_, ?_, ?_⟩, ?_⟩
        · intro u o z
          rw [upd_ne (ne_of_none z np)]
          exact s2 _ _ (s1 _ _ z)
        · rw [upd_same, List.map_append]
          rfl
        · rw [List.length_append, hl]
          rfl
        · rw [← List.drop_drop, hd2, List.drop_left']
          rfl
        · intro m c' hm hc'
          by_cases e : m = j
          · subst e
            rw [hc] at hc'
            cases hc'
            refine ⟨q, by rw [List.getElem?_append_right (by omega), hl, Nat.sub_self]; rfl, s1.free hq, ?_, nqp⟩
            rw [upd_ne nqp]
            exact upd_same
          · obtain ⟨r, h1, h2, h3, h4⟩ := hall m c' (by omega) hc'
            refine ⟨r, by rw [List.getElem?_append_left (by omega)]; exact h1, h2, ?_, h4⟩
            rw [upd_ne h4]
            exact s2 _ _ h3
        · show ns.length - (((i + (flat c).length : Nat) : Int)).toNat < ns.length - ((i : Nat) : Int).toNat
          omega
      · have ej : j = cs.length := by omega
        have e0 : ns.drop i = [] := by
          rw [hd, ej, List.drop_length]
          rfl
        have ei : ns.length ≤ i := List.drop_eq_nil_iff.mp e0
        refine if_false_of (decide_eq_false (by omega)) ?_
        refine ⟨_, rfl, k H1 p s1 np ⟨qs, hp1, by omega, fun m c hc => ?_⟩⟩
        obtain ⟨q, h1, h2, h3, _⟩ := hall m c (by have := (List.getElem?_eq_some_iff.mp hc).1; omega) hc
        exact ⟨q, h1, h2, h3⟩
    · rintro σ H1 Q1 Q2 m ⟨x, e1, y, e2, a', ys, e3, h4, i, j, e5, e6, k', e7, q⟩
      exact ⟨x, e1, y, e2, a', ys, e3, h4, i, j, e5, e6, k', e7, m _ _ q⟩
end
end Sg

namespace Sg
open PySem PySem.Spec PyProof.Rows L2
open PySem.W (Codec)
open Sj03 (Storm Hour)

/-! ### the storm -/
theorem SAt.same {CS CB : Addr} {H H' : Hp} {a l : Addr} {s : Storm} (h : SAt CS CB H a l s) (e : Same H H') : SAt CS CB H' a l s :=
  let ⟨dx, b, as, h1, h2, h3⟩ := h; ⟨dx, b, as, e _ _ h1, h2.same e, h3.same e⟩
def spSInit (CS CB : Addr) : Sp := fun vs H Q _ => ∃ (p dx : Addr), vs = [.ref p] ∧ H p = some (.ins CS dx []) ∧
  ∀ (H' : Hp) (l : Addr), SAt CS CB H' p l Sj03.init → (∀ b o, H b = some o → b ≠ p → H' b = some o) → Q .non H'
def spBegins (CS CB : Addr) : Sp := fun vs H Q _ => ∃ (a l b : Addr) (s n : Storm) (st : Nat), vs = [.ref a, nat st, .ref b] ∧ SAt CS CB H a l s ∧ BAt CB H b n ∧ (¬ Begun st n → Q (.int (-1)) H) ∧
  (Begun st n → ∀ (H' : Hp) (l' : Addr), SAt CS CB H' a l' { n with stands := st, hours := [] } → H l' = none → (∀ c o, H c = some o → c ≠ a → H' c = some o) → Q (nat 0) H')
def spTells (CS CB : Addr) : Sp := fun vs H Q _ => ∃ (a l : Addr) (s : Storm) (h : Hour), vs = [.ref a, nat h.rain, nat h.sea, nat h.power] ∧ SAt CS CB H a l s ∧ Ok s ∧
  ∀ H' : Hp, SAt CS CB H' a l (Sj03.step s (.hour h)).1 → (∀ c o, H c = some o → c ≠ l → H' c = some o) → Q (.int (Sj03.step s (.hour h)).2.v) H'
section
variable {P : Program} {w : World} {K : PySem.W.Frag} {mg : Str → Option Value} {base : Heap} {CB CS : Addr}
theorem scSInit : FnScope ["self"] ["self"] (defScope sSInit) := ⟨rfl, rfl, rfl, by decide +kernel, rfl, by decide +kernel, by decide +kernel⟩
theorem ok_sinit {f f1 : Addr} {fd fd1 : FuncData} (F : Fun K "__init__" "Storm.__init__" sSInit f fd) (T : Txt K mg CB CS) (B : Bm K CB f1 fd1) : FnOk P w K mg base CX0 3 f fd ["self"] (spSInit CS CB) := by
  have G : FnOk P w K mg base CX0 1 f1 fd1 ["self", "low", "high", "pumps", "width", "salt"] (spBInit CB) := ok_binit B.F T
  refine F.ok scSInit (fun vs H Q E h => ?_) (fun cdv A outer s H vs Q E hr h => ?_)
  · obtain ⟨_, _, rfl, _⟩ := h
    rfl
  · obtain ⟨p, dx, rfl, hp, k⟩ := h
    refine ⟨_, pss_cons (ps_fld (pv 0) pe_int rfl)
      (pss_cons (ps_fld (pv 0) (pe_make B.M G hr rfl T.gB B.b .nil pass0 (pa_cons pe_int (pa_cons pe_int (pa_cons pe_int (pa_cons pe_int (pa_cons pe_int pa_nil)))))) rfl)
      (pss_one (ps_fld (pv 0) (pe_lst pa_nil) rfl))), ?_⟩
    have l0 : ([] : List (Str × V)).length < 1 := by decide
    refine ⟨_, rfl, p, CS, dx, _, rfl, hp, T.clS, T.nStands, by show 0 < 1000; decide, ?_⟩
    intro x dx' nx nd ne
    refine ⟨x, dx', Sj03.init, rfl, upd_same, fun H2 hB kp => ⟨rfl, ?_⟩⟩
    have s1 := Same.made nx nd kp
    have hp2 := s1 _ _ (upd_same (H := H) (a := p) (o := .ins CS dx (putF "stands" (.int 0) [])))
    refine ⟨_, rfl, p, CS, dx, _, rfl, hp2, T.clS, T.nBounds, Nat.lt_of_lt_of_le (put_lt l0) (by decide), ?_⟩
    refine ⟨Nat.zero_le _, fun l hl => ?_⟩
    refine ⟨_, rfl, p, CS, dx, _, rfl, same_upd hl _ _ upd_same, T.clS, T.nHours, Nat.lt_of_lt_of_le (put_lt (put_lt l0)) (by decide), ?_⟩
    obtain ⟨dxb, hxb⟩ := hB
    have nxp : x ≠ p := ne_of hxb hp2 (by
      intro e
      injection e with e1 e2 e3
      have e4 := congrArg List.length e3
      exact absurd e4 (by decide))
    have nlp : l ≠ p := fun e => by
      subst e
      rw [upd_same] at hl
      cases hl
    have nxl : x ≠ l := ne_of_none (H := H2) hxb (by rw [upd_ne nlp] at hl; exact hl)
    refine k _ l ⟨dx, x, [], ?_, ⟨dxb, ?_⟩, ?_, rfl, fun i h hi => ?_⟩ fun b o e hb => ?_
    · refine Eq.trans upd_same ?_
      exact congrArg (fun q => some (HO.ins CS dx q)) (sF_new 0 x l)
    · rw [upd_ne nxp, upd_ne nxl, upd_ne nxp]
      exact hxb
    · rw [upd_ne nlp]
      exact upd_same
    · exact absurd hi (by simp [Sj03.init])
    · have e1 : upd H p (.ins CS dx (putF "stands" (.int 0) [])) b = some o := by
        rw [upd_ne hb]
        exact e
      have e2 := s1 _ _ e1
      rw [upd_ne hb, upd_ne (ne_of_none (H := H2) e2 (by rw [upd_ne nlp] at hl; exact hl)), upd_ne hb]
      exact e2
theorem scBegins : FnScope ["self", "stands", "bounds"] ["self", "stands", "bounds"] (defScope sBegins) := ⟨rfl, rfl, rfl, by decide +kernel, rfl, by decide +kernel, by decide +kernel⟩
theorem ok_begins {f f1 : Addr} {fd fd1 : FuncData} (F : Fun K "begins" "Storm.begins" sBegins f fd) (T : Txt K mg CB CS)
    (D1 : Dn K mg "as_told" sAsTold ["stands", "bounds"] f1 fd1) (G1 : FnOk P w K mg base CX0 1 f1 fd1 ["stands", "bounds"] (spAsTold CB)) : FnOk P w K mg base CX0 2 f fd ["self", "stands", "bounds"] (spBegins CS CB) := by
  refine F.ok scBegins (fun vs H Q E h => ?_) (fun cdv A outer s H vs Q E hr h => ?_)
  · obtain ⟨_, _, _, _, _, _, rfl, _⟩ := h
    rfl
  · obtain ⟨a, l, b, s, n, st, rfl, ⟨dx, b0, as, ha, hb0, hh⟩, hb, kn, ky⟩ := h
    refine ⟨_, pss_cons (ps_if (pt_not (pt_val (pe_call G1 hr rfl D1.g D1.F.kp D1.b .nil pass0 (pa_cons (pv 1) (pa_cons (pv 2) pa_nil))))) (pss_one (ps_ret (pe_un un_neg pe_int))) pss_nil)
      (pss_cons (ps_fld (pv 0) (pv 1) rfl)
      (pss_cons (ps_fld (pv 0) (pv 2) rfl)
      (pss_cons (ps_fld (pv 0) (pe_lst pa_nil) rfl)
      (pss_one (ps_ret pe_int))))), ?_⟩
    refine ⟨_, rfl, _, rfl, b, st, n, rfl, hb, _, rfl, if_ndec (fun c => ?_) fun c => ?_⟩
    · exact ⟨_, rfl, kn c⟩
    have l3 : (sF s.stands b0 l).length < 4 := by
      show 3 < 4
      decide
    refine ⟨_, rfl, _, rfl, a, CS, dx, _, rfl, ha, T.clS, T.nStands, Nat.lt_of_lt_of_le l3 (by decide), ?_⟩
    refine ⟨_, rfl, _, rfl, a, CS, dx, _, rfl, upd_same, T.clS, T.nBounds, Nat.lt_of_lt_of_le (put_lt l3) (by decide), ?_⟩
    refine ⟨Nat.zero_le _, fun l' hl' => ?_⟩
    refine ⟨_, rfl, a, CS, dx, _, rfl, same_upd hl' _ _ upd_same, T.clS, T.nHours, Nat.lt_of_lt_of_le (put_lt (put_lt l3)) (by decide), ?_⟩
    have nla : l' ≠ a := fun e => by
      subst e
      rw [upd_same] at hl'
      cases hl'
    rw [upd_ne nla, upd_ne nla] at hl'
    obtain ⟨dxb, hxb⟩ := hb
    have nba : b ≠ a := ne_of hxb ha (by
      intro e
      injection e with e1 e2 e3
      have e4 := congrArg List.length e3
      exact absurd e4 (by
        show ¬ (5 = 3)
        decide))
    refine ky c _ l' ⟨dx, b, [], ?_, ⟨dxb, ?_⟩, ?_, rfl, fun i h hi => ?_⟩ hl' fun c o e hc => ?_
    · refine Eq.trans upd_same ?_
      exact congrArg (fun q => some (HO.ins CS dx q)) (sF_put s.stands st b0 b l l')
    · rw [upd_ne nba, upd_ne (ne_of_none hxb hl'), upd_ne nba, upd_ne nba]
      exact hxb
    · rw [upd_ne nla]
      exact upd_same
    · exact absurd hi (by simp)
    · rw [upd_ne hc, upd_ne (ne_of_none e hl'), upd_ne hc, upd_ne hc]
      exact e
theorem scTells : FnScope ["self", "rain", "sea", "price"] ["self", "rain", "sea", "price"] (defScope sTells) := ⟨rfl, rfl, rfl, by decide +kernel, rfl, by decide +kernel, by decide +kernel⟩
theorem ok_tells {f : Addr} {fd : FuncData} (F : Fun K "tells" "Storm.tells" sTells f fd) (T : Txt K mg CB CS) : FnOk P w K mg base CX0 1 f fd ["self", "rain", "sea", "price"] (spTells CS CB) := by
  refine F.ok scTells (fun vs H Q E h => ?_) (fun cdv A outer s H vs Q E hr h => ?_)
  · obtain ⟨_, _, _, _, rfl, _⟩ := h
    rfl
  · obtain ⟨a, l, s, h, rfl, hs, hok, k⟩ := h
    obtain ⟨dx, b, as, ha, hb, hh⟩ := id hs
    refine ⟨_, pss_cons (ps_if (PW.pt (pw_or (pt_cmpR op_gt (pv 1) (glob_int rfl T.mostRain) (nomark _)) (pw_or (pt_cmpR op_gt (pv 2) (glob_int rfl T.mostSea) (nomark _)) (pw_or1 (pt_cmpR op_gt (pv 3) (glob_int rfl T.mostPrice) (nomark _)))))) (pss_one (ps_ret (pe_un un_neg pe_int))) pss_nil)
      (pss_cons (ps_if (pt_cmpR op_eq (pe_callB call_len_seq (by rfl) T.len PySem.boot_len (pa_cons (pe_fld (pv 0) rfl) pa_nil)) (glob_int rfl T.mostHours) (nomark _)) (pss_one (ps_ret (pe_un un_neg pe_int))) pss_nil)
      (pss_cons (ps_expr (pe_bm PySem.F.plainAttrs_list PySem.F.slot_list_append PySem.F.type_list_append mt_append (pe_fld (pv 0) rfl) (pa_cons (pe_tup (pa_cons (pv 1) (pa_cons (pv 2) (pa_cons (pv 3) pa_nil)))) pa_nil)))
      (pss_one (ps_ret (pe_op op_sub (pe_callB call_len_seq (by rfl) T.len PySem.boot_len (pa_cons (pe_fld (pv 0) rfl) pa_nil)) pe_int))))), ?_⟩
    have no : (Si97.RAIN < h.rain ∨ Si99.SEA < h.sea ∨ Sj03.POWER < h.power) → Q (.int (-1)) H := fun z => by
      have e : Sj03.step s (.hour h) = (s, Sj03.ok (-1)) := if_pos z
      rw [e] at k
      exact k H hs fun _ _ e _ => e
    refine ⟨_, rfl, _, _, rfl, rfl, _, rfl, if_dec (fun c => ?_) fun c1 => ?_⟩
    · refine iteT ⟨_, rfl, no (.inl ?_)⟩
      show 30 < h.rain
      omega
    refine ⟨_, rfl, _, _, rfl, rfl, _, rfl, if_dec (fun c => ?_) fun c2 => ?_⟩
    · refine iteT ⟨_, rfl, no (.inr (.inl ?_))⟩
      show 100 < h.sea
      omega
    refine ⟨_, rfl, _, _, rfl, rfl, _, rfl, if_dec (fun c => ?_) fun c3 => ?_⟩
    · refine ⟨_, rfl, no (.inr (.inr ?_))⟩
      show 100 < h.power
      omega
    have z1 : ¬ (Si97.RAIN < h.rain ∨ Si99.SEA < h.sea ∨ Sj03.POWER < h.power) := by
      show ¬ (30 < h.rain ∨ 100 < h.sea ∨ 100 < h.power)
      omega
    have hlen := hok.hr
    refine ⟨_, rfl, a, CS, dx, _, _, rfl, ha, T.clS, T.nHours, sF_hours _ _ _, l, _, rfl, .inl (SqL.of hh.lst), rfl, _, rfl, if_dec (fun c => ?_) fun c => ?_⟩
    · have e0 := V.int.inj c
      rw [List.length_map, hh.len] at e0
      have z2 : Sj03.HOURS ≤ s.hours.length := by
        show 6 ≤ s.hours.length
        omega
      have e : Sj03.step s (.hour h) = (s, Sj03.ok (-5)) := (if_neg z1).trans (if_pos z2)
      rw [e] at k
      exact ⟨_, rfl, k H hs fun _ _ e _ => e⟩
    have z2 : ¬ Sj03.HOURS ≤ s.hours.length := fun z => c (by
      have z : 6 ≤ s.hours.length := z
      show V.int (((as.map V.ref).length : Nat) : Int) = V.int 6
      rw [List.length_map, hh.len]
      exact congrArg V.int (by omega))
    have e : Sj03.step s (.hour h) = ({ s with hours := s.hours ++ [h] }, Sj03.ok ((s.hours.length : Nat) : Int)) := (if_neg z1).trans (if_neg z2)
    rw [e] at k
    refine ⟨_, rfl, a, CS, dx, _, _, rfl, ha, T.clS, T.nHours, sF_hours _ _ _, .inl ⟨rfl, _, SqL.of hh.lst⟩, _, rfl, _, rfl, _, rfl, by show 3 ≤ sizeLine; decide, fun U hU => ?_⟩
    have s1 : Same H (upd H U (.tup [nat h.rain, nat h.sea, nat h.power])) := same_upd hU
    refine ⟨l, _, _, rfl, rfl, s1 _ _ hh.lst, small1000 (by rw [List.length_map, hh.len]; omega), ?_⟩
    obtain ⟨dxb, hxb⟩ := hb
    have nal : a ≠ l := ne_of ha hh.lst fun e => nomatch e
    have nbl : b ≠ l := ne_of hxb hh.lst fun e => nomatch e
    have nUl : U ≠ l := (ne_of_none hh.lst hU).symm
    refine ⟨_, rfl, a, CS, dx, _, _, rfl, (upd_ne nal).trans (s1 _ _ ha), T.clS, T.nHours, sF_hours _ _ _, l, _, rfl, .inl (SqL.of upd_same), _, _, rfl, rfl, ?_⟩
    have e1 : (((as.map V.ref ++ [V.ref U]).length : Nat) : Int) - 1 = ((s.hours.length : Nat) : Int) := by
      rw [List.length_append, List.length_map, hh.len]
      show ((s.hours.length + 1 : Nat) : Int) - 1 = _
      omega
    show Q (V.int ((((as.map V.ref ++ [V.ref U]).length : Nat) : Int) - 1)) _
    rw [e1]
    refine k _ ⟨dx, b, as ++ [U], (upd_ne nal).trans (s1 _ _ ha), ⟨dxb, (upd_ne nbl).trans (s1 _ _ hxb)⟩, ?_, ?_, fun i h' hi => ?_⟩ fun c o e hc => ?_
    · rw [upd_same, List.map_append]
      rfl
    · show (as ++ [U]).length = (s.hours ++ [h]).length
      rw [List.length_append, List.length_append, hh.len]
      rfl
    · have hi : (s.hours ++ [h])[i]? = some h' := hi
      by_cases ei : i < s.hours.length
      · rw [List.getElem?_append_left ei] at hi
        obtain ⟨p, h1, h2⟩ := hh.at_ i h' hi
        have h2' : H p = some (.tup [nat h'.rain, nat h'.sea, nat h'.power]) := h2
        have npl : p ≠ l := ne_of h2' hh.lst fun e => nomatch e
        exact ⟨p, by rw [List.getElem?_append_left (by rw [hh.len]; exact ei)]; exact h1, (upd_ne npl).trans (s1 _ _ h2')⟩
      · have ej : i = s.hours.length := by
          have := (List.getElem?_eq_some_iff.mp hi).1
          rw [List.length_append] at this
          have : i < s.hours.length + 1 := this
          omega
        subst ej
        rw [List.getElem?_append_right (Nat.le_refl _), Nat.sub_self] at hi
        cases hi
        exact ⟨U, by rw [List.getElem?_append_right (by rw [hh.len]; exact Nat.le_refl _), hh.len, Nat.sub_self]; rfl, (upd_ne nUl).trans upd_same⟩
    · rw [upd_ne hc]
      exact s1 _ _ e
end
end Sg

namespace Sg
open PySem PySem.Spec PyProof.Rows L2
open PySem.W (Codec)
open Sj03 (Storm Hour)

/-! ### what a call answers, by the walk's words -/
theorem step_no {s : Storm} {st lo hi pu wi sa : Nat} (h : ¬ Begun st ⟨0, lo, hi, pu, wi, sa, []⟩) : Sj03.step s (.begins st lo hi pu wi sa) = (s, Sj03.ok (-1)) := if_pos (by
  unfold Begun at h
  dsimp only at h
  show 60 < st ∨ 60 < hi ∨ hi < lo ∨ 12 < pu ∨ 100 < wi ∨ 100 < sa
  omega)
theorem step_yes {s : Storm} {st lo hi pu wi sa : Nat} (h : Begun st ⟨0, lo, hi, pu, wi, sa, []⟩) : Sj03.step s (.begins st lo hi pu wi sa) = (⟨st, lo, hi, pu, wi, sa, []⟩, Sj03.ok 0) := if_neg (by
  unfold Begun at h
  dsimp only at h
  show ¬ (60 < st ∨ 60 < hi ∨ hi < lo ∨ 12 < pu ∨ 100 < wi ∨ 100 < sa)
  omega)
theorem ans_check (s : Storm) (l : List Nat) : Sj03.step s (.check l) = (s, (Sj03.step s (.check l)).2) ∧ ans s (.check l) = checkL s l := by
  unfold ans checkL
  by_cases h : s.told l = false
  · have e : Sj03.step s (.check l) = (s, Sj03.ok (-1)) := if_pos h
    rw [e, if_pos h]
    exact ⟨rfl, rfl⟩
  · have e : Sj03.step s (.check l) = (s, match s.goes 0 s.stands s.hours l with
      | .error x => ⟨-6, Sj03.ints [x.1, x.2]⟩
      | .ok r => ⟨((s.cost l : Nat) : Int), Sj03.ints (r.map fun x => x.1)⟩) := if_neg h
    rw [e, if_neg h]
    refine ⟨rfl, ?_⟩
    dsimp only
    cases s.goes 0 s.stands s.hours l <;> rfl
theorem ans_best (s : Storm) : ans s .best = toldOf (ent s s.hours s.stands) := (toldOf_is _).trans (congrArg toldOf (best_ent s))
theorem ans_shut (s : Storm) : ans s .shut = toldOf (ent s.shut s.hours s.stands) := (toldOf_is _).trans (congrArg toldOf (best_ent s.shut))
theorem ans_still (s : Storm) : ans s .still = toldOf (ent s.still s.hours s.stands) := (toldOf_is _).trans (congrArg toldOf (best_ent s.still))
theorem ans_needs {s : Storm} (h : Ok s) : ans s .needs = [needI s s.hours s.stands] := by
  have hl : s.low ≤ 61 := Nat.le_trans h.lh (Nat.le_trans h.hi (by decide))
  have e : ans s .needs = (match s.needs with
    | none => Sj03.ok (-6)
    | some n => Sj03.ok ((n : Nat) : Int)).v :: (match s.needs with
    | none => Sj03.ok (-6)
    | some n => Sj03.ok ((n : Nat) : Int)).l := rfl
  rw [e, needs_is s hl]
  unfold needI
  have hm := need_most (high s 60) hl s.hours s.stands
  by_cases c : need (high s 60) s.hours s.stands < 61
  · rw [if_pos c, if_neg (by omega)]
    rfl
  · rw [if_neg c, if_pos (by omega)]
    rfl
theorem ok_shut {s : Storm} (h : Ok s) : Ok s.shut := ⟨h.st, h.lh, h.hi, h.pu, Nat.zero_le _, h.sa, h.hr⟩
theorem ok_still {s : Storm} (h : Ok s) : Ok s.still := ⟨h.st, h.lh, h.hi, Nat.zero_le _, h.wi, h.sa, h.hr⟩
theorem cut_two (x y : V) (zs : List V) : cutV (x :: y :: zs) (some 2) none = zs := by
  unfold cutV
  rw [show (some 2 : Option Int) = some ((2 : Nat) : Int) from rfl, HT.sIx_nat, HT.sIx_none, Nat.min_eq_left (by show 2 ≤ zs.length + 1 + 1; omega)]
  show zs.take (zs.length + 1 + 1 - 2) = zs
  exact List.take_length
/-- one call on the storm at a -/
def spTold (CS CB : Addr) : Sp := fun vs H Q _ => ∃ (a l m : Addr) (s : Storm) (c : List (List Int)) (q : Sj03.Call), vs = [.ref a, .ref m] ∧ SAt CS CB H a l s ∧ Ok s ∧ H m = some (.lst ((flat c).map V.int)) ∧ Asked c q ∧
  ∀ (H' : Hp) (p l' : Addr), SAt CS CB H' a l' (Sj03.step s q).1 → (l' = l ∨ H l' = none) → (∀ b o, H b = some o → b ≠ a → b ≠ l → H' b = some o) → H p = none → H' p = some (.lst ((ans s q).map V.int)) → Q (.ref p) H'
theorem SAt.l_some {CS CB : Addr} {H : Hp} {a l : Addr} {s : Storm} (h : SAt CS CB H a l s) : ∃ o, H l = some o := let ⟨_, _, _, _, _, h3⟩ := h; ⟨_, h3.lst⟩
theorem SAt.a_some {CS CB : Addr} {H : Hp} {a l : Addr} {s : Storm} (h : SAt CS CB H a l s) : ∃ o, H a = some o := let ⟨_, _, _, h1, _⟩ := h; ⟨_, h1⟩
/-- what is free behind a call was free ahead -/
theorem free_of {H H' : Hp} {a l p : Addr} (fr : ∀ b o, H b = some o → b ≠ a → b ≠ l → H' b = some o) (ha : ∃ o, H' a = some o) (hl : ∃ o, H' l = some o) (hp : H' p = none) : H p = none := by
  cases e : H p with
  | none => rfl
  | some o =>
    obtain ⟨oa, ha⟩ := ha
    obtain ⟨ol, hl⟩ := hl
    have n1 : p ≠ a := fun z => by rw [z, ha] at hp; cases hp
    have n2 : p ≠ l := fun z => by rw [z, hl] at hp; cases hp
    rw [fr p o e n1 n2] at hp
    cases hp
section
variable {P : Program} {w : World} {K : PySem.W.Frag} {mg : Str → Option Value} {base : Heap} {CB CS : Addr}
/-- the storm's methods -/
structure Sm (K : PySem.W.Frag) (CS f1 f2 : Addr) (fd1 fd2 : FuncData) : Prop where
  m1 : Meth K CS "begins" f1
  b1 : Binds K fd1 ["self", "stands", "bounds"] []
  m2 : Meth K CS "tells" f2
  b2 : Binds K fd2 ["self", "rain", "sea", "price"] []
theorem scToldBy : FnScope ["storm", "call", "word"] ["storm", "call"] (defScope sToldBy) := ⟨rfl, rfl, rfl, by decide +kernel, rfl, by decide +kernel, by decide +kernel⟩
theorem ok_toldby {f fB f1 f2 f3 f4 f5 f6 f7 : Addr} {fd fdB fd1 fd2 fd3 fd4 fd5 fd6 fd7 : FuncData} (D : Dn K mg "told_by" sToldBy ["storm", "call"] f fd) (T : Txt K mg CB CS) (B : Bm K CB fB fdB) (S : Sm K CS f1 f2 fd1 fd2)
    (G1 : FnOk P w K mg base CX0 2 f1 fd1 ["self", "stands", "bounds"] (spBegins CS CB)) (G2 : FnOk P w K mg base CX0 1 f2 fd2 ["self", "rain", "sea", "price"] (spTells CS CB))
    (D3 : Dn K mg "try_plan" sTryPlan ["bounds", "stands", "hours", "doings"] f3 fd3) (G3 : FnOk P w K mg base CX0 3 f3 fd3 ["bounds", "stands", "hours", "doings"] (spTry CB))
    (D4 : Dn K mg "cheapest" sCheapest ["bounds", "stands", "hours"] f4 fd4) (G4 : FnOk P w K mg base CX0 5 f4 fd4 ["bounds", "stands", "hours"] (spCheapest CB))
    (D5 : Dn K mg "without_gate" sNoGate ["bounds"] f5 fd5) (G5 : FnOk P w K mg base CX0 3 f5 fd5 ["bounds"] (spOther CB Sj03.Storm.shut))
    (D6 : Dn K mg "without_pumps" sNoPumps ["bounds"] f6 fd6) (G6 : FnOk P w K mg base CX0 3 f6 fd6 ["bounds"] (spOther CB Sj03.Storm.still))
    (D7 : Dn K mg "needed" sNeeded ["bounds", "stands", "hours"] f7 fd7) (G7 : FnOk P w K mg base CX0 4 f7 fd7 ["bounds", "stands", "hours"] (spNeeded CB)) :
    FnOk P w K mg base CX0 6 f fd ["storm", "call"] (spTold CS CB) := by
  have GB : FnOk P w K mg base CX0 1 fB fdB ["self", "low", "high", "pumps", "width", "salt"] (spBInit CB) := ok_binit B.F T
  refine D.F.ok scToldBy (fun vs H Q E h => ?_) (fun cdv A outer s H vs Q E hr h => ?_)
  · obtain ⟨_, _, _, _, _, _, rfl, _⟩ := h
    rfl
  · obtain ⟨a, l, m, s, c, q, rfl, hs, hok, hm, hq, k⟩ := h
    have hr1 : Room 1 _ := hr.mono (by decide)
    have hr2 : Room 2 _ := hr.mono (by decide)
    have hr3 : Room 3 _ := hr.mono (by decide)
    have hr4 : Room 4 _ := hr.mono (by decide)
    refine ⟨_, pss_cons (ps_set (i := 2) scToldBy.nd rfl (Or.inl rfl) (pe_ix ix_list (pv 1) pe_int (fun _ _ => rfl)))
      (pss_cons (ps_if (pt_cmpR op_eq (pv 2) pe_int (nomark _)) (pss_one (ps_ret (pe_lst (pa_cons (pe_meth (pv 0) T.clS S.m1 G1 hr2 S.b1 .nil pass0 (pa_cons (pe_ix ix_list (pv 1) pe_int (fun _ _ => rfl))
          (pa_cons (pe_make B.M GB hr2 rfl T.gB B.b .nil pass0 (pa_cons (pe_ix ix_list (pv 1) pe_int (fun _ _ => rfl)) (pa_cons (pe_ix ix_list (pv 1) pe_int (fun _ _ => rfl)) (pa_cons (pe_ix ix_list (pv 1) pe_int (fun _ _ => rfl)) (pa_cons (pe_ix ix_list (pv 1) pe_int (fun _ _ => rfl)) (pa_cons (pe_ix ix_list (pv 1) pe_int (fun _ _ => rfl)) pa_nil)))))) pa_nil))) pa_nil)))) pss_nil)
      (pss_cons (ps_if (pt_cmpR op_eq (pv 2) pe_int (nomark _)) (pss_one (ps_ret (pe_lst (pa_cons (pe_meth (pv 0) T.clS S.m2 G2 hr1 S.b2 .nil pass0 (pa_cons (pe_ix ix_list (pv 1) pe_int (fun _ _ => rfl)) (pa_cons (pe_ix ix_list (pv 1) pe_int (fun _ _ => rfl)) (pa_cons (pe_ix ix_list (pv 1) pe_int (fun _ _ => rfl)) pa_nil)))) pa_nil)))) pss_nil)
      (pss_cons (ps_if (pt_cmpR op_eq (pv 2) pe_int (nomark _)) (pss_one (ps_ret (pe_call G3 hr3 rfl D3.g D3.F.kp D3.b .nil pass0 (pa_cons (pe_fld (pv 0) rfl) (pa_cons (pe_fld (pv 0) rfl) (pa_cons (pe_fld (pv 0) rfl) (pa_cons (pe_slice sl_list (pv 1) (po_some pe_int) po_none) pa_nil))))))) pss_nil)
      (pss_cons (ps_if (pt_cmpR op_eq (pv 2) pe_int (nomark _)) (pss_one (ps_ret (pe_call G4 hr rfl D4.g D4.F.kp D4.b .nil pass0 (pa_cons (pe_fld (pv 0) rfl) (pa_cons (pe_fld (pv 0) rfl) (pa_cons (pe_fld (pv 0) rfl) pa_nil)))))) pss_nil)
      (pss_cons (ps_if (pt_cmpR op_eq (pv 2) pe_int (nomark _)) (pss_one (ps_ret (pe_call G4 hr rfl D4.g D4.F.kp D4.b .nil pass0 (pa_cons (pe_call G5 hr3 rfl D5.g D5.F.kp D5.b .nil pass0 (pa_cons (pe_fld (pv 0) rfl) pa_nil)) (pa_cons (pe_fld (pv 0) rfl) (pa_cons (pe_fld (pv 0) rfl) pa_nil)))))) pss_nil)
      (pss_cons (ps_if (pt_cmpR op_eq (pv 2) pe_int (nomark _)) (pss_one (ps_ret (pe_call G4 hr rfl D4.g D4.F.kp D4.b .nil pass0 (pa_cons (pe_call G6 hr3 rfl D6.g D6.F.kp D6.b .nil pass0 (pa_cons (pe_fld (pv 0) rfl) pa_nil)) (pa_cons (pe_fld (pv 0) rfl) (pa_cons (pe_fld (pv 0) rfl) pa_nil)))))) pss_nil)
      (pss_one (ps_ret (pe_lst (pa_cons (pe_call G7 hr4 rfl D7.g D7.F.kp D7.b .nil pass0 (pa_cons (pe_fld (pv 0) rfl) (pa_cons (pe_fld (pv 0) rfl) (pa_cons (pe_fld (pv 0) rfl) pa_nil)))) pa_nil)))))))))), ?_⟩
    obtain ⟨dx, b, as, ha, hb, hh⟩ := id hs
    have far : ∀ {H2 : Hp}, Same H H2 → ∀ b o, H b = some o → b ≠ a → b ≠ l → H2 b = some o := fun s2 b o e _ _ => s2 b o e
    cases hq with
    | begins x0 x1 x2 x3 x4 x5 =>
      refine ⟨_, rfl, m, _, _, _, rfl, rfl, SqL.of hm, at_of (j := 0) rfl rfl, ?_⟩
      refine ⟨_, rfl, rfl, _, rfl, if_true_of (by decide) ?_⟩
      refine ⟨_, rfl, a, dx, _, rfl, ha, sF_begins _ _ _, _, rfl, m, _, _, _, rfl, rfl, SqL.of hm, at_of (j := 1) rfl rfl, _, rfl, m, _, _, _, rfl, rfl, SqL.of hm, at_of (j := 2) rfl rfl, _, rfl, m, _, _, _, rfl, rfl, SqL.of hm, at_of (j := 3) rfl rfl, _, rfl, m, _, _, _, rfl, rfl, SqL.of hm, at_of (j := 4) rfl rfl, _, rfl, m, _, _, _, rfl, rfl, SqL.of hm, at_of (j := 5) rfl rfl, _, rfl, m, _, _, _, rfl, rfl, SqL.of hm, at_of (j := 6) rfl rfl, fun x dxn nx nd ne => ?_⟩
      refine ⟨x, dxn, (⟨0, x1, x2, x3, x4, x5, []⟩ : Storm), rfl, upd_same, fun H1 hB kp => ⟨rfl, ?_⟩⟩
      have s1 := Same.made nx nd kp
      refine ⟨a, l, x, s, (⟨0, x1, x2, x3, x4, x5, []⟩ : Storm), x0, rfl, hs.same s1, hB, fun cn => ?_, fun cy H2 l' hs2 nl' fr => ?_⟩
      · have e := step_no (s := s) cn
        refine ⟨by show 1 ≤ sizeLine; decide, fun p hp => k _ p l ?_ (.inl rfl) (far (s1.trans (same_upd hp))) (s1.free hp) ?_⟩
        · rw [e]
          exact (hs.same s1).same (same_upd hp)
        · unfold ans
          rw [e]
          exact upd_same
      · have e := step_yes (s := s) cy
        refine ⟨by show 1 ≤ sizeLine; decide, fun p hp => k _ p l' ?_ (.inr (s1.free nl')) (fun b o e1 n1 n2 => same_upd hp _ _ (fr b o (s1 b o e1) n1)) (s1.free (free_of (l := a) (fun b o e1 n1 _ => fr b o e1 n1) hs2.a_some hs2.a_some hp)) ?_⟩
        · rw [e]
          exact hs2.same (same_upd hp)
        · unfold ans
          rw [e]
          exact upd_same
    | hour x0 x1 x2 =>
      refine ⟨_, rfl, m, _, _, _, rfl, rfl, SqL.of hm, at_of (j := 0) rfl rfl, ?_⟩
      refine ⟨_, rfl, rfl, _, rfl, if_false_of (by decide) ?_⟩
      refine ⟨_, rfl, rfl, _, rfl, if_true_of (by decide) ?_⟩
      refine ⟨_, rfl, a, dx, _, rfl, ha, sF_tells _ _ _, _, rfl, m, _, _, _, rfl, rfl, SqL.of hm, at_of (j := 1) rfl rfl, _, rfl, m, _, _, _, rfl, rfl, SqL.of hm, at_of (j := 2) rfl rfl, _, rfl, m, _, _, _, rfl, rfl, SqL.of hm, at_of (j := 3) rfl rfl, a, l, s, ⟨x0, x1, x2⟩, rfl, hs, hok, fun H2 hs2 fr => ?_⟩
      refine ⟨by show 1 ≤ sizeLine; decide, fun p hp => k _ p l (hs2.same (same_upd hp)) (.inl rfl) (fun b o e1 _ n2 => same_upd hp _ _ (fr b o e1 n2)) (free_of (a := l) (fun b o e1 n1 _ => fr b o e1 n1) hs2.l_some hs2.l_some hp) ?_⟩
      rw [upd_same]
      have e2 : (Sj03.step s (.hour ⟨x0, x1, x2⟩)).2.l = [] := by
        unfold Sj03.step
        dsimp only
        split
        · rfl
        · split <;> rfl
      unfold ans
      rw [e2]
      rfl
    | check r hr14 =>
      refine ⟨_, rfl, m, _, _, _, rfl, rfl, SqL.of hm, at_of (j := 0) rfl rfl, ?_⟩
      refine ⟨_, rfl, rfl, _, rfl, if_false_of (by decide) ?_⟩
      refine ⟨_, rfl, rfl, _, rfl, if_false_of (by decide) ?_⟩
      refine ⟨_, rfl, rfl, _, rfl, if_true_of (by decide) ?_⟩
      refine ⟨_, rfl, a, CS, dx, _, _, rfl, ha, T.clS, T.nBounds, sF_bounds _ _ _, _, rfl, a, CS, dx, _, _, rfl, ha, T.clS, T.nStands, sF_stands _ _ _, _, rfl, a, CS, dx, _, _, rfl, ha, T.clS, T.nHours, sF_hours _ _ _, _, rfl, 2, rfl, m, _, rfl, SqL.of hm, fun d hd => ?_⟩
      have s1 := same_upd (o := .lst (cutV ((flat [[2], r.map fun (n : Nat) => (n : Int)]).map V.int) (some 2) none)) hd
      obtain ⟨e1, e2⟩ := ans_check s r
      refine ⟨b, l, d, s, as, r, rfl, hb.same s1, hh.same s1, hok, ?_, fun H2 p s2 np hp => k H2 p l ?_ (.inl rfl) (far (s1.trans s2)) (s1.free np) ?_⟩
      · rw [upd_same]
        refine congrArg (fun q => some (HO.lst q)) ?_
        show cutV (V.int 2 :: V.int _ :: (r.map fun (n : Nat) => (n : Int)).map V.int) (some 2) none = _
        rw [cut_two, List.map_map]
        rfl
      · rw [e1]
        exact hs.same (s1.trans s2)
      · rw [e2]
        exact hp
    | best =>
      refine ⟨_, rfl, m, _, _, _, rfl, rfl, SqL.of hm, at_of (j := 0) rfl rfl, ?_⟩
      refine ⟨_, rfl, rfl, _, rfl, if_false_of (by decide) ?_⟩
      refine ⟨_, rfl, rfl, _, rfl, if_false_of (by decide) ?_⟩
      refine ⟨_, rfl, rfl, _, rfl, if_false_of (by decide) ?_⟩
      refine ⟨_, rfl, rfl, _, rfl, if_true_of (by decide) ?_⟩
      refine ⟨_, rfl, a, CS, dx, _, _, rfl, ha, T.clS, T.nBounds, sF_bounds _ _ _, _, rfl, a, CS, dx, _, _, rfl, ha, T.clS, T.nStands, sF_stands _ _ _, _, rfl, a, CS, dx, _, _, rfl, ha, T.clS, T.nHours, sF_hours _ _ _, b, l, s, as, s.hours, s.stands, rfl, hb, hh, hok, hok.hr, hok.st, fun H2 p s2 np hp => k H2 p l (hs.same s2) (.inl rfl) (far s2) np ?_⟩
      rw [ans_best]
      exact hp
    | shut =>
      refine ⟨_, rfl, m, _, _, _, rfl, rfl, SqL.of hm, at_of (j := 0) rfl rfl, ?_⟩
      refine ⟨_, rfl, rfl, _, rfl, if_false_of (by decide) ?_⟩
      refine ⟨_, rfl, rfl, _, rfl, if_false_of (by decide) ?_⟩
      refine ⟨_, rfl, rfl, _, rfl, if_false_of (by decide) ?_⟩
      refine ⟨_, rfl, rfl, _, rfl, if_false_of (by decide) ?_⟩
      refine ⟨_, rfl, rfl, _, rfl, if_true_of (by decide) ?_⟩
      refine ⟨_, rfl, a, CS, dx, _, _, rfl, ha, T.clS, T.nBounds, sF_bounds _ _ _, b, s, rfl, hb, fun H1 b1 s1 hb1 => ?_⟩
      refine ⟨_, rfl, a, CS, dx, _, _, rfl, (s1 _ _ ha), T.clS, T.nStands, sF_stands _ _ _, _, rfl, a, CS, dx, _, _, rfl, (s1 _ _ ha), T.clS, T.nHours, sF_hours _ _ _, b1, l, s.shut, as, s.hours, s.stands, rfl, hb1, hh.same s1, ok_shut hok, hok.hr, hok.st, fun H2 p s2 np hp => k H2 p l (hs.same (s1.trans s2)) (.inl rfl) (far (s1.trans s2)) (s1.free np) ?_⟩
      rw [ans_shut]
      exact hp
    | still =>
      refine ⟨_, rfl, m, _, _, _, rfl, rfl, SqL.of hm, at_of (j := 0) rfl rfl, ?_⟩
      refine ⟨_, rfl, rfl, _, rfl, if_false_of (by decide) ?_⟩
      refine ⟨_, rfl, rfl, _, rfl, if_false_of (by decide) ?_⟩
      refine ⟨_, rfl, rfl, _, rfl, if_false_of (by decide) ?_⟩
      refine ⟨_, rfl, rfl, _, rfl, if_false_of (by decide) ?_⟩
      refine ⟨_, rfl, rfl, _, rfl, if_false_of (by decide) ?_⟩
      refine ⟨_, rfl, rfl, _, rfl, if_true_of (by decide) ?_⟩
      refine ⟨_, rfl, a, CS, dx, _, _, rfl, ha, T.clS, T.nBounds, sF_bounds _ _ _, b, s, rfl, hb, fun H1 b1 s1 hb1 => ?_⟩
      refine ⟨_, rfl, a, CS, dx, _, _, rfl, (s1 _ _ ha), T.clS, T.nStands, sF_stands _ _ _, _, rfl, a, CS, dx, _, _, rfl, (s1 _ _ ha), T.clS, T.nHours, sF_hours _ _ _, b1, l, s.still, as, s.hours, s.stands, rfl, hb1, hh.same s1, ok_still hok, hok.hr, hok.st, fun H2 p s2 np hp => k H2 p l (hs.same (s1.trans s2)) (.inl rfl) (far (s1.trans s2)) (s1.free np) ?_⟩
      rw [ans_still]
      exact hp
    | needs =>
      refine ⟨_, rfl, m, _, _, _, rfl, rfl, SqL.of hm, at_of (j := 0) rfl rfl, ?_⟩
      refine ⟨_, rfl, rfl, _, rfl, if_false_of (by decide) ?_⟩
      refine ⟨_, rfl, rfl, _, rfl, if_false_of (by decide) ?_⟩
      refine ⟨_, rfl, rfl, _, rfl, if_false_of (by decide) ?_⟩
      refine ⟨_, rfl, rfl, _, rfl, if_false_of (by decide) ?_⟩
      refine ⟨_, rfl, rfl, _, rfl, if_false_of (by decide) ?_⟩
      refine ⟨_, rfl, rfl, _, rfl, if_false_of (by decide) ?_⟩
      refine ⟨_, rfl, a, CS, dx, _, _, rfl, ha, T.clS, T.nBounds, sF_bounds _ _ _, _, rfl, a, CS, dx, _, _, rfl, ha, T.clS, T.nStands, sF_stands _ _ _, _, rfl, a, CS, dx, _, _, rfl, ha, T.clS, T.nHours, sF_hours _ _ _, b, l, s, as, s.hours, s.stands, rfl, hb, hh, hok, hok.st, fun H2 s2 => ?_⟩
      refine ⟨by show 1 ≤ sizeLine; decide, fun p hp => k _ p l ((hs.same s2).same (same_upd hp)) (.inl rfl) (far (s2.trans (same_upd hp))) (s2.free hp) ?_⟩
      rw [ans_needs hok]
      exact upd_same
end
end Sg

namespace Sg
open PySem PySem.Spec PyProof.Rows L2
open PySem.W (Codec)
open Sj03 (Storm Hour)

/-! ### all calls, one behind another -/
def spAns (K : PySem.W.Frag) : Sp := fun vs H Q _ => ∃ (a : Addr) (ns : List Int), vs = [.ref a] ∧ SqL K H a (ns.map V.int) ∧ ns.length ≤ 1000 ∧ PySj03.answers_asked ns = true ∧
  ∀ (H' : Hp) (p : Addr), H' p = some (.lst ((PySj03.answers ns).map V.int)) → Q (.ref p) H'
/-- a list that is not the hours' is stored elsewhere -/
theorem SAt.upd_lst {CS CB : Addr} {H : Hp} {a l g : Addr} {s : Storm} {xs : List V} {o : HO} (h : SAt CS CB H a l s) (hg : H g = some (.lst xs)) (nl : l ≠ g) : SAt CS CB (upd H g o) a l s := by
  obtain ⟨dx, b, as, h1, ⟨dxb, h2⟩, h3⟩ := h
  have n1 : a ≠ g := ne_of h1 hg fun e => nomatch e
  have n2 : b ≠ g := ne_of h2 hg fun e => nomatch e
  refine ⟨dx, b, as, (upd_ne n1).trans h1, ⟨dxb, (upd_ne n2).trans h2⟩, (upd_ne nl).trans h3.lst, h3.len, fun i k hk => ?_⟩
  obtain ⟨p, q1, q2⟩ := h3.at_ i k hk
  have q2' : H p = some (.tup [nat k.rain, nat k.sea, nat k.power]) := q2
  have n3 : p ≠ g := ne_of q2' hg fun e => nomatch e
  exact ⟨p, q1, (upd_ne n3).trans q2'⟩
section
variable {P : Program} {w : World} {K : PySem.W.Frag} {mg : Str → Option Value} {base : Heap} {CB CS : Addr}
theorem scAnswers : FnScope ["calls", "storm", "given", "call", "told"] ["calls"] (defScope sAnswers) := ⟨rfl, rfl, rfl, by decide +kernel, rfl, by decide +kernel, by decide +kernel⟩
theorem ok_answers {f fS f1 f2 : Addr} {fd fdS fd1 fd2 : FuncData} (F : Fun K "answers" "answers" sAnswers f fd) (T : Txt K mg CB CS) (M : Mk K CS fS) (bS : Binds K fdS ["self"] [])
    (GS : FnOk P w K mg base CX0 3 fS fdS ["self"] (spSInit CS CB))
    (D1 : Dn K mg "calls_of" sCallsOf ["calls"] f1 fd1) (G1 : FnOk P w K mg base CX0 2 f1 fd1 ["calls"] (spCallsOf K))
    (D2 : Dn K mg "told_by" sToldBy ["storm", "call"] f2 fd2) (G2 : FnOk P w K mg base CX0 6 f2 fd2 ["storm", "call"] (spTold CS CB)) :
    FnOk P w K mg base CX0 7 f fd ["calls"] (spAns K) := by
  refine F.ok scAnswers (fun vs H Q E h => ?_) (fun cdv A outer s H vs Q E hr h => ?_)
  · obtain ⟨_, _, rfl, _⟩ := h
    rfl
  · obtain ⟨a, ns, rfl, hS, hlen, hask, k⟩ := h
    have hr2 : Room 2 _ := hr.mono (by decide)
    have hr4 : Room 4 _ := hr.mono (by decide)
    refine ⟨_, pss_cons (ps_set (i := 1) scAnswers.nd rfl (Or.inl rfl) (pe_make0 M GS hr4 rfl T.gS bS .nil pass0))
      (pss_cons (ps_set (i := 2) scAnswers.nd rfl (Or.inl rfl) (pe_lst pa_nil))
      (pss_cons (ps_for PassesOwn.never rfl (pi_list (pe_call G1 hr2 rfl D1.g D1.F.kp D1.b .nil pass0 (pa_cons (pv 0) pa_nil))) (pg_name (i := 3) scAnswers.nd rfl (Or.inl rfl))
        (pss_cons (ps_set (i := 4) scAnswers.nd rfl (Or.inl rfl) (pe_call G2 hr rfl D2.g D2.F.kp D2.b .nil pass0 (pa_cons (pv 1) (pa_cons (pv 3) pa_nil))))
        (pss_cons (ps_expr (pe_bm PySem.F.plainAttrs_list PySem.F.slot_list_append PySem.F.type_list_append mt_append (pv 2) (pa_cons (pe_callB call_len_seq (by rfl) T.len PySem.boot_len (pa_cons (pv 4) pa_nil)) pa_nil)))
        (pss_one (ps_expr (pe_bm PySem.F.plainAttrs_list PySem.F.slot_list_extend PySem.F.type_list_extend mt_extend (pv 2) (pa_cons (pv 4) pa_nil)))))))
      (pss_one (ps_ret (pv 2))))), ?_⟩
    obtain ⟨cs, qc, hns, hql, hasked, hans, hmost⟩ := asked_all hask
    have hraw : ∀ c ∈ cs, Raw c := fun c hc => by
      obtain ⟨i, hi⟩ := List.getElem?_of_mem hc
      obtain ⟨q, _, hq⟩ := hasked i c hi
      exact hq.raw
    -- storm = Storm()
    intro x dx nx nd ne
    refine ⟨x, dx, rfl, upd_same, fun H1 l0 hs0 kp => ⟨rfl, ?_⟩⟩
    have s1 := Same.made nx nd kp
    obtain ⟨ol, hl0⟩ := hs0.l_some
    -- given = []
    refine ⟨Nat.zero_le _, fun g hg => ?_⟩
    have s2 : Same H1 (upd H1 g (.lst [])) := same_upd hg
    -- for call in calls_of(calls)
    refine ⟨_, rfl, a, ns, cs, rfl, s2.seq (s1.seq hS), hraw, hns, hlen, fun H3 p s3 np ⟨qs, hp, hqs, hq⟩ => ?_⟩
    have h3g : H3 g = some (.lst []) := s3 _ _ upd_same
    have h3l : H3 l0 = some ol := s3 _ _ (s2 _ _ hl0)
    have hs3 : SAt CS CB H3 x l0 Sj03.init := (hs0.same s2).same s3
    obtain ⟨ox, hox⟩ := hs3.a_some
    have ngl : l0 ≠ g := ne_of_none hl0 hg
    have npg : p ≠ g := fun e => by rw [e, upd_same] at np; cases np
    have npl : p ≠ l0 := (ne_of_none (s2 _ _ hl0) np).symm
    have npx : p ≠ x := by
      obtain ⟨dx', b', as', e, _⟩ := hs3
      exact ne_of hp e fun e => nomatch e
    have ngx : g ≠ x := by
      obtain ⟨dx', b', as', e, _⟩ := hs3
      exact ne_of h3g e fun e => nomatch e
    refine ⟨p, rfl, ⟨_, SqL.of hp⟩, for_list (K := K) (a := p) (xs := qs.map V.ref) (fun i σ H' => ∃ (v3 v4 : Option V) (l : Addr) (s : Storm) (done : List Int), σ = [some (.ref a), some (.ref x), some (.ref g), v3, v4] ∧ SAt CS CB H' x l s ∧ Ok s ∧ (l = l0 ∨ H3 l = none) ∧
        (∀ b o, H3 b = some o → b ≠ x → b ≠ l0 → b ≠ g → H' b = some o) ∧ H' g = some (.lst (done.map V.int)) ∧ play Sj03.init qc = done ++ play s (qc.drop i))
      ⟨none, none, l0, Sj03.init, [], rfl, hs3, ok_init, .inl rfl, fun _ _ e _ _ _ => e, h3g, rfl⟩ (fun i σ H' _ ⟨_, _, _, _, _, _, _, _, _, fr, _⟩ => SqL.of (fr _ _ hp npx npl npg)) ?_ ?_⟩
    · rintro i y σ H' hi ⟨v3, v4, l, s, done, rfl, hs, hok, hll, fr, hg', hpl⟩
      rw [List.getElem?_map] at hi
      obtain ⟨m, hm, rfl⟩ : ∃ m, qs[i]? = some m ∧ y = V.ref m := by
        cases e : qs[i]? with
        | none =>
          rw [e] at hi
          cases hi
        | some m =>
          rw [e] at hi
          exact ⟨m, rfl, (Option.some.inj hi).symm⟩
      obtain ⟨c, hc⟩ : ∃ c, cs[i]? = some c := ⟨_, List.getElem?_eq_getElem (by have := (List.getElem?_eq_some_iff.mp hm).1; omega)⟩
      obtain ⟨m', hm', nm, hm3⟩ := hq i c hc
      rw [hm] at hm'
      obtain rfl : m = m' := Option.some.inj hm'
      obtain ⟨q, hqi, haq⟩ := hasked i c hc
      have nmg : m ≠ g := fun e => by rw [e, upd_same] at nm; cases nm
      have nml : m ≠ l0 := (ne_of_none (s2 _ _ hl0) nm).symm
      have nmx : m ≠ x := by
        obtain ⟨dx', b', as', e, _⟩ := hs3
        exact ne_of hm3 e fun e => nomatch e
      have hplay : play s (qc.drop i) = (((ans s q).length : Nat) : Int) :: ans s q ++ play (Sj03.step s q).1 (qc.drop (i + 1)) := by
        rw [drop_cons hqi]
        rfl
      rw [hplay] at hpl
      have hsz : done.length + (1 + (ans s q).length) ≤ 10000000 := by
        rw [hpl, List.length_append, List.length_append, List.length_cons] at hmost
        omega
      have hline : (10000000 : Nat) < sizeLine := by decide
      have ngl' : g ≠ l := fun e => by
        rcases hll with z | z
        · exact ngl (z.symm.trans e.symm)
        · rw [← e, h3g] at z
          cases z
      refine ⟨_, rfl, _, rfl, x, l, m, s, c, q, rfl, hs, hok, fr _ _ hm3 nmx nml nmg, haq, fun H4 t l' hs4 hl4 fr4 nt ht => ?_⟩
      have h4g : H4 g = some (.lst (done.map V.int)) := fr4 _ _ hg' ngx ngl'
      have ntg : t ≠ g := (ne_of_none hg' nt).symm
      have nl'g : l' ≠ g := fun e => by
        rcases hl4 with z | z
        · exact ngl' (e.symm.trans z)
        · rw [e, hg'] at z
          cases z
      refine ⟨_, rfl, .inl ⟨rfl, _, SqL.of h4g⟩, _, rfl, t, _, rfl, .inl (SqL.of ht), g, _, _, rfl, rfl, h4g, by rw [List.length_map]; omega, ?_⟩
      refine ⟨_, rfl, .inl ⟨rfl, _, SqL.of upd_same⟩, _, rfl, g, t, _, _, rfl, rfl, upd_same, (upd_ne ntg).trans ht, by rw [List.length_append, List.length_map, List.length_map]; show done.length + 1 + (ans s q).length ≤ sizeLine; omega, ?_⟩
      refine ⟨_, _, l', (Sj03.step s q).1, done ++ ((((ans s q).length : Nat) : Int) :: ans s q), rfl, (hs4.upd_lst h4g nl'g).upd_lst upd_same nl'g, ok_step hok q, ?_, fun b o e n1 n2 n3 => ?_, ?_, ?_⟩
      · rcases hl4 with z | z
        · rw [z]
          exact hll
        · by_cases e0 : l' = l0
          · exact .inl e0
          · refine .inr ?_
            cases e : H3 l' with
            | none => rfl
            | some o =>
              have nx' : l' ≠ x := fun e1 => by
                obtain ⟨oz, hz⟩ := hs.a_some
                rw [e1, hz] at z
                cases z
              rw [fr _ _ e nx' e0 nl'g] at z
              cases z
      · have nbl : b ≠ l := fun e1 => by
          rcases hll with z | z
          · exact n2 (e1.trans z)
          · rw [← e1, e] at z
            cases z
        rw [upd_ne n3, upd_ne n3]
        exact fr4 _ _ (fr _ _ e n1 n2 n3) n1 nbl
      · rw [upd_same, List.map_append, List.length_map, List.append_assoc]
        rfl
      · rw [hpl, List.append_assoc]
    · rintro σ H' ⟨v3, v4, l, s, done, rfl, hs, hok, hll, fr, hg', hpl⟩
      rw [List.length_map, hqs, ← hql, List.drop_length] at hpl
      have e : play Sj03.init qc = done := hpl.trans (List.append_nil _)
      refine ⟨_, rfl, k H' g ?_⟩
      rw [hans, e]
      exact hg'
end
end Sg

namespace Sg
open PySem PySem.Spec PyProof.Rows L2
open PySem.W (Codec)

/-! ### what the top has written -/
def TopD (K : PySem.W.Frag) (x : Str) (st : Stmt) : Prop := ∃ (f : Addr) (oc : Value) (od : Option Addr) (kV dc pm : Value) (an : Option Addr) (cd ct : Value) (sl : Array (Option Value)),
  PySem.W.nsIn K mainGlobals x = some (some (.ref f)) ∧ K.lookup f = some ⟨oc, od, .func (PySem.W.fnOf x x (defArgs st) (defBody st) (defScope st) .none kV dc pm an cd ct), sl⟩ ∧ PySem.W.codeIn K cd x = true ∧ PySem.W.keepIn K (.ref f) = true
theorem top_mk {K : PySem.W.Frag} {x : Str} {st : Stmt} {f : Addr} {od an : Option Addr} {sl : Array (Option Value)} {oc kV dc pm cd ct : Value} (a : PySem.W.nsIn K mainGlobals x = some (some (.ref f)))
    (l : K.lookup f = some ⟨oc, od, .func (PySem.W.fnOf x x (defArgs st) (defBody st) (defScope st) .none kV dc pm an cd ct), sl⟩) (c : PySem.W.codeIn K cd x = true) (k : PySem.W.keepIn K (.ref f) = true) : TopD K x st := ⟨f, oc, od, kV, dc, pm, an, cd, ct, sl, a, l, c, k⟩
def TopM (K : PySem.W.Frag) (C : Addr) (m q : Str) (st : Stmt) : Prop := ∃ (f : Addr) (oc : Value) (od : Option Addr) (kV dc pm : Value) (an : Option Addr) (cd ct : Value) (sl : Array (Option Value)),
  PySem.W.findIn K (.ref C) m = some (some (.ref f)) ∧ PySem.W.isFn K (.ref f) = true ∧ K.lookup f = some ⟨oc, od, .func (PySem.W.fnOf m q (defArgs st) (defBody st) (defScope st) .none kV dc pm an cd ct), sl⟩ ∧ PySem.W.codeIn K cd q = true ∧ PySem.W.keepIn K (.ref f) = true
theorem meth_mk {K : PySem.W.Frag} {C : Addr} {m q : Str} {st : Stmt} {f : Addr} {od an : Option Addr} {sl : Array (Option Value)} {oc kV dc pm cd ct : Value} (a : PySem.W.findIn K (.ref C) m = some (some (.ref f))) (i : PySem.W.isFn K (.ref f) = true)
    (l : K.lookup f = some ⟨oc, od, .func (PySem.W.fnOf m q (defArgs st) (defBody st) (defScope st) .none kV dc pm an cd ct), sl⟩) (c : PySem.W.codeIn K cd q = true) (k : PySem.W.keepIn K (.ref f) = true) : TopM K C m q st := ⟨f, oc, od, kV, dc, pm, an, cd, ct, sl, a, i, l, c, k⟩
structure TopCl (K : PySem.W.Frag) (x : Str) (C : Addr) : Prop where
  a : PySem.W.nsIn K mainGlobals x = some (some (.ref C))
  pg : PySem.W.plainGet K C Str.empty = true
  hd : PySem.W.hasDictIn K C = true
  po : PySem.W.plainOver K C = true
  sa : PySem.W.findIn K (.ref C) "__setattr__" = some (some (.builtin "object.__setattr__"))
  ms : PySem.W.makesIn K C = true
  kc : PySem.W.keepIn K (.ref C) = true
def TopI (K : PySem.W.Frag) (x : Str) (n : Int) : Prop := ∃ t, PySem.W.nsIn K mainGlobals x = some (some (.int n t))
theorem int_mk {K : PySem.W.Frag} {x : Str} {n : Int} {t : Tok} (a : PySem.W.nsIn K mainGlobals x = some (some (.int n t))) : TopI K x n := ⟨t, a⟩
section
variable {K : PySem.W.Frag} {h : Heap} {mg : Str → Option Value}
theorem dn_mk {x : Str} {st : Stmt} {ps : List Str} (X : K.In h) (G : h.Ns mainGlobals mg) (t : TopD K x st)
    (hb : ∀ (kV doc pm : Value) (an : Option Addr) (cdv ct : Value) (us : List Value), us.length = ps.length → bindArgs (PySem.W.fnOf x x (defArgs st) (defBody st) (defScope st) .none kV doc pm an cdv ct) ⟨us, []⟩ = pure (ps.zip us)) :
    ∃ f fd, Dn K mg x st ps f fd := by
  obtain ⟨f, oc, od, kV, dc, pm, an, cd, ct, sl, a, l, c, k⟩ := t
  have F := fun_mk (st := st) l c k
  exact ⟨f, _, F, PySem.W.mg_of X G a, F.binds hb⟩
theorem mn_mk {C : Addr} {m q : Str} {st : Stmt} {ps : List Str} (t : TopM K C m q st)
    (hb : ∀ (kV doc pm : Value) (an : Option Addr) (cdv ct : Value) (us : List Value), us.length = ps.length → bindArgs (PySem.W.fnOf m q (defArgs st) (defBody st) (defScope st) .none kV doc pm an cdv ct) ⟨us, []⟩ = pure (ps.zip us)) :
    ∃ f fd, Fun K m q st f fd ∧ Meth K C m f ∧ Binds K fd ps [] := by
  obtain ⟨f, oc, od, kV, dc, pm, an, cd, ct, sl, a, i, l, c, k⟩ := t
  have F := fun_mk (st := st) l c k
  exact ⟨f, _, F, ⟨a, i, k⟩, F.binds hb⟩
theorem gi_mk {x : Str} {n : Int} (X : K.In h) (G : h.Ns mainGlobals mg) (t : TopI K x n) : ∃ u, mg x = some (.int n u) := let ⟨u, a⟩ := t; ⟨u, PySem.W.mg_of X G a⟩
end
theorem all_mk {P : Program} {w : World} {K : PySem.W.Frag} {h : Heap} {mg : Str → Option Value} {fa CB CS : Addr} (X : K.In h) (G : h.Ns mainGlobals mg) (hfa : mg "answers" = some (.ref fa))
    (cB : TopCl K "Bounds" CB) (cS : TopCl K "Storm" CS)
    (mB0 : TopM K CB "__init__" "Bounds.__init__" sBInit) (mS0 : TopM K CS "__init__" "Storm.__init__" sSInit) (mS1 : TopM K CS "begins" "Storm.begins" sBegins) (mS2 : TopM K CS "tells" "Storm.tells" sTells)
    (n0 : PySem.W.findIn K (.ref CB) "low" = some none) (n1 : PySem.W.findIn K (.ref CB) "high" = some none) (n2 : PySem.W.findIn K (.ref CB) "pumps" = some none) (n3 : PySem.W.findIn K (.ref CB) "width" = some none) (n4 : PySem.W.findIn K (.ref CB) "salt" = some none) (n5 : PySem.W.findIn K (.ref CS) "stands" = some none) (n6 : PySem.W.findIn K (.ref CS) "bounds" = some none) (n7 : PySem.W.findIn K (.ref CS) "hours" = some none)
    (i0 : TopI K "TOP" 60) (i1 : TopI K "MOST_PUMPS" 12) (i2 : TopI K "MOST_WIDTH" 100) (i3 : TopI K "MOST_SALT" 100) (i4 : TopI K "NONE_CAN_BE" 61) (i5 : TopI K "MOST_HOURS" 6) (i6 : TopI K "MOST_RAIN" 30) (i7 : TopI K "MOST_SEA" 100) (i8 : TopI K "MOST_PRICE" 100)
    (z0 : PySem.W.nsIn K mainGlobals "range" = some none) (z1 : PySem.W.nsIn K mainGlobals "len" = some none) (z2 : PySem.W.nsIn K mainGlobals "min" = some none) (z3 : PySem.W.nsIn K mainGlobals "max" = some none) (z4 : PySem.W.nsIn K mainGlobals "reversed" = some none) (z5 : PySem.W.nsIn K mainGlobals "enumerate" = some none)
    (t0 : TopD K "as_told" sAsTold)
    (t1 : TopD K "without_gate" sNoGate)
    (t2 : TopD K "without_pumps" sNoPumps)
    (t3 : TopD K "up_to_top" sUpTop)
    (t4 : TopD K "runs_out" sRuns)
    (t5 : TopD K "comes_in" sComes)
    (t6 : TopD K "behind" sBehind)
    (t7 : TopD K "costs" sCosts)
    (t8 : TopD K "wrong" sWrong)
    (t9 : TopD K "need_at" sNeedAt)
    (t10 : TopD K "needed" sNeeded)
    (t11 : TopD K "length_at" sLenAt)
    (t12 : TopD K "calls_of" sCallsOf)
    (t13 : TopD K "taken_in" sTaken)
    (t14 : TopD K "entry_at" sEntry)
    (t15 : TopD K "tables_of" sTables)
    (t16 : TopD K "earliest" sEarliest)
    (t17 : TopD K "cheapest" sCheapest)
    (t18 : TopD K "is_plan" sIsPlan)
    (t19 : TopD K "try_plan" sTryPlan)
    (t20 : TopD K "told_by" sToldBy)
    (t21 : TopD K "answers" sAnswers)
    : ∃ fd : FuncData, (∀ (s : Shared) (us : List Value), us.length = (["calls"] : List Str).length → BindsTo s fd ⟨us, []⟩ ((["calls"] : List Str).zip us)) ∧ ∀ base : Heap, K.In base → base.Ns mainGlobals mg → FnOk P w K mg base CX0 7 fa fd ["calls"] (spAns K) := by
  have T : Txt K mg CB CS := ⟨⟨cB.pg, cB.hd, cB.po, cB.sa⟩, n0, n1, n2, n3, n4, PySem.W.mg_of X G cB.a, ⟨cS.pg, cS.hd, cS.po, cS.sa⟩, n5, n6, n7, PySem.W.mg_of X G cS.a,
    gi_mk X G i0, gi_mk X G i1, gi_mk X G i2, gi_mk X G i3, gi_mk X G i4, gi_mk X G i5, gi_mk X G i6, gi_mk X G i7, gi_mk X G i8, PySem.W.mg_none_of X G z0, PySem.W.mg_none_of X G z1, PySem.W.mg_none_of X G z2, PySem.W.mg_none_of X G z3, PySem.W.mg_none_of X G z4, PySem.W.mg_none_of X G z5⟩
  obtain ⟨fB0, fdB0, FB0, MB0, bB0⟩ := mn_mk (ps := ["self", "low", "high", "pumps", "width", "salt"]) mB0 fun _ _ _ _ _ _ us hl => match us, hl with | [_, _, _, _, _, _], _ => rfl
  obtain ⟨fS0, fdS0, FS0, MS0, bS0⟩ := mn_mk (ps := ["self"]) mS0 fun _ _ _ _ _ _ us hl => match us, hl with | [_], _ => rfl
  obtain ⟨fS1, fdS1, FS1, MS1, bS1⟩ := mn_mk (ps := ["self", "stands", "bounds"]) mS1 fun _ _ _ _ _ _ us hl => match us, hl with | [_, _, _], _ => rfl
  obtain ⟨fS2, fdS2, FS2, MS2, bS2⟩ := mn_mk (ps := ["self", "rain", "sea", "price"]) mS2 fun _ _ _ _ _ _ us hl => match us, hl with | [_, _, _, _], _ => rfl
  obtain ⟨f0, fd0, D0⟩ := dn_mk (ps := ["stands", "bounds"]) X G t0 fun _ _ _ _ _ _ us hl => match us, hl with | [_, _], _ => rfl
  obtain ⟨f1, fd1, D1⟩ := dn_mk (ps := ["bounds"]) X G t1 fun _ _ _ _ _ _ us hl => match us, hl with | [_], _ => rfl
  obtain ⟨f2, fd2, D2⟩ := dn_mk (ps := ["bounds"]) X G t2 fun _ _ _ _ _ _ us hl => match us, hl with | [_], _ => rfl
  obtain ⟨f3, fd3, D3⟩ := dn_mk (ps := ["bounds"]) X G t3 fun _ _ _ _ _ _ us hl => match us, hl with | [_], _ => rfl
  obtain ⟨f4, fd4, D4⟩ := dn_mk (ps := ["level", "sea", "width"]) X G t4 fun _ _ _ _ _ _ us hl => match us, hl with | [_, _, _], _ => rfl
  obtain ⟨f5, fd5, D5⟩ := dn_mk (ps := ["level", "sea", "width"]) X G t5 fun _ _ _ _ _ _ us hl => match us, hl with | [_, _, _], _ => rfl
  obtain ⟨f6, fd6, D6⟩ := dn_mk (ps := ["bounds", "hour", "level", "gate", "pumped"]) X G t6 fun _ _ _ _ _ _ us hl => match us, hl with | [_, _, _, _, _], _ => rfl
  obtain ⟨f7, fd7, D7⟩ := dn_mk (ps := ["bounds", "hour", "level", "gate", "pumped"]) X G t7 fun _ _ _ _ _ _ us hl => match us, hl with | [_, _, _, _, _], _ => rfl
  obtain ⟨f8, fd8, D8⟩ := dn_mk (ps := ["bounds", "pumped", "after"]) X G t8 fun _ _ _ _ _ _ us hl => match us, hl with | [_, _, _], _ => rfl
  obtain ⟨f9, fd9, D9⟩ := dn_mk (ps := ["bounds", "hour", "level", "later"]) X G t9 fun _ _ _ _ _ _ us hl => match us, hl with | [_, _, _, _], _ => rfl
  obtain ⟨f10, fd10, D10⟩ := dn_mk (ps := ["bounds", "stands", "hours"]) X G t10 fun _ _ _ _ _ _ us hl => match us, hl with | [_, _, _], _ => rfl
  obtain ⟨f11, fd11, D11⟩ := dn_mk (ps := ["calls", "place"]) X G t11 fun _ _ _ _ _ _ us hl => match us, hl with | [_, _], _ => rfl
  obtain ⟨f12, fd12, D12⟩ := dn_mk (ps := ["calls"]) X G t12 fun _ _ _ _ _ _ us hl => match us, hl with | [_], _ => rfl
  obtain ⟨f13, fd13, D13⟩ := dn_mk (ps := ["found", "cost", "rest", "gate", "pumped"]) X G t13 fun _ _ _ _ _ _ us hl => match us, hl with | [_, _, _, _, _], _ => rfl
  obtain ⟨f14, fd14, D14⟩ := dn_mk (ps := ["bounds", "hour", "level", "later"]) X G t14 fun _ _ _ _ _ _ us hl => match us, hl with | [_, _, _, _], _ => rfl
  obtain ⟨f15, fd15, D15⟩ := dn_mk (ps := ["bounds", "hours"]) X G t15 fun _ _ _ _ _ _ us hl => match us, hl with | [_, _], _ => rfl
  obtain ⟨f16, fd16, D16⟩ := dn_mk (ps := ["bounds", "stands", "hours", "tables"]) X G t16 fun _ _ _ _ _ _ us hl => match us, hl with | [_, _, _, _], _ => rfl
  obtain ⟨f17, fd17, D17⟩ := dn_mk (ps := ["bounds", "stands", "hours"]) X G t17 fun _ _ _ _ _ _ us hl => match us, hl with | [_, _, _], _ => rfl
  obtain ⟨f18, fd18, D18⟩ := dn_mk (ps := ["doings", "many_hours"]) X G t18 fun _ _ _ _ _ _ us hl => match us, hl with | [_, _], _ => rfl
  obtain ⟨f19, fd19, D19⟩ := dn_mk (ps := ["bounds", "stands", "hours", "doings"]) X G t19 fun _ _ _ _ _ _ us hl => match us, hl with | [_, _, _, _], _ => rfl
  obtain ⟨f20, fd20, D20⟩ := dn_mk (ps := ["storm", "call"]) X G t20 fun _ _ _ _ _ _ us hl => match us, hl with | [_, _], _ => rfl
  obtain ⟨fZ, oc, od, kV, dc, pm, an, cd, ct, sl, a, l, c, k⟩ := t21
  have FZ := fun_mk (st := sAnswers) l c k
  have e := hfa.symm.trans (PySem.W.mg_of X G a)
  cases e
  have B : Bm K CB fB0 fdB0 := ⟨FB0, ⟨cB.ms, MB0.at_, MB0.fn, cB.kc⟩, bB0⟩
  refine ⟨PySem.W.fnOf "answers" "answers" (defArgs sAnswers) (defBody sAnswers) (defScope sAnswers) .none kV dc pm an cd ct, fun s us hu => match us, hu with | [_], _ => .of_eq rfl, fun base _ _ => ?_⟩
  have G6 : FnOk P w K mg base CX0 2 f6 fd6 ["bounds", "hour", "level", "gate", "pumped"] (spBehind CB) := ok_behind D6 T D4 D5
  have G7 : FnOk P w K mg base CX0 2 f7 fd7 ["bounds", "hour", "level", "gate", "pumped"] (spCosts CB) := ok_costs D7 T D5
  have G8 : FnOk P w K mg base CX0 1 f8 fd8 ["bounds", "pumped", "after"] (spWrong CB) := ok_wrong D8 T
  have G13 : FnOk P w K mg base CX0 1 f13 fd13 ["found", "cost", "rest", "gate", "pumped"] spTaken := ok_taken D13
  have G14 : FnOk P w K mg base CX0 3 f14 fd14 ["bounds", "hour", "level", "later"] (spEntry CB) := ok_entry D14 T D6 G6 D8 G8 D7 G7 D13 G13
  have G15 : FnOk P w K mg base CX0 4 f15 fd15 ["bounds", "hours"] (spTables CB) := ok_tables D15 T D14 G14
  have G16 : FnOk P w K mg base CX0 3 f16 fd16 ["bounds", "stands", "hours", "tables"] (spEarliest CB) := ok_earliest D16 T D6 G6
  have G17 : FnOk P w K mg base CX0 5 f17 fd17 ["bounds", "stands", "hours"] (spCheapest CB) := ok_cheapest D17 D15 G15 D16 G16
  have G1 : FnOk P w K mg base CX0 3 f1 fd1 ["bounds"] (spOther CB Sj03.Storm.shut) := ok_nogate D1 T B
  have G2 : FnOk P w K mg base CX0 3 f2 fd2 ["bounds"] (spOther CB Sj03.Storm.still) := ok_nopumps D2 T B
  have G3 : FnOk P w K mg base CX0 3 f3 fd3 ["bounds"] (spOther CB fun s => high s 60) := ok_uptop D3 T B
  have G0 : FnOk P w K mg base CX0 1 f0 fd0 ["stands", "bounds"] (spAsTold CB) := ok_astold D0 T
  have G9 : FnOk P w K mg base CX0 3 f9 fd9 ["bounds", "hour", "level", "later"] (spNeedAt CB) := ok_needat D9 T D6 G6 D8 G8
  have G10 : FnOk P w K mg base CX0 4 f10 fd10 ["bounds", "stands", "hours"] (spNeeded CB) := ok_needed D10 T D3 G3 D9 G9
  have G18 : FnOk P w K mg base CX0 1 f18 fd18 ["doings", "many_hours"] spIsPlan := ok_isplan D18 T
  have G19 : FnOk P w K mg base CX0 3 f19 fd19 ["bounds", "stands", "hours", "doings"] (spTry CB) := ok_try D19 T D18 G18 D6 G6 D8 G8 D7 G7
  have G11 : FnOk P w K mg base CX0 1 f11 fd11 ["calls", "place"] (spLenAt K) := ok_lenat D11
  have G12 : FnOk P w K mg base CX0 2 f12 fd12 ["calls"] (spCallsOf K) := ok_callsof D12 T D11 G11
  have GS1 : FnOk P w K mg base CX0 2 fS1 fdS1 ["self", "stands", "bounds"] (spBegins CS CB) := ok_begins FS1 T D0 G0
  have GS2 : FnOk P w K mg base CX0 1 fS2 fdS2 ["self", "rain", "sea", "price"] (spTells CS CB) := ok_tells FS2 T
  have G20 : FnOk P w K mg base CX0 6 f20 fd20 ["storm", "call"] (spTold CS CB) := ok_toldby D20 T B ⟨MS1, bS1, MS2, bS2⟩ GS1 GS2 D19 G19 D17 G17 D1 G1 D2 G2 D10 G10
  exact ok_answers FZ T ⟨cS.ms, MS0.at_, MS0.fn, cS.kc⟩ bS0 (ok_sinit FS0 T B) D12 G12 D20 G20
end Sg
open PySem PySem.W PyProof.Rows
set_option maxRecDepth 100000 in
set_option maxHeartbeats 0 in
theorem PySem.Challenge.cw_stormgate_s01_answers_holds : PySem.Challenge.rw_stormgate_s01_answers.Holds := by
  w_on; k_headS; (case hw => exact ⟨[.list [.int 3]], by decide +kernel, by decide +kernel⟩)
  k_fillS
  refine L2.walk_specK (r := PySem.Challenge.rw_stormgate_s01_answers) (k := 7) (CX := L2.CX0) (ps := ["calls"]) (sp := Sg.spAns) (by decide +kernel) rfl rfl ⟨rfl, by decide, by decide⟩ (fun w h Y => PySem.W.kIn_of Y) ?F ?S (fun _ _ _ _ z => z)
  case F =>
    intro w mg fa h Y KX G hmg
    refine' Sg.all_mk KX G hmg ?cB ?cS ?mB0 ?mS0 ?mS1 ?mS2 ?n0 ?n1 ?n2 ?n3 ?n4 ?n5 ?n6 ?n7 ?i0 ?i1 ?i2 ?i3 ?i4 ?i5 ?i6 ?i7 ?i8 ?z0 ?z1 ?z2 ?z3 ?z4 ?z5 ?t0 ?t1 ?t2 ?t3 ?t4 ?t5 ?t6 ?t7 ?t8 ?t9 ?t10 ?t11 ?t12 ?t13 ?t14 ?t15 ?t16 ?t17 ?t18 ?t19 ?t20 ?t21
    (case cB => refine' ⟨?a, ?pg, ?hd, ?po, ?sa, ?mk, ?kc⟩; (case a => k_is); (case pg => k_is); (case hd => k_is); (case po => k_is); (case sa => k_is); (case mk => k_is); (case kc => k_is))
    (case cS => refine' ⟨?a, ?pg, ?hd, ?po, ?sa, ?mk, ?kc⟩; (case a => k_is); (case pg => k_is); (case hd => k_is); (case po => k_is); (case sa => k_is); (case mk => k_is); (case kc => k_is))
    (case mB0 => refine' Sg.meth_mk ?a ?i ?l ?c ?k; (case a => k_is); (case i => k_is); (case l => k_is); (case c => k_is); (case k => k_is))
    (case mS0 => refine' Sg.meth_mk ?a ?i ?l ?c ?k; (case a => k_is); (case i => k_is); (case l => k_is); (case c => k_is); (case k => k_is))
    (case mS1 => refine' Sg.meth_mk ?a ?i ?l ?c ?k; (case a => k_is); (case i => k_is); (case l => k_is); (case c => k_is); (case k => k_is))
    (case mS2 => refine' Sg.meth_mk ?a ?i ?l ?c ?k; (case a => k_is); (case i => k_is); (case l => k_is); (case c => k_is); (case k => k_is))
    (case n0 => k_is)
    (case n1 => k_is)
    (case n2 => k_is)
    (case n3 => k_is)
    (case n4 => k_is)
    (case n5 => k_is)
    (case n6 => k_is)
    (case n7 => k_is)
    (case i0 => refine' Sg.int_mk ?a; (case a => k_is))
    (case i1 => refine' Sg.int_mk ?a; (case a => k_is))
    (case i2 => refine' Sg.int_mk ?a; (case a => k_is))
    (case i3 => refine' Sg.int_mk ?a; (case a => k_is))
    (case i4 => refine' Sg.int_mk ?a; (case a => k_is))
    (case i5 => refine' Sg.int_mk ?a; (case a => k_is))
    (case i6 => refine' Sg.int_mk ?a; (case a => k_is))
    (case i7 => refine' Sg.int_mk ?a; (case a => k_is))
    (case i8 => refine' Sg.int_mk ?a; (case a => k_is))
    (case z0 => k_is)
    (case z1 => k_is)
    (case z2 => k_is)
    (case z3 => k_is)
    (case z4 => k_is)
    (case z5 => k_is)
    (case t0 => refine' Sg.top_mk ?a ?l ?c ?k; (case a => k_is); (case l => k_is); (case c => k_is); (case k => k_is))
    (case t1 => refine' Sg.top_mk ?a ?l ?c ?k; (case a => k_is); (case l => k_is); (case c => k_is); (case k => k_is))
    (case t2 => refine' Sg.top_mk ?a ?l ?c ?k; (case a => k_is); (case l => k_is); (case c => k_is); (case k => k_is))
    (case t3 => refine' Sg.top_mk ?a ?l ?c ?k; (case a => k_is); (case l => k_is); (case c => k_is); (case k => k_is))
    (case t4 => refine' Sg.top_mk ?a ?l ?c ?k; (case a => k_is); (case l => k_is); (case c => k_is); (case k => k_is))
    (case t5 => refine' Sg.top_mk ?a ?l ?c ?k; (case a => k_is); (case l => k_is); (case c => k_is); (case k => k_is))
    (case t6 => refine' Sg.top_mk ?a ?l ?c ?k; (case a => k_is); (case l => k_is); (case c => k_is); (case k => k_is))
    (case t7 => refine' Sg.top_mk ?a ?l ?c ?k; (case a => k_is); (case l => k_is); (case c => k_is); (case k => k_is))
    (case t8 => refine' Sg.top_mk ?a ?l ?c ?k; (case a => k_is); (case l => k_is); (case c => k_is); (case k => k_is))
    (case t9 => refine' Sg.top_mk ?a ?l ?c ?k; (case a => k_is); (case l => k_is); (case c => k_is); (case k => k_is))
    (case t10 => refine' Sg.top_mk ?a ?l ?c ?k; (case a => k_is); (case l => k_is); (case c => k_is); (case k => k_is))
    (case t11 => refine' Sg.top_mk ?a ?l ?c ?k; (case a => k_is); (case l => k_is); (case c => k_is); (case k => k_is))
    (case t12 => refine' Sg.top_mk ?a ?l ?c ?k; (case a => k_is); (case l => k_is); (case c => k_is); (case k => k_is))
    (case t13 => refine' Sg.top_mk ?a ?l ?c ?k; (case a => k_is); (case l => k_is); (case c => k_is); (case k => k_is))
    (case t14 => refine' Sg.top_mk ?a ?l ?c ?k; (case a => k_is); (case l => k_is); (case c => k_is); (case k => k_is))
    (case t15 => refine' Sg.top_mk ?a ?l ?c ?k; (case a => k_is); (case l => k_is); (case c => k_is); (case k => k_is))
    (case t16 => refine' Sg.top_mk ?a ?l ?c ?k; (case a => k_is); (case l => k_is); (case c => k_is); (case k => k_is))
    (case t17 => refine' Sg.top_mk ?a ?l ?c ?k; (case a => k_is); (case l => k_is); (case c => k_is); (case k => k_is))
    (case t18 => refine' Sg.top_mk ?a ?l ?c ?k; (case a => k_is); (case l => k_is); (case c => k_is); (case k => k_is))
    (case t19 => refine' Sg.top_mk ?a ?l ?c ?k; (case a => k_is); (case l => k_is); (case c => k_is); (case k => k_is))
    (case t20 => refine' Sg.top_mk ?a ?l ?c ?k; (case a => k_is); (case l => k_is); (case c => k_is); (case k => k_is))
    (case t21 => refine' Sg.top_mk ?a ?l ?c ?k; (case a => k_is); (case l => k_is); (case c => k_is); (case k => k_is))
  case S =>
    intro K H xs a hO hwi hask hx
    cases hx with
    | cons h1 h2 =>
      cases h2
      cases h1 with
      | lst hs ha =>
        have e := L2.ints_dw a.1 _ ha
        subst e
        have q : ((Codec.inLen 0 1000 a.1 && a.1.all (Codec.inInt 0 4294967295)) && true) = true := hwi
        rw [Bool.and_eq_true, Bool.and_eq_true] at q
        exact ⟨_, a.1, rfl, hs, (Codec.inNat_iff.mp q.1.1).2, hask, fun H' p hp => .lst (L2.SqL.of hp) (L2.dw_ints _)⟩
#print axioms PySem.Challenge.cw_stormgate_s01_answers_holds
