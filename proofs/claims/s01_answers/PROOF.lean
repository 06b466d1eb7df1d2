import PyProof.Rows.All
import Wide.All
import OpenK.AllK
import Wide.FinOn
import PyProof.EqAt
import PyProof.EqKinds
import PyProof.TupleCall
import Open.SpecLaws
import KE.OsGo
import KE.KDictDisplayH
import KE.GoesMore
import HandS.ForSpec
import HandS.Comp
import HandS.Dict
import HandS.Iter
import HandS.Walk
import HandS.WordsDict
import PySem.Challenge.RW_beatingway_s01_answers
set_option Elab.async false
set_option linter.all false
set_option maxRecDepth 100000
set_option maxHeartbeats 4000000
namespace Bw
open Uw28

/-- one step of the boat from a minute, a cell, a side -/
def stepS (w : Water) (t c s h : Nat) : Option (Nat × Nat × Nat) := match w.next c h, w.step_ t s h with
  | some d, some k => some (t + k, d, sideOf s h (w.wind t))
  | _, _ => none

structure Ok (w : Water) : Prop where
  w2 : 2 ≤ w.wide
  w5 : w.wide ≤ 5
  h2 : 2 ≤ w.high
  h5 : w.high ≤ 5
  wl : w.winds.length ≤ 12
  w7 : ∀ x ∈ w.winds, x ≤ 7
  tk : ∃ a b c d, w.takes = [a, b, c, d] ∧ 1 ≤ a ∧ 1 ≤ b ∧ 1 ≤ c ∧ 1 ≤ d ∧ a ≤ 9 ∧ b ≤ 9 ∧ c ≤ 9 ∧ d ≤ 9
  t9 : w.turn ≤ 9
  bt : w.boat < w.cells
  mc : w.mark < w.cells

theorem Ok.cells25 {w : Water} (k : Ok w) : w.cells ≤ 25 := by
  have h1 := k.w5
  have h2 := k.h5
  unfold Water.cells
  exact Nat.mul_le_mul h1 h2

theorem ok_init : Ok init := ⟨by decide, by decide, by decide, by decide, by decide, by decide, ⟨1, 1, 1, 1, rfl, by decide⟩, by decide, by decide, by decide⟩
theorem ok_begins {a b : Nat} (h : ¬ (a < 2 ∨ 5 < a ∨ b < 2 ∨ 5 < b)) : Ok ⟨a, b, [], [], [1, 1, 1, 1], 0, 0, a * b - 1⟩ := by
  have h1 : 2 ≤ a := by omega
  have h2 : a ≤ 5 := by omega
  have h3 : 2 ≤ b := by omega
  have h4 : b ≤ 5 := by omega
  have h5 : 2 * 2 ≤ a * b := Nat.mul_le_mul h1 h3
  refine ⟨h1, h2, h3, h4, by simp, by simp, ⟨1, 1, 1, 1, rfl, by decide⟩, by simp, ?_, ?_⟩
  · show 0 < a * b
    omega
  · show a * b - 1 < a * b
    omega

theorem wind_le {w : Water} (k : Ok w) (t : Nat) : w.wind t ≤ 7 := by
  unfold Water.wind
  split
  · omega
  · rename_i h
    have hl : t % w.winds.length < w.winds.length := Nat.mod_lt _ (by omega)
    rw [List.getD_eq_getElem?_getD, List.getElem?_eq_getElem hl]
    exact k.w7 _ (List.getElem_mem hl)

theorem next_lt {w : Water} {c h d : Nat} (e : w.next c h = some d) : d < w.cells ∧ h < 8 := by
  unfold Water.next at e
  split at e
  · cases e
  · rename_i h8
    dsimp only at e
    generalize ((c % w.wide : Nat) : Int) + (if h = 1 ∨ h = 2 ∨ h = 3 then 1 else if h = 5 ∨ h = 6 ∨ h = 7 then -1 else 0) = x at e
    generalize ((c / w.wide : Nat) : Int) + (if h = 7 ∨ h = 0 ∨ h = 1 then -1 else if h = 3 ∨ h = 4 ∨ h = 5 then 1 else 0) = y at e
    split at e
    · cases e
    · rename_i hx
      split at e
      · cases e
      · cases e
        refine ⟨?_, by omega⟩
        have h1 : x.toNat < w.wide := by omega
        have h2 : y.toNat + 1 ≤ w.high := by omega
        have h3 : (y.toNat + 1) * w.wide ≤ w.high * w.wide := Nat.mul_le_mul_right _ h2
        rw [Nat.add_mul, Nat.one_mul, Nat.mul_comm w.high] at h3
        unfold Water.cells
        omega

theorem point_le (h d : Nat) : point h d ≤ 4 := by
  unfold point
  dsimp only
  omega
theorem takes_ge {w : Water} (k : Ok w) {p : Nat} (h0 : p ≠ 0) (h4 : p ≤ 4) : 1 ≤ w.takes.getD (p - 1) 1 := by
  obtain ⟨a, b, c, d, e, h⟩ := k.tk
  rw [e]
  match p, h0, h4 with
  | 1, _, _ => exact h.1
  | 2, _, _ => exact h.2.1
  | 3, _, _ => exact h.2.2.1
  | 4, _, _ => exact h.2.2.2.1
theorem step_ge {w : Water} (k : Ok w) {t s h n : Nat} (e : w.step_ t s h = some n) : 1 ≤ n := by
  unfold Water.step_ at e
  dsimp only at e
  split at e
  · cases e
  · rename_i h0
    cases e
    have := takes_ge k h0 (point_le _ _)
    omega
theorem side_le (h d : Nat) : side h d ≤ 2 := by
  unfold side
  dsimp only
  split
  · omega
  · split <;> omega
theorem sideOf_lt {s h d : Nat} (hs : s < 3) : sideOf s h d < 3 := by
  unfold sideOf
  have := side_le h d
  split <;> omega

theorem stepS_some {w : Water} {t c s h t' c' s' : Nat} (e : stepS w t c s h = some (t', c', s')) :
    ∃ k, w.next c h = some c' ∧ w.step_ t s h = some k ∧ t' = t + k ∧ s' = sideOf s h (w.wind t) := by
  unfold stepS at e
  split at e
  · rename_i d k h1 h2
    cases e
    exact ⟨k, h1, h2, rfl, rfl⟩
  · cases e
theorem stepS_of {w : Water} {t c s h c' k : Nat} (h1 : w.next c h = some c') (h2 : w.step_ t s h = some k) : stepS w t c s h = some (t + k, c', sideOf s h (w.wind t)) := by
  unfold stepS
  rw [h1, h2]
theorem stepS_lt {w : Water} (k : Ok w) {t c s h t' c' s' : Nat} (hs : s < 3) (e : stepS w t c s h = some (t', c', s')) : t < t' ∧ c' < w.cells ∧ s' < 3 ∧ h < 8 := by
  obtain ⟨n, h1, h2, rfl, rfl⟩ := stepS_some e
  have := step_ge k h2
  have q := next_lt h1
  exact ⟨by omega, q.1, sideOf_lt hs, q.2⟩

/-- from here the mark is got to first at minute v -/
inductive Arr (w : Water) (v : Nat) : Nat → Nat → Nat → Prop
  | here (s : Nat) : Arr w v v w.mark s
  | step {t c s h t' c' s' : Nat} : c ≠ w.mark → stepS w t c s h = some (t', c', s') → Arr w v t' c' s' → Arr w v t c s
theorem Arr.le {w : Water} {v : Nat} (k : Ok w) {t c s : Nat} (a : Arr w v t c s) : s < 3 → t ≤ v := by
  induction a with
  | here s => exact fun _ => Nat.le_refl _
  | step hc e _ ih =>
    intro hs
    have q := stepS_lt k hs e
    have := ih q.2.2.1
    omega
theorem Arr.at_mark {w : Water} {v t s : Nat} (a : Arr w v t w.mark s) : v = t := by
  generalize hc : w.mark = c at a
  cases a with
  | here => rfl
  | step h _ _ => exact absurd hc.symm h
theorem Arr.cases {w : Water} {v t c s : Nat} (hc : c ≠ w.mark) (a : Arr w v t c s) : ∃ h t' c' s', stepS w t c s h = some (t', c', s') ∧ Arr w v t' c' s' := by
  cases a with
  | here => exact absurd rfl hc
  | step _ e a => exact ⟨_, _, _, _, e, a⟩
/-- what the boat may come to -/
inductive Reach (w : Water) : Nat → Nat → Nat → Prop
  | start : Reach w 0 w.boat 0
  | step {t c s h t' c' s' : Nat} : Reach w t c s → c ≠ w.mark → stepS w t c s h = some (t', c', s') → t' ≤ 40 → Reach w t' c' s'
theorem Reach.ok {w : Water} (k : Ok w) {t c s : Nat} (r : Reach w t c s) : t ≤ 40 ∧ c < w.cells ∧ s < 3 := by
  induction r with
  | start => exact ⟨by omega, k.bt, by omega⟩
  | step _ _ e h ih =>
    have q := stepS_lt k ih.2.2 e
    exact ⟨h, q.2.1, q.2.2.1⟩
theorem Reach.back {w : Water} {v t c s : Nat} (r : Reach w t c s) : Arr w v t c s → Arr w v 0 w.boat 0 := by
  induction r with
  | start => exact fun a => a
  | step _ hc e _ ih => exact fun a => ih (.step hc e a)
theorem Arr.reach {w : Water} (k : Ok w) {v t c s : Nat} (hv : v ≤ 40) (a : Arr w v t c s) : Reach w t c s → ∃ s', Reach w v w.mark s' := by
  induction a with
  | here s => exact fun r => ⟨s, r⟩
  | step hc e a ih =>
    intro r
    have hs := (r.ok k).2.2
    have q := stepS_lt k hs e
    have := a.le k q.2.2.1
    exact ih (.step r hc e (by omega))

/-! the tables -/
/-- the less of two -/
def omin (x b : Option Nat) : Option Nat := match x, b with
  | some v, some u => some (min v u)
  | some v, none => some v
  | none, u => u
theorem fold_omin (f : Nat → Option Nat) : ∀ (l : List Nat) (b : Option Nat),
    (∀ v, l.foldl (fun b h => omin (f h) b) b = some v → (b = some v ∨ ∃ h ∈ l, f h = some v) ∧ (∀ u, b = some u → v ≤ u) ∧ ∀ h ∈ l, ∀ u, f h = some u → v ≤ u) ∧
    (l.foldl (fun b h => omin (f h) b) b = none → b = none ∧ ∀ h ∈ l, f h = none)
  | [], b => ⟨fun v e => ⟨.inl e, fun u hu => by rw [hu] at e; cases e; exact Nat.le_refl _, fun h hm => by simp at hm⟩, fun e => ⟨e, fun h hm => by simp at hm⟩⟩
  | a :: l, b => by
    have ih := fold_omin f l (omin (f a) b)
    rw [List.foldl_cons]
    refine ⟨fun v e => ?_, fun e => ?_⟩
    · obtain ⟨h1, h2, h3⟩ := ih.1 v e
      cases ea : f a with
      | none =>
        rw [ea] at h1 h2
        have q : omin none b = b := rfl
        rw [q] at h1 h2
        refine ⟨?_, h2, fun h hm u hu => ?_⟩
        · rcases h1 with h1 | ⟨h, hm, hf⟩
          · exact .inl h1
          · exact .inr ⟨h, List.mem_cons_of_mem _ hm, hf⟩
        · rcases List.mem_cons.mp hm with rfl | hm
          · rw [ea] at hu; cases hu
          · exact h3 h hm u hu
      | some x =>
        rw [ea] at h1 h2
        cases b with
        | none =>
          have q : omin (some x) none = some x := rfl
          rw [q] at h1 h2
          have hx := h2 x rfl
          refine ⟨?_, fun u hu => (by cases hu), fun h hm u hu => ?_⟩
          · rcases h1 with h1 | ⟨h, hm, hf⟩
            · exact .inr ⟨a, List.mem_cons_self, ea.trans h1⟩
            · exact .inr ⟨h, List.mem_cons_of_mem _ hm, hf⟩
          · rcases List.mem_cons.mp hm with rfl | hm
            · rw [ea] at hu; cases hu; exact hx
            · exact h3 h hm u hu
        | some y =>
          have q : omin (some x) (some y) = some (min x y) := rfl
          rw [q] at h1 h2
          have hx := h2 _ rfl
          refine ⟨?_, fun u hu => (by cases hu; omega), fun h hm u hu => ?_⟩
          · rcases h1 with h1 | ⟨h, hm, hf⟩
            · have e1 : min x y = v := Option.some.inj h1
              by_cases hxy : x ≤ y
              · exact .inr ⟨a, List.mem_cons_self, ea.trans (by rw [← e1, Nat.min_eq_left hxy])⟩
              · exact .inl (by rw [← e1, Nat.min_eq_right (by omega)])
            · exact .inr ⟨h, List.mem_cons_of_mem _ hm, hf⟩
          · rcases List.mem_cons.mp hm with rfl | hm
            · rw [ea] at hu; cases hu; omega
            · exact h3 h hm u hu
    · obtain ⟨h1, h2⟩ := ih.2 e
      cases ea : f a with
      | none =>
        rw [ea] at h1
        refine ⟨h1, fun h hm => ?_⟩
        rcases List.mem_cons.mp hm with rfl | hm
        · exact ea
        · exact h2 h hm
      | some x =>
        rw [ea] at h1
        cases b <;> cases h1

def rowOf (w : Water) (m : Nat) : List (Option Nat) := (w.tables m).getD 0 []
theorem tables_getD (w : Water) : ∀ (n j : Nat), (w.tables n).getD j [] = if j ≤ n then rowOf w (n - j) else []
  | 0, 0 => rfl
  | 0, j + 1 => by simp [Water.tables]
  | n + 1, 0 => rfl
  | n + 1, j + 1 => by
    have ih := tables_getD w n j
    have e : (w.tables (n + 1)).getD (j + 1) [] = (w.tables n).getD j [] := rfl
    rw [e, ih]
    by_cases h : j ≤ n
    · rw [if_pos h, if_pos (by omega), show n + 1 - (j + 1) = n - j by omega]
    · rw [if_neg h, if_neg (by omega)]
def ent (w : Water) (m c s : Nat) : Option Nat := (rowOf w m).getD (3 * c + s) none
theorem getD_map_range {α : Type} (f : Nat → α) (n i : Nat) (d : α) (h : i < n) : ((List.range n).map f).getD i d = f i := by
  rw [List.getD_eq_getElem?_getD, List.getElem?_map, List.getElem?_range h]
  rfl
theorem ent_zero (w : Water) {c s : Nat} (hc : c < w.cells) (hs : s < 3) : ent w 0 c s = if c = w.mark then some 40 else none := by
  unfold ent rowOf
  show ((List.range (3 * w.cells)).map fun i => if i / 3 = w.mark then some LONG else none).getD (3 * c + s) none = _
  rw [getD_map_range _ _ _ _ (by omega), show (3 * c + s) / 3 = c by omega]
  rfl
/-- what a heading leads to -/
def via (w : Water) (n t c s h : Nat) : Option Nat := match w.next c h, w.step_ t s h with
  | some c', some k => ((w.tables n).getD (k - 1) []).getD (3 * c' + sideOf s h (w.wind t)) none
  | _, _ => none
theorem ent_succ (w : Water) (n : Nat) {c s : Nat} (hc : c < w.cells) (hs : s < 3) :
    ent w (n + 1) c s = if c = w.mark then some (40 - (n + 1)) else (List.range 8).foldl (fun b h => omin (via w n (40 - (n + 1)) c s h) b) none := by
  unfold ent rowOf
  show ((List.range (3 * w.cells)).map fun i => if i / 3 = w.mark then some (LONG - (n + 1)) else (List.range 8).foldl (fun (b : Option Nat) h => match w.next (i / 3) h, w.step_ (LONG - (n + 1)) (i % 3) h with
      | some c, some k => match ((w.tables n).getD (k - 1) []).getD (3 * c + sideOf (i % 3) h (w.wind (LONG - (n + 1)))) none, b with
        | some v, some u => some (min v u)
        | some v, none => some v
        | none, u => u
      | _, _ => b) none).getD (3 * c + s) none = _
  rw [getD_map_range _ _ _ _ (by omega), show (3 * c + s) / 3 = c by omega, show (3 * c + s) % 3 = s by omega]
  have hf : (fun (b : Option Nat) h => match w.next c h, w.step_ (LONG - (n + 1)) s h with
      | some c, some k => match ((w.tables n).getD (k - 1) []).getD (3 * c + sideOf s h (w.wind (LONG - (n + 1)))) none, b with
        | some v, some u => some (min v u)
        | some v, none => some v
        | none, u => u
      | _, _ => b) = fun b h => omin (via w n (40 - (n + 1)) c s h) b := by
    funext b h
    unfold via
    show _ = omin (match w.next c h, w.step_ (LONG - (n + 1)) s h with
      | some c', some k => ((w.tables n).getD (k - 1) []).getD (3 * c' + sideOf s h (w.wind (LONG - (n + 1)))) none
      | _, _ => none) b
    cases w.next c h with
    | none => rfl
    | some d =>
      cases w.step_ (LONG - (n + 1)) s h with
      | none => rfl
      | some k => rfl
  rw [hf]
  rfl
/-- an entry tells the soonest -/
def TSem (w : Water) (t c s : Nat) (r : Option Nat) : Prop :=
  (∀ v, r = some v → v ≤ 40 ∧ Arr w v t c s ∧ ∀ u, u ≤ 40 → Arr w u t c s → v ≤ u) ∧ (r = none → ∀ u, u ≤ 40 → ¬ Arr w u t c s)
theorem TSem.eq {w : Water} {t c s v : Nat} {r : Option Nat} (h : TSem w t c s r) (hv : v ≤ 40) (a : Arr w v t c s) (hm : ∀ u, u ≤ 40 → Arr w u t c s → v ≤ u) : r = some v := by
  cases e : r with
  | none => exact absurd a (h.2 e v hv)
  | some x =>
    obtain ⟨h1, h2, h3⟩ := h.1 x e
    have := hm x h1 h2
    have := h3 v hv a
    rw [show x = v by omega]
theorem ent_sem {w : Water} (k : Ok w) : ∀ (n : Nat), n ≤ 40 → ∀ m, m ≤ n → ∀ c s, c < w.cells → s < 3 → TSem w (40 - m) c s (ent w m c s)
  | 0, _, m, hm, c, s, hc, hs => by
    obtain rfl : m = 0 := by omega
    rw [ent_zero w hc hs]
    by_cases e : c = w.mark
    · rw [if_pos e]
      subst e
      refine ⟨fun v hv => ?_, fun h => (by cases h)⟩
      cases hv
      exact ⟨Nat.le_refl _, .here s, fun u _ a => Nat.le_of_eq a.at_mark.symm⟩
    · rw [if_neg e]
      refine ⟨fun v hv => (by cases hv), fun _ u hu a => ?_⟩
      obtain ⟨h, t', c', s', e1, a1⟩ := a.cases e
      have q := stepS_lt k hs e1
      have := a1.le k q.2.2.1
      omega
  | n + 1, hn, m, hm, c, s, hc, hs => by
    by_cases hmn : m ≤ n
    · exact ent_sem k n (by omega) m hmn c s hc hs
    obtain rfl : m = n + 1 := by omega
    rw [ent_succ w n hc hs]
    by_cases e : c = w.mark
    · rw [if_pos e]
      subst e
      refine ⟨fun v hv => ?_, fun h => (by cases h)⟩
      cases hv
      exact ⟨by omega, .here s, fun u _ a => Nat.le_of_eq a.at_mark.symm⟩
    · rw [if_neg e]
      -- what a heading leads to, in words
      have hvia : ∀ h v, via w n (40 - (n + 1)) c s h = some v → v ≤ 40 ∧ Arr w v (40 - (n + 1)) c s := by
        intro h v hv
        unfold via at hv
        split at hv
        · rename_i c' kk e1 e2
          rw [tables_getD] at hv
          split at hv
          · rename_i hk
            have hk1 := step_ge k e2
            have q := next_lt e1
            have sm := ent_sem k n (by omega) (n - (kk - 1)) (by omega) c' (sideOf s h (w.wind (40 - (n + 1)))) q.1 (sideOf_lt hs)
            obtain ⟨h1, h2, _⟩ := sm.1 v hv
            rw [show 40 - (n - (kk - 1)) = 40 - (n + 1) + kk by omega] at h2
            exact ⟨h1, .step e (stepS_of e1 e2) h2⟩
          · simp at hv
        · cases hv
      have hall : ∀ u, u ≤ 40 → Arr w u (40 - (n + 1)) c s → ∃ h, h < 8 ∧ ∃ v, via w n (40 - (n + 1)) c s h = some v ∧ v ≤ u := by
        intro u hu a
        obtain ⟨h, t', c', s', e1, a1⟩ := a.cases e
        obtain ⟨kk, f1, f2, rfl, rfl⟩ := stepS_some e1
        have hk1 := step_ge k f2
        have q := next_lt f1
        have hle := a1.le k (sideOf_lt hs)
        have sm := ent_sem k n (by omega) (n - (kk - 1)) (by omega) c' (sideOf s h (w.wind (40 - (n + 1)))) q.1 (sideOf_lt hs)
        have hvia : via w n (40 - (n + 1)) c s h = ent w (n - (kk - 1)) c' (sideOf s h (w.wind (40 - (n + 1)))) := by
          unfold via
          rw [f1, f2]
          show ((w.tables n).getD (kk - 1) []).getD _ none = _
          rw [tables_getD, if_pos (by omega)]
          rfl
        rw [show 40 - (n - (kk - 1)) = 40 - (n + 1) + kk by omega] at sm
        cases ee : ent w (n - (kk - 1)) c' (sideOf s h (w.wind (40 - (n + 1)))) with
        | none => exact absurd a1 (sm.2 ee u hu)
        | some v => exact ⟨h, q.2, v, hvia.trans ee, (sm.1 v ee).2.2 u hu a1⟩
      have fo := fold_omin (fun h => via w n (40 - (n + 1)) c s h) (List.range 8) none
      refine ⟨fun v hv => ?_, fun hv u hu a => ?_⟩
      · obtain ⟨h1, _, h3⟩ := fo.1 v hv
        rcases h1 with h1 | ⟨h, hm, hf⟩
        · cases h1
        · obtain ⟨g1, g2⟩ := hvia h v hf
          refine ⟨g1, g2, fun u hu a => ?_⟩
          obtain ⟨h', h8, v', e1, hle⟩ := hall u hu a
          have := h3 h' (List.mem_range.mpr h8) v' e1
          omega
      · obtain ⟨h', h8, v', e1, _⟩ := hall u hu a
        have := (fo.2 hv).2 h' (List.mem_range.mpr h8)
        rw [this] at e1
        cases e1
/-- the whole table's entry at a minute -/
theorem tab_sem {w : Water} (k : Ok w) {t c s : Nat} (hc : c < w.cells) (hs : s < 3) : TSem w t c s (((w.tables 40).getD t []).getD (3 * c + s) none) := by
  rw [tables_getD]
  by_cases h : t ≤ 40
  · rw [if_pos h]
    have := ent_sem k 40 (Nat.le_refl _) (40 - t) (by omega) c s hc hs
    rw [show 40 - (40 - t) = t by omega] at this
    exact this
  · rw [if_neg h]
    refine ⟨fun v hv => (by simp at hv), fun _ u hu a => ?_⟩
    have := a.le k hs
    omega
theorem soon_none {w : Water} (k : Ok w) (h : ∀ t s, ¬ Reach w t w.mark s) : ((w.tables LONG).getD 0 []).getD (3 * w.boat) none = none := by
  have sm := tab_sem k (t := 0) k.bt (s := 0) (by omega)
  rw [Nat.add_zero] at sm
  cases e : ((w.tables 40).getD 0 []).getD (3 * w.boat) none with
  | none => exact e
  | some v =>
    obtain ⟨h1, h2, _⟩ := sm.1 v e
    obtain ⟨s', r⟩ := h2.reach k h1 .start
    exact absurd r (h _ _)
theorem Reach.arr {w : Water} {v s : Nat} (r : Reach w v w.mark s) : Arr w v 0 w.boat 0 := r.back (.here s)
theorem soon_some {w : Water} (k : Ok w) {v s : Nat} (r : Reach w v w.mark s) (h : ∀ t s, Reach w t w.mark s → v ≤ t) : ((w.tables LONG).getD 0 []).getD (3 * w.boat) none = some v := by
  have sm := tab_sem k (t := 0) k.bt (s := 0) (by omega)
  rw [Nat.add_zero] at sm
  refine sm.eq (r.ok k).1 r.arr fun u hu a => ?_
  obtain ⟨s', r'⟩ := a.reach k hu .start
  exact h _ _ r'

/-! the way -/
/-- the first heading by which it goes on to the mark at v -/
structure FirstH (w : Water) (v t c s h : Nat) : Prop where
  to : ∃ t' c' s', stepS w t c s h = some (t', c', s') ∧ Arr w v t' c' s'
  no : ∀ h', h' < h → ∀ t' c' s', stepS w t c s h' = some (t', c', s') → ¬ Arr w v t' c' s'
/-- v is the soonest -/
structure Soon (w : Water) (v : Nat) : Prop where
  le : v ≤ 40
  arr : Arr w v 0 w.boat 0
  min : ∀ u, u ≤ 40 → Arr w u 0 w.boat 0 → v ≤ u
theorem soon_of {w : Water} (k : Ok w) {v s : Nat} (r : Reach w v w.mark s) (h : ∀ t s, Reach w t w.mark s → v ≤ t) : Soon w v :=
  ⟨(r.ok k).1, r.arr, fun u hu a => by
    obtain ⟨s', r'⟩ := a.reach k hu .start
    exact h _ _ r'⟩
/-- where the boat can be, the table's entry is v if, and only if, it gets there at v -/
theorem tab_eq {w : Water} (k : Ok w) {v t c s h t' c' s' : Nat} (S : Soon w v) (r : Reach w t c s) (hc : c ≠ w.mark) (e : stepS w t c s h = some (t', c', s')) :
    (((w.tables 40).getD t' []).getD (3 * c' + s') none = some v) ↔ Arr w v t' c' s' := by
  have q := stepS_lt k (r.ok k).2.2 e
  have sm := tab_sem k (t := t') q.2.1 q.2.2.1
  refine ⟨fun hv => (sm.1 v hv).2.1, fun a => sm.eq S.le a fun u hu a' => ?_⟩
  exact S.min u hu (r.back (.step hc e a'))
theorem way_mark (w : Water) (tab : List (List (Option Nat))) (v : Nat) : ∀ (f t s : Nat), w.way tab v f t w.mark s = []
  | 0, _, _ => rfl
  | f + 1, t, s => by
    unfold Water.way
    rw [if_pos rfl]
theorem way_step {w : Water} (k : Ok w) {v f t c s h t' c' s' : Nat} (S : Soon w v) (r : Reach w t c s) (hc : c ≠ w.mark) (F : FirstH w v t c s h) (e : stepS w t c s h = some (t', c', s')) :
    w.way (w.tables 40) v (f + 1) t c s = h :: w.way (w.tables 40) v f t' c' s' := by
  obtain ⟨kk, f1, f2, rfl, rfl⟩ := stepS_some e
  have hf : ((List.range 8).find? fun h => match w.next c h, w.step_ t s h with
      | some d, some k => ((w.tables 40).getD (t + k) []).getD (3 * d + sideOf s h (w.wind t)) none == some v
      | _, _ => false) = some h := by
    rw [List.find?_range_eq_some]
    refine ⟨?_, List.mem_range.mpr (next_lt f1).2, fun j hj => ?_⟩
    · rw [f1, f2]
      obtain ⟨t1, c1, s1, e1, a1⟩ := F.to
      rw [e] at e1
      cases e1
      have := (tab_eq k S r hc e).mpr a1
      simp only [this, beq_self_eq_true]
    · cases g1 : w.next c j with
      | none => rfl
      | some d =>
        cases g2 : w.step_ t s j with
        | none => rfl
        | some kj =>
          have ej := stepS_of g1 g2
          have na := F.no j hj _ _ _ ej
          have := fun z => na ((tab_eq k S r hc ej).mp z)
          simpa using this
  rw [Water.way]
  simp only [if_neg hc]
  split
  · rename_i h2 hf2
    have hf3 := hf.symm.trans hf2
    cases hf3
    rw [f1, f2]
  · rename_i hf2
    have hf3 := hf.symm.trans hf2
    cases hf3
end Bw
namespace Bw
open Uw28 (Water)
/-! ### a list of calls, cut one by one -/
def cI (l : List Nat) : List Int := l.map fun (n : Nat) => (n : Int)
/-- how a call (but begins) is handed to answer: its number, its numbers, its row -/
inductive CArgs : Uw28.Call → Nat → List Nat → List Nat → Prop
  | shoal (c : Nat) (row : List Nat) : CArgs (.shoal c) 1 [c] row
  | winds (row g : List Nat) : CArgs (.winds row) 2 g row
  | boat (x y z u k : Nat) (row : List Nat) : CArgs (.boat x y z u k) 3 [x, y, z, u, k] row
  | places (b m : Nat) (row : List Nat) : CArgs (.places b m) 4 [b, m] row
  | soonest (g row : List Nat) : CArgs .soonest 5 g row
  | check (row g : List Nat) : CArgs (.check row) 6 g row
def nums : List Nat := [2, 1, 0, 5, 2, 0, 0]
/-- the call c stands ahead of t -/
inductive Cut (c : Uw28.Call) (t : List Int) : List Int → Prop
  | begins (x y : Nat) : c = .begins x y → Cut c t (0 :: (x : Int) :: (y : Int) :: t)
  | plain (n : Nat) (given : List Nat) : CArgs c n given [] → n ≠ 0 → n ≠ 2 → n ≠ 6 → nums[n]? = some given.length → Cut c t ((n : Int) :: (cI given ++ t))
  | list (n : Nat) (row : List Nat) : (∀ g, CArgs c n g row) → n = 2 ∨ n = 6 → row.length ≤ 50 → Cut c t ((n : Int) :: (row.length : Int) :: (cI row ++ t))
theorem nat_of {z : Int} (h : PyInside.within 0 4294967295 z = true) : ∃ n : Nat, z = (n : Int) ∧ Uw28Neutral.nat z = true := by
  unfold PyInside.within at h
  rw [Bool.and_eq_true, decide_eq_true_eq, decide_eq_true_eq] at h
  refine ⟨z.toNat, by omega, ?_⟩
  unfold Uw28Neutral.nat
  rw [Bool.and_eq_true, decide_eq_true_eq, decide_eq_true_eq]
  omega
theorem nats_of : ∀ {l : List Int}, l.all (PyInside.within 0 4294967295) = true → ∃ r : List Nat, l = cI r ∧ l.all Uw28Neutral.nat = true
  | [], _ => ⟨[], rfl, rfl⟩
  | z :: l, h => by
    rw [List.all_cons, Bool.and_eq_true] at h
    obtain ⟨n, e, h1⟩ := nat_of h.1
    obtain ⟨r, e2, h2⟩ := nats_of h.2
    exact ⟨n :: r, by rw [e, e2]; rfl, by rw [List.all_cons, h1, h2]; rfl⟩
theorem cI_toNat (r : List Nat) : (cI r).map Int.toNat = r := by
  unfold cI
  rw [List.map_map]
  conv => rhs; rw [← List.map_id r]
  exact List.map_congr_left fun n _ => Int.toNat_natCast n
theorem step_of {l : List Int} {c : Uw28.Call} (w : Water) (h1 : l.all Uw28Neutral.nat = true) (h2 : Uw28Neutral.callIn (l.map Int.toNat) = some c) : Uw28Neutral.step w l = ((Uw28.step w c).1, Uw28Neutral.out (Uw28.step w c).2) := by
  unfold Uw28Neutral.step Uw28Neutral.callOf
  rw [if_neg (by rw [h1]; decide), h2]
/-- the next call -/
structure Next (f : Nat) (r : List Int) (raw : List (List (List Int))) : Prop where
  ex : ∃ (c : Uw28.Call) (t : List Int) (rc : List (List Int)) (raw' : List (List (List Int))) (f' : Nat), Cut c t r ∧ raw = rc :: raw' ∧ PyFlat.calls PyUw28.shape f' t = some raw' ∧ PyInside.calls PyUw28.bound raw' = true ∧
    ∀ w, Uw28Neutral.step w ((PyUw28.whole rc).headD []) = ((Uw28.step w c).1, Uw28Neutral.out (Uw28.step w c).2)
theorem shape_cases (p : Int) : p = 0 ∨ p = 1 ∨ p = 2 ∨ p = 3 ∨ p = 4 ∨ p = 5 ∨ p = 6 ∨ PyUw28.shape p = none := by
  unfold PyUw28.shape
  by_cases h0 : p = 0; exact .inl h0
  by_cases h1 : p = 1; exact .inr (.inl h1)
  by_cases h2 : p = 2; exact .inr (.inr (.inl h2))
  by_cases h3 : p = 3; exact .inr (.inr (.inr (.inl h3)))
  by_cases h4 : p = 4; exact .inr (.inr (.inr (.inr (.inl h4))))
  by_cases h5 : p = 5; exact .inr (.inr (.inr (.inr (.inr (.inl h5)))))
  by_cases h6 : p = 6; exact .inr (.inr (.inr (.inr (.inr (.inr (.inl h6))))))
  rw [if_neg h0, if_neg h1, if_neg h2, if_neg h3, if_neg h4, if_neg h5, if_neg h6]
  exact .inr (.inr (.inr (.inr (.inr (.inr (.inr rfl))))))
/-- a call of numbers alone -/
theorem call_plain {p : Int} {r : List Int} {n : Nat} {rc : List (List Int)} {t : List Int} (hs : PyUw28.shape p = some (n, 0)) (h : PyFlat.call PyUw28.shape (p :: r) = some (rc, t)) : n ≤ r.length ∧ rc = [p :: r.take n] ∧ t = r.drop n := by
  unfold PyFlat.call at h
  dsimp only at h
  rw [hs] at h
  dsimp only at h
  split at h
  · cases h
  · rename_i hl
    unfold PyFlat.rows at h
    dsimp only at h
    have e := Option.some.inj h
    exact ⟨by omega, (congrArg Prod.fst e).symm, (congrArg Prod.snd e).symm⟩
/-- a call of a row -/
theorem call_row {p : Int} {r : List Int} {rc : List (List Int)} {t : List Int} (hs : PyUw28.shape p = some (0, 1)) (h : PyFlat.call PyUw28.shape (p :: r) = some (rc, t)) : ∃ (n : Nat) (r' : List Int), r = (n : Int) :: r' ∧ n ≤ r'.length ∧ rc = [[p], r'.take n] ∧ t = r'.drop n := by
  unfold PyFlat.call at h
  dsimp only at h
  rw [hs] at h
  dsimp only at h
  rw [if_neg (Nat.not_lt_zero _)] at h
  cases r with
  | nil => cases h
  | cons z r' =>
    rw [List.drop_zero] at h
    unfold PyFlat.rows at h
    unfold PyFlat.row at h
    dsimp only at h
    by_cases hz : 0 ≤ z ∧ z.toNat ≤ r'.length
    · rw [if_pos hz] at h
      unfold PyFlat.rows at h
      dsimp only at h
      have e := Option.some.inj h
      refine ⟨z.toNat, r', by rw [Int.toNat_of_nonneg hz.1], hz.2, (congrArg Prod.fst e).symm, (congrArg Prod.snd e).symm⟩
    · rw [if_neg hz] at h
      cases h
theorem next_of {f : Nat} {p : Int} {r : List Int} {raw : List (List (List Int))} (h : PyFlat.calls PyUw28.shape f (p :: r) = some raw) (hb : PyInside.calls PyUw28.bound raw = true) : Next f (p :: r) raw := by
  cases f with
  | zero => cases h
  | succ f =>
    unfold PyFlat.calls at h
    cases hc : PyFlat.call PyUw28.shape (p :: r) with
    | none => rw [hc] at h; cases h
    | some ct =>
      obtain ⟨rc, t⟩ := ct
      rw [hc] at h
      dsimp only at h
      cases hr : PyFlat.calls PyUw28.shape f t with
      | none => rw [hr] at h; cases h
      | some raw' =>
        rw [hr] at h
        have e := (Option.some.inj h).symm
        subst e
        have hb' : (PyInside.call PyUw28.bound rc && PyInside.calls PyUw28.bound raw') = true := hb
        rw [Bool.and_eq_true] at hb'
        obtain ⟨hb1, hb2⟩ := hb'
        have row_case : ∀ (n : Nat), (n = 2 ∨ n = 6) → p = (n : Int) → ∀ q : Nat, q ≤ 50 → PyUw28.bound p = ([], [(0, 4294967295, 0, q)]) → PyUw28.shape p = some (0, 1) → (∀ l : List Int, (PyUw28.whole [[p], l]).headD [] = p :: l) →
            (∀ l : List Nat, l.length ≤ q → ∃ c, Uw28Neutral.callIn (n :: l) = some c ∧ ∀ g, CArgs c n g l) → Next (f + 1) (p :: r) (rc :: raw') := by
          intro n hn hp q hq hbd hsh hwh hci
          obtain ⟨m, r', er, hm, erc, et⟩ := call_row hsh hc
          subst er erc et
          unfold PyInside.call at hb1
          dsimp only at hb1
          rw [hbd] at hb1
          have hb3 : (true && (decide (0 ≤ (r'.take m).length) && decide ((r'.take m).length ≤ q) && (r'.take m).all (PyInside.within 0 4294967295) && true)) = true := hb1
          rw [Bool.true_and, Bool.and_true, Bool.and_eq_true, Bool.and_eq_true, decide_eq_true_eq, decide_eq_true_eq] at hb3
          obtain ⟨⟨_, hlq⟩, hall⟩ := hb3
          obtain ⟨l, el, hnat⟩ := nats_of hall
          have hll : l.length = m := by
            have := congrArg List.length el
            unfold cI at this
            rw [List.length_map, List.length_take] at this
            omega
          have hlq' : l.length ≤ q := by
            rw [List.length_take] at hlq
            omega
          obtain ⟨c, hci1, hci2⟩ := hci l hlq'
          refine ⟨c, r'.drop m, _, raw', f, ?_, rfl, hr, hb2, fun w => ?_⟩
          · have e1 : r' = cI l ++ r'.drop m := by rw [← el, List.take_append_drop]
            have : Cut c (r'.drop m) ((n : Int) :: (l.length : Int) :: (cI l ++ r'.drop m)) := .list n l hci2 hn (by omega)
            rw [← e1, hll, ← hp] at this
            exact this
          · rw [hwh, el]
            refine step_of w ?_ ?_
            · rw [List.all_cons, ← el, hnat, Bool.and_true, hp]
              rcases hn with rfl | rfl <;> decide
            · rw [List.map_cons, cI_toNat, hp, Int.toNat_natCast]
              exact hci1
        rcases shape_cases p with rfl | rfl | rfl | rfl | rfl | rfl | rfl | hn
        · -- begins
          obtain ⟨hl, erc, et⟩ := call_plain (n := 2) rfl hc
          match r, hl with
          | x :: y :: t', _ =>
            subst erc et
            have hb3 : (PyInside.within 0 4294967295 x && (PyInside.within 0 4294967295 y && true) && true) = true := hb1
            rw [Bool.and_true, Bool.and_true, Bool.and_eq_true] at hb3
            obtain ⟨a, rfl, ha⟩ := nat_of hb3.1
            obtain ⟨b, rfl, hb4⟩ := nat_of hb3.2
            refine ⟨.begins a b, _, _, raw', f, .begins a b rfl, rfl, hr, hb2, fun w => ?_⟩
            refine step_of (l := [0, (a : Int), (b : Int)]) w ?_ ?_
            · rw [List.all_cons, List.all_cons, List.all_cons, ha, hb4]
              decide
            · rfl
        · obtain ⟨hl, erc, et⟩ := call_plain (n := 1) rfl hc
          match r, hl with
          | x :: t', _ =>
            subst erc et
            have hb3 : (PyInside.within 0 4294967295 x && true && true) = true := hb1
            rw [Bool.and_true, Bool.and_true] at hb3
            obtain ⟨a, rfl, ha⟩ := nat_of hb3
            refine ⟨.shoal a, _, _, raw', f, .plain 1 [a] (.shoal a []) (by decide) (by decide) (by decide) rfl, rfl, hr, hb2, fun w => ?_⟩
            refine step_of (l := [1, (a : Int)]) w ?_ ?_
            · rw [List.all_cons, List.all_cons, ha]
              decide
            · rfl
        · exact row_case 2 (.inl rfl) rfl 20 (by decide) rfl rfl (fun _ => rfl) fun l hl => ⟨.winds l, by show (if l.length ≤ 20 then some (Uw28.Call.winds l) else none) = _; rw [if_pos hl], fun g => .winds l g⟩
        · obtain ⟨hl, erc, et⟩ := call_plain (n := 5) rfl hc
          match r, hl with
          | x :: y :: z :: u :: k :: t', _ =>
            subst erc et
            have hb3 : (PyInside.within 0 4294967295 x && (PyInside.within 0 4294967295 y && (PyInside.within 0 4294967295 z && (PyInside.within 0 4294967295 u && (PyInside.within 0 4294967295 k && true)))) && true) = true := hb1
            rw [Bool.and_true, Bool.and_true, Bool.and_eq_true, Bool.and_eq_true, Bool.and_eq_true, Bool.and_eq_true] at hb3
            obtain ⟨i1, i2, i3, i4, i5⟩ := hb3
            obtain ⟨a1, rfl, j1⟩ := nat_of i1
            obtain ⟨a2, rfl, j2⟩ := nat_of i2
            obtain ⟨a3, rfl, j3⟩ := nat_of i3
            obtain ⟨a4, rfl, j4⟩ := nat_of i4
            obtain ⟨a5, rfl, j5⟩ := nat_of i5
            refine ⟨.boat a1 a2 a3 a4 a5, _, _, raw', f, .plain 3 [a1, a2, a3, a4, a5] (.boat a1 a2 a3 a4 a5 []) (by decide) (by decide) (by decide) rfl, rfl, hr, hb2, fun w => ?_⟩
            refine step_of (l := [3, (a1 : Int), (a2 : Int), (a3 : Int), (a4 : Int), (a5 : Int)]) w ?_ ?_
            · rw [List.all_cons, List.all_cons, List.all_cons, List.all_cons, List.all_cons, List.all_cons, j1, j2, j3, j4, j5]
              decide
            · rfl
        · obtain ⟨hl, erc, et⟩ := call_plain (n := 2) rfl hc
          match r, hl with
          | x :: y :: t', _ =>
            subst erc et
            have hb3 : (PyInside.within 0 4294967295 x && (PyInside.within 0 4294967295 y && true) && true) = true := hb1
            rw [Bool.and_true, Bool.and_true, Bool.and_eq_true] at hb3
            obtain ⟨a, rfl, ha⟩ := nat_of hb3.1
            obtain ⟨b, rfl, hb4⟩ := nat_of hb3.2
            refine ⟨.places a b, _, _, raw', f, .plain 4 [a, b] (.places a b []) (by decide) (by decide) (by decide) rfl, rfl, hr, hb2, fun w => ?_⟩
            refine step_of (l := [4, (a : Int), (b : Int)]) w ?_ ?_
            · rw [List.all_cons, List.all_cons, List.all_cons, ha, hb4]
              decide
            · rfl
        · obtain ⟨hl, erc, et⟩ := call_plain (n := 0) rfl hc
          rw [List.drop_zero] at et
          subst erc et
          refine ⟨.soonest, _, _, raw', f, .plain 5 [] (.soonest [] []) (by decide) (by decide) (by decide) rfl, rfl, hr, hb2, fun w => ?_⟩
          exact step_of (l := [5]) w (by decide) rfl
        · exact row_case 6 (.inr rfl) rfl 50 (by decide) rfl rfl (fun _ => rfl) fun l hl => ⟨.check l, by show (if l.length ≤ 50 then some (Uw28.Call.check l) else none) = _; rw [if_pos hl], fun g => .check l g⟩
        · exfalso
          unfold PyFlat.call at hc
          dsimp only at hc
          rw [hn] at hc
          cases hc
/-! ### what a call leaves -/
theorem ok_step {w : Water} (k : Ok w) (c : Uw28.Call) : Ok (Uw28.step w c).1 := by
  cases c with
  | begins a b =>
    show Ok (if a < 2 ∨ Uw28.SIDE < a ∨ b < 2 ∨ Uw28.SIDE < b then (w, Uw28.ok (-1)) else (⟨a, b, [], [], [1, 1, 1, 1], 0, 0, a * b - 1⟩, Uw28.ok 0)).1
    split
    · exact k
    · rename_i h
      exact ok_begins h
  | shoal c =>
    show Ok (if w.cells ≤ c then (w, Uw28.ok (-2)) else if c = w.boat ∨ c = w.mark then (w, Uw28.ok (-3)) else if w.shoals.contains c = true then (w, Uw28.ok (-4)) else ({ w with shoals := w.shoals ++ [c] }, Uw28.ok (w.shoals.length + 1 : Nat))).1
    split
    · exact k
    · split
      · exact k
      · split
        · exact k
        · exact ⟨k.w2, k.w5, k.h2, k.h5, k.wl, k.w7, k.tk, k.t9, k.bt, k.mc⟩
  | winds l =>
    show Ok (if Uw28.WINDS < l.length ∨ (l.all fun d => decide (d ≤ 7)) = false then (w, Uw28.ok (-1)) else ({ w with winds := l }, Uw28.ok (l.length : Nat))).1
    split
    · exact k
    · rename_i h
      refine ⟨k.w2, k.w5, k.h2, k.h5, Nat.le_of_not_lt fun z => h (.inl z), fun x hx => ?_, k.tk, k.t9, k.bt, k.mc⟩
      have h2 : (l.all fun d => decide (d ≤ 7)) = true := by
        cases e : (l.all fun d => decide (d ≤ 7)) with
        | true => rfl
        | false => exact absurd (.inr e) h
      simpa using List.all_eq_true.mp h2 x hx
  | boat a b c d t =>
    show Ok (if ([a, b, c, d].all fun n => decide (1 ≤ n) && decide (n ≤ Uw28.SLOW)) = false ∨ Uw28.SLOW < t then (w, Uw28.ok (-1)) else ({ w with takes := [a, b, c, d], turn := t }, Uw28.ok 0)).1
    split
    · exact k
    · rename_i h
      have h2 : ([a, b, c, d].all fun n => decide (1 ≤ n) && decide (n ≤ Uw28.SLOW)) = true := by
        cases e : ([a, b, c, d].all fun n => decide (1 ≤ n) && decide (n ≤ Uw28.SLOW)) with
        | true => rfl
        | false => exact absurd (.inl e) h
      have h3 : ∀ n ∈ [a, b, c, d], 1 ≤ n ∧ n ≤ 9 := fun n hn => by
        have q : (decide (1 ≤ n) && decide (n ≤ 9)) = true := List.all_eq_true.mp h2 n hn
        rw [Bool.and_eq_true, decide_eq_true_eq, decide_eq_true_eq] at q
        exact q
      have ha := h3 a (by simp)
      have hb := h3 b (by simp)
      have hc := h3 c (by simp)
      have hd := h3 d (by simp)
      exact ⟨k.w2, k.w5, k.h2, k.h5, k.wl, k.w7, ⟨a, b, c, d, rfl, ha.1, hb.1, hc.1, hd.1, ha.2, hb.2, hc.2, hd.2⟩, Nat.le_of_not_lt fun z => h (.inr z), k.bt, k.mc⟩
  | places b m =>
    show Ok (if w.cells ≤ b ∨ w.cells ≤ m then (w, Uw28.ok (-2)) else if w.shoals.contains b = true ∨ w.shoals.contains m = true then (w, Uw28.ok (-3)) else ({ w with boat := b, mark := m }, Uw28.ok 0)).1
    split
    · exact k
    · rename_i h
      split
      · exact k
      · exact ⟨k.w2, k.w5, k.h2, k.h5, k.wl, k.w7, k.tk, k.t9, by show b < w.cells; omega, by show m < w.cells; omega⟩
  | soonest => exact k
  | check l =>
    show Ok (if Uw28.MOVES < l.length ∨ (l.all fun d => decide (d ≤ 7)) = false then (w, Uw28.ok (-1)) else (w, _)).1
    split <;> exact k
theorem shoals_step (w : Water) (c : Uw28.Call) : (Uw28.step w c).1.shoals.length ≤ w.shoals.length + 1 := by
  cases c with
  | begins a b =>
    show (if a < 2 ∨ Uw28.SIDE < a ∨ b < 2 ∨ Uw28.SIDE < b then (w, Uw28.ok (-1)) else (⟨a, b, [], [], [1, 1, 1, 1], 0, 0, a * b - 1⟩, Uw28.ok 0)).1.shoals.length ≤ _
    split
    · exact Nat.le_succ _
    · exact Nat.zero_le _
  | shoal c =>
    show (if w.cells ≤ c then (w, Uw28.ok (-2)) else if c = w.boat ∨ c = w.mark then (w, Uw28.ok (-3)) else if w.shoals.contains c = true then (w, Uw28.ok (-4)) else ({ w with shoals := w.shoals ++ [c] }, Uw28.ok (w.shoals.length + 1 : Nat))).1.shoals.length ≤ _
    split
    · exact Nat.le_succ _
    · split
      · exact Nat.le_succ _
      · split
        · exact Nat.le_succ _
        · show (w.shoals ++ [c]).length ≤ _
          rw [List.length_append]
          exact Nat.le_refl _
  | winds l =>
    show (if Uw28.WINDS < l.length ∨ (l.all fun d => decide (d ≤ 7)) = false then (w, Uw28.ok (-1)) else ({ w with winds := l }, Uw28.ok (l.length : Nat))).1.shoals.length ≤ _
    split <;> exact Nat.le_succ _
  | boat a b c d t =>
    show (if ([a, b, c, d].all fun n => decide (1 ≤ n) && decide (n ≤ Uw28.SLOW)) = false ∨ Uw28.SLOW < t then (w, Uw28.ok (-1)) else ({ w with takes := [a, b, c, d], turn := t }, Uw28.ok 0)).1.shoals.length ≤ _
    split <;> exact Nat.le_succ _
  | places b m =>
    show (if w.cells ≤ b ∨ w.cells ≤ m then (w, Uw28.ok (-2)) else if w.shoals.contains b = true ∨ w.shoals.contains m = true then (w, Uw28.ok (-3)) else ({ w with boat := b, mark := m }, Uw28.ok 0)).1.shoals.length ≤ _
    split
    · exact Nat.le_succ _
    · split <;> exact Nat.le_succ _
  | soonest => exact Nat.le_succ _
  | check l =>
    show (if Uw28.MOVES < l.length ∨ (l.all fun d => decide (d ≤ 7)) = false then (w, Uw28.ok (-1)) else (w, _)).1.shoals.length ≤ _
    split <;> exact Nat.le_succ _
theorem way_len (w : Water) (tab : List (List (Option Nat))) (v : Nat) : ∀ (f t c s : Nat), (w.way tab v f t c s).length ≤ f
  | 0, _, _, _ => Nat.le_refl _
  | f + 1, t, c, s => by
    rw [Water.way]
    split
    · exact Nat.zero_le _
    · split
      · split
        · rw [List.length_cons]
          exact Nat.succ_le_succ (way_len w tab v f _ _ _)
        · exact Nat.zero_le _
      · exact Nat.zero_le _
theorem out_len (w : Water) (c : Uw28.Call) : (Uw28Neutral.out (Uw28.step w c).2).length ≤ 41 := by
  have e : ∀ a : Uw28.Ans, (Uw28Neutral.out a).length = a.l.length + 1 := fun a => by
    show (a.v :: a.l.map _).length = _
    rw [List.length_cons, List.length_map]
  rw [e]
  have o : ∀ z : Int, (Uw28.ok z).l.length + 1 ≤ 41 := fun z => by show 0 + 1 ≤ 41; omega
  cases c with
  | begins a b =>
    show (if a < 2 ∨ Uw28.SIDE < a ∨ b < 2 ∨ Uw28.SIDE < b then (w, Uw28.ok (-1)) else (⟨a, b, [], [], [1, 1, 1, 1], 0, 0, a * b - 1⟩, Uw28.ok 0)).2.l.length + 1 ≤ _
    split <;> exact o _
  | shoal c =>
    show (if w.cells ≤ c then (w, Uw28.ok (-2)) else if c = w.boat ∨ c = w.mark then (w, Uw28.ok (-3)) else if w.shoals.contains c = true then (w, Uw28.ok (-4)) else ({ w with shoals := w.shoals ++ [c] }, Uw28.ok (w.shoals.length + 1 : Nat))).2.l.length + 1 ≤ _
    split
    · exact o _
    · split
      · exact o _
      · split <;> exact o _
  | winds l =>
    show (if Uw28.WINDS < l.length ∨ (l.all fun d => decide (d ≤ 7)) = false then (w, Uw28.ok (-1)) else ({ w with winds := l }, Uw28.ok (l.length : Nat))).2.l.length + 1 ≤ _
    split <;> exact o _
  | boat a b c d t =>
    show (if ([a, b, c, d].all fun n => decide (1 ≤ n) && decide (n ≤ Uw28.SLOW)) = false ∨ Uw28.SLOW < t then (w, Uw28.ok (-1)) else ({ w with takes := [a, b, c, d], turn := t }, Uw28.ok 0)).2.l.length + 1 ≤ _
    split <;> exact o _
  | places b m =>
    show (if w.cells ≤ b ∨ w.cells ≤ m then (w, Uw28.ok (-2)) else if w.shoals.contains b = true ∨ w.shoals.contains m = true then (w, Uw28.ok (-3)) else ({ w with boat := b, mark := m }, Uw28.ok 0)).2.l.length + 1 ≤ _
    split
    · exact o _
    · split <;> exact o _
  | soonest =>
    show (match ((w.tables Uw28.LONG).getD 0 []).getD (3 * w.boat) none with
      | none => Uw28.ok (-6)
      | some v => (⟨(v : Nat), w.way (w.tables Uw28.LONG) v Uw28.LONG 0 w.boat 0⟩ : Uw28.Ans)).l.length + 1 ≤ _
    split
    · exact o _
    · exact Nat.succ_le_succ (way_len _ _ _ _ _ _ _)
  | check l =>
    show (if Uw28.MOVES < l.length ∨ (l.all fun d => decide (d ≤ 7)) = false then (w, Uw28.ok (-1)) else (w, match w.sails 0 0 w.boat 0 l with
      | .error i => ⟨-6, [i]⟩
      | .ok x => ⟨(x.1 : Nat), [x.2.1, x.2.2]⟩)).2.l.length + 1 ≤ _
    split
    · exact o _
    · dsimp only
      split
      · show 1 + 1 ≤ 41
        omega
      · show 2 + 1 ≤ 41
        omega
/-- from here on the answers are those of the calls raw -/
def toldOf (w : Water) (raw : List (List (List Int))) : List Int := PyFlat.told (PyFlat.played (fun s c => Uw28Neutral.step s (c.headD [])) w (raw.map PyUw28.whole))
theorem told_nil (w : Water) : toldOf w [] = [] := rfl
theorem told_cons {w : Water} {rc : List (List Int)} {raw : List (List (List Int))} {c : Uw28.Call} (h : ∀ w, Uw28Neutral.step w ((PyUw28.whole rc).headD []) = ((Uw28.step w c).1, Uw28Neutral.out (Uw28.step w c).2)) :
    toldOf w (rc :: raw) = ((Uw28Neutral.out (Uw28.step w c).2).length : Int) :: (Uw28Neutral.out (Uw28.step w c).2 ++ toldOf (Uw28.step w c).1 raw) := by
  show (PyFlat.told ((Uw28Neutral.step w ((PyUw28.whole rc).headD [])).2 :: PyFlat.played _ (Uw28Neutral.step w ((PyUw28.whole rc).headD [])).1 (raw.map PyUw28.whole))) = _
  rw [h w]
  rfl
theorem asked_start {l : List Int} (h : PyUw28.answers_asked l = true) : ∃ raw, PyFlat.calls PyUw28.shape l.length l = some raw ∧ PyInside.calls PyUw28.bound raw = true ∧ PyUw28.answers l = toldOf Uw28.init raw := by
  unfold PyUw28.answers_asked at h
  cases e : PyFlat.calls PyUw28.shape l.length l with
  | none => rw [e] at h; cases h
  | some raw =>
    rw [e] at h
    have h : (!raw.isEmpty && PyFlat.atMost 60 raw && PyInside.calls PyUw28.bound raw && Uw28Neutral.asked ((raw.map PyUw28.whole).map fun c => c.headD []) && PyFlat.short 10000000 (PyUw28.answers l)) = true := h
    rw [Bool.and_eq_true, Bool.and_eq_true, Bool.and_eq_true] at h
    refine ⟨raw, rfl, h.1.1.2, ?_⟩
    unfold PyUw28.answers PyUw28.calls
    rw [e]
    rfl
end Bw
/-! Rules that the layer lacks: a dict that is locked from its making on; a display with one tuple key; enumerate over a tuple. -/
namespace L2
open PySem PySem.Spec PyProof.Rows
/-- e, a thing that may be written, and that is known from here on (a dict that a comprehension walks) -/
def tFreeze (t : TE) : TE := fun σ H Q => t σ H fun v H1 => ∃ d u, v = .ref d ∧ H1 d = some u ∧ Mut (some u) ∧ ∀ od, Q v (upd H1 d (.frz od u))
theorem pe_freeze {X : Cx} {e : Expr} {t : TE} (h : PE X e t) : PE X e (tFreeze t) :=
  ⟨fun pins s σ H Q I q => thn (h.run pins s σ H _ I q) fun u s1 ⟨v, H1, I1, r, d, o, ev, hd, mu, k⟩ => by
    obtain ⟨od, I2⟩ := I1.lock hd mu
    exact ⟨v, _, I2, r, k od⟩⟩
/-- {k: v}, k a tuple of ints and texts -/
def tDispT1 (tk tv : TE) : TE := fun σ H Q => ∀ p, H p = none → tk σ (upd H p (.dT [])) fun x H1 => tv σ H1 fun y H2 => ∃ (b : Addr) (k : List Key), x = .ref b ∧ H2 b = some (.tup (k.map kV)) ∧ H2 p = some (.dT []) ∧ Q (.ref p) (upd H2 p (.dT [(k, y)]))
theorem pe_dispT1 {X : Cx} {pos : Pos} {ke ve : Expr} {tk tv : TE} (hu : X.A.units + 1 < cLine) (hk : PE X ke tk) (hv : PE X ve tv) : PE X (.Dict [some ke] [ve] pos) (tDispT1 tk tv) := by
  refine ⟨fun pins s σ H Q I q => ?_⟩
  have hn := I.hok.fresh (Nat.le_refl s.heap.objs.size)
  have I1 := I.laid (a := s.heap.objs.size) (o := .dT []) (h' := s.heap.push { cls := .type "dict", data := .dict #[] }) (t' := s.toks) (fun _ _ q => Heap.get?_push_of_some _ q) (Nat.le_refl _) (dt_empty s.heap I.big)
  rw [arm_eval_Dict, zip_pairTrees [some ke] [ve] X.env pos rfl rfl, dictDisplay_pairs (pairTrees [some ke] [ve] X.env pos) (by intro z; cases z) (by show 1 < 17; decide)]
  refine wpAny_bind (wpAny_standAt (wpAny_bind (wpAny_subDictH (knd := tupleKind (mixKind X.prog X.w)) (show X.A.units < cLine by omega) (by show 1 ≤ 15; decide) ?_)))
  refine thn (pairTrees_cons_walk (Q := fun vs s' => ∃ ps H', Inv X pins σ H' s' ∧ VV ps vs ∧ ∃ b k y, ps = [(V.ref b, y)] ∧ H' b = some (.tup (k.map kV)) ∧ H' s.heap.objs.size = some (.dT []) ∧ Q (.ref s.heap.objs.size) (upd H' s.heap.objs.size (.dT [(k, y)])))
    (thn (hk.run pins _ σ _ _ I1 (q _ hn)) fun u s1 ⟨x, H1, I2, rx, q1⟩ => thn (hv.run pins s1 σ H1 _ I2 q1) fun w2 s2 ⟨y, H2, I3, ry, b, k, ex, hb, hp, q2⟩ => pairTrees_nil_walk ⟨[(x, y)], H2, I3, .cons ⟨rx, ry⟩ .nil, b, k, y, by rw [ex], hb, hp, q2⟩)) fun vs s2 hh => ?_
  obtain ⟨ps, H2, I2, rel, b, k, y, eps, hb, hp, q2⟩ := hh
  subst eps
  cases rel with
  | @cons _ uv _ _ hr ht =>
    cases ht
    obtain ⟨u1, u2⟩ := uv
    obtain ⟨r1, r2⟩ := hr
    obtain rfl : u1 = Value.ref b := r1
    obtain ⟨z, hd, xs, r0, dd⟩ := dt_of I2.hok hp
    cases r0
    refine ⟨[(k, b, u2)], ⟨rfl, rfl, key_of I2.hok hb, trivial⟩, dd, fun h' tk dd' hs => wpAny_pure ⟨.ref s.heap.objs.size, _, ?_, rfl, q2⟩⟩
    obtain ⟨o, es, ep, ho, h2, h3, h4, _, h5⟩ := dd'
    have hne : b ≠ s.heap.objs.size := ne_of hb hp (fun z => nomatch z)
    refine d_write I2 (by rw [hp]; exact True.intro) hs ⟨o, ho⟩ ⟨by show 1 ≤ sizeLine; decide, hd, [(k, b, u2)], .cons ⟨rfl, ?_, r2⟩ .nil, o, es, ep, ho, h2, h3, h4, h5⟩
    rw [upd_ne hne]
    exact hb
/-! ### enumerate over a tuple, without a start: what it lays, what it draws -/
/-- the tuple's own iterator; the enumerate object that holds it -/
def itO (t : Addr) : Obj := { cls := .type "tuple_iterator", data := .fields #[.ref t, .int 0 0] }
def enO (i : Addr) : Obj := { cls := .type "enumerate", data := .fields #[.none, .bool false, .ref i, rawInt 0, .none, .none] }
def laidE (h : Heap) (t : Addr) : Heap := (h.push (itO t)).push (enO h.objs.size)
theorem laidE_keeps {h : Heap} {t b : Addr} {o : Obj} (q : h.get? b = some o) : (laidE h t).get? b = some o := by
  unfold laidE
  exact Heap.get?_push_of_some _ (Heap.get?_push_of_some _ q)
theorem laidE_iter (h : Heap) (t : Addr) : (laidE h t).IsTupleIter h.objs.size t 0 := by
  unfold laidE
  exact ⟨itO t, Heap.get?_push_of_some _ (Heap.get?_push_size h rfl), rfl, rfl⟩
theorem laidE_enum (h : Heap) (t : Addr) : IsEnum (laidE h t) (h.objs.size + 1) h.objs.size 0 .none := by
  have z : (h.push (itO t)).objs.size = h.objs.size + 1 := Heap.size_push ..
  unfold IsEnum laidE
  rw [← z]
  exact Heap.get?_push_size (h.push (itO t)) rfl
set_option maxHeartbeats 1000000 in
theorem enum1_meets (t : Addr) (xs : Array Value) : Meets (Builtin.«enumerate.__new__» ⟨[.type "enumerate", .ref t], []⟩)
    (fun _ R s => s.heap.IsTuple t xs ∧ R (.ok (.ret (.ref (s.heap.objs.size + 1)))) { s with heap := laidE s.heap t }) := by
  refine .of_wp fun prog w A R s0 hyp => ?_
  obtain ⟨h0, gens, drawn, tok, osys⟩ := s0
  obtain ⟨isT, wish⟩ := hyp
  have sub := sub_enumerate
  have size1 : (h0.push (itO t)).objs.size = h0.objs.size + 1 := Heap.size_push ..
  rw [← size1] at wish
  have iter1 : ∀ {A' : Around} {E : Value → Shared → Prop} {Q : Value → Shared → Prop}, Q (.ref h0.objs.size) ⟨h0.push (itO t), gens, drawn, tok, osys⟩ → wpAny (model prog w) A' (pyIter (.ref t)) Q E ⟨h0, gens, drawn, tok, osys⟩ := fun q => wpAny_pyIter_tuple isT q
  wp_walk using iter1
  refine wpAny_stack_any (fun _ => wpAny_pure ?_)
  split
  case h_1 cc _ _ _ _ _ =>
    cases (cc == Value.type "enumerate") <;> (wp_walk using iter1; exact ⟨_, rfl, wish⟩)
  case h_2 =>
    wp_walk using iter1
    exact ⟨_, rfl, wish⟩
theorem enum1_call {prog : Program} {w : World} {A : Around} {E : Value → Shared → Prop} {s0 : Shared} {t : Addr} {xs : Array Value} {Q : Value → Shared → Prop} (isT : s0.heap.IsTuple t xs) (wish : Q (.ref (s0.heap.objs.size + 1)) { s0 with heap := laidE s0.heap t }) :
    wpAny (model prog w) A (call (.type "enumerate") [.ref t]) Q E s0 :=
  callType_new F.called_enumerate (by decide) (F.typeCall_enumerate_1 _) (F.newCall_enumerate_1 _) (fun y => F.args_object_init_2 y _) F.entry_enumerate_new (enum1_meets t xs) ⟨isT, ⟨⟨_, laidE_enum s0.heap t, rfl⟩, wish⟩⟩
/-- its state at turn n: the enumerate object at e counts n, the iterator at i stands at n in the tuple at t -/
structure EnT (t e i : Addr) (n : Nat) (h : Heap) : Prop where
  en : ∃ old, IsEnum h e i ((n : Nat) : Int) old
  it : h.IsTupleIter i t n
/-- the tuple at t, each item in a new pair behind its place -/
def IteT (K : PySem.W.Frag) (t : Addr) : It where
  go n H := ∃ (xs : List V) (x : V), SqT K H t xs ∧ xs[n]? = some x
  yld n H v H' := ∃ pr x, v = .ref pr ∧ H pr = none ∧ H' = upd H pr (.tup [.int (n : Nat), x]) ∧ ∀ xs, SqT K H t xs → xs[n]? = some x
  stop n H := ∃ xs : List V, SqT K H t xs ∧ xs.length = n
section
variable {X : Cx} {pins : List (Addr × Obj)} {σ : L2.St} {H : Hp} {s0 : Shared} {E : Value → Shared → Prop} {t e i : Addr} {n : Nat}
/-- one pair is drawn -/
theorem enT_item {tg : List Expr} {kk : Nat} {tp : Pos} (calm : X.calm = true) (I : Inv X pins σ H s0) (own : ∀ b ∈ [e, i], FpOk X pins H b) (S : EnT t e i n s0.heap) (ei : e ≠ i) (te : t ≠ e) (ti : t ≠ i) (G : (IteT X.K t).go n H) :
    wpAny (model X.prog X.w) X.A (pyNext (.ref e)) (fun r s1 => ∃ u, r = some u ∧ wpAny (model X.prog X.w) X.A (letOwnedTupleGo (.Tuple tg kk tp) (.ref e) u)
      (fun _ s2 => ∃ x H', Inv X pins σ H' s2 ∧ RelV x u ∧ (IteT X.K t).yld n H x H' ∧ EnT t e i (n + 1) s2.heap ∧ ∀ b ∈ [e, i], H' b = none) E s1) E s0 := by
  obtain ⟨xs, x, sq, at_n⟩ := G
  obtain ⟨⟨old, enum⟩, iter⟩ := S
  obtain ⟨us, vals, isT, _⟩ := I.tuple sq
  obtain ⟨u0, at_u, rel⟩ := vals.get at_n
  have lt_n : n < us.toArray.size := by
    obtain ⟨q, _⟩ := List.getElem?_eq_some_iff.mp at_u
    simpa using q
  have lt_e := Heap.lt_size enum
  have lt_i : i < s0.heap.objs.size := by
    obtain ⟨o, q, _⟩ := iter
    exact Heap.lt_size q
  have draws := Draws.tuple (prog := X.prog) (w := X.w) (A := X.A.in1) (I.ok.hd calm) i t ti us.toArray
  refine wpAny_pyNext_enum_itemD draws enum ⟨iter, isT⟩ lt_n ei (by simp [ei, Ne.symm te]) (fun u h1 tk drawn out st pair size rest => ⟨_, rfl, ?_⟩)
  have same_u : u = u0 := by
    have q : us[n]? = some u := by simpa using drawn
    exact Option.some.inj (q.symm.trans at_u)
  subst same_u
  refine wpAny_letOwnedTupleGo_enum (s := { s0 with heap := h1, toks := tk + 1 }) out (fun h2 enum2 but => ?_)
  have pair2 : h2.get? s0.heap.objs.size = some { cls := .type "tuple", data := .seq #[.int n tk, u] } := (but.2 _ (Nat.ne_of_gt lt_e)).trans pair
  have fresh := I.hok.fresh (Nat.le_refl s0.heap.objs.size)
  have stays : ∀ b ob, b ∉ [e, i] → s0.heap.get? b = some ob → h2.get? b = some ob := fun b ob out q => by
    have be : b ≠ e := fun z => out (by simp [z])
    have bi : b ≠ i := fun z => out (by simp [z])
    exact (but.2 b be).trans (rest b ob be bi q)
  have laid : ObjOk X.prog X.w (upd H s0.heap.objs.size (.tup [.int ((n : Nat) : Int), x])) h2 s0.heap.objs.size (.tup [.int ((n : Nat) : Int), x]) := by
    refine ⟨by show 2 ≤ sizeLine; decide, [.int n tk, u], .cons ⟨_, rfl⟩ (.cons rel .nil), ?_⟩
    exact ⟨_, pair2, rfl, _, rfl⟩
  refine ⟨.ref s0.heap.objs.size, upd H s0.heap.objs.size (.tup [.int ((n : Nat) : Int), x]), I.turnedNew (ch := [e, i]) (t' := tk + 1) stays own (Nat.le_refl _) laid, rfl, ?_, ?_, ?_⟩
  · refine ⟨_, x, rfl, fresh, rfl, fun ys sq' => ?_⟩
    rw [I.tuple_inj sq' sq]
    exact at_n
  · refine ⟨⟨u, ?_⟩, st.1.at (fun o q => (but.2 i (Ne.symm ei)).trans q)⟩
    rw [Int.natCast_add]
    exact enum2
  · intro b mem
    have lt_b : b < s0.heap.objs.size := by
      rcases List.mem_cons.mp mem with z | z
      · exact z ▸ lt_e
      · exact List.mem_singleton.mp z ▸ lt_i
    exact (upd_ne (Nat.ne_of_lt lt_b)).trans (own b mem).1
/-- none is left -/
theorem enT_done (calm : X.calm = true) (I : Inv X pins σ H s0) (own : ∀ b ∈ [e, i], FpOk X pins H b) (S : EnT t e i n s0.heap) (ti : t ≠ i) (G : (IteT X.K t).stop n H) :
    wpAny (model X.prog X.w) X.A (pyNext (.ref e)) (fun r s1 => r = none ∧ Inv X pins σ H s1) E s0 := by
  obtain ⟨xs, sq, rfl⟩ := G
  obtain ⟨⟨old, enum⟩, iter⟩ := S
  obtain ⟨us, vals, isT, _⟩ := I.tuple sq
  have len : xs.length = us.toArray.size := vals.length.trans (by simp)
  rw [len] at iter
  obtain ⟨o0, o1, _, o3, o4, o5⟩ := own i (by simp)
  have draws := Draws.tuple (prog := X.prog) (w := X.w) (A := X.A.in1) (I.ok.hd calm) i t ti us.toArray
  exact wpAny_pyNext_enum_endD draws enum ⟨iter, isT⟩ (fun h1 but => ⟨rfl, I.turned (t' := s0.toks) (fun b ob ne q => but b ob ne q) o0 o1 o3 o4 o5⟩)
end
theorem turn_enumT {P : Program} {w : World} {K : PySem.W.Frag} {tg : List Expr} {kk : Nat} {tp : Pos} (t e i : Addr) (ei : e ≠ i) (te : t ≠ e) (ti : t ≠ i) : Turn P w K (.Tuple tg kk tp) (IteT K t) [e, i] e (EnT t e i) where
  mem := List.mem_cons_self
  obj := by
    rintro n h ⟨⟨old, enum⟩, ⟨o, q, _, dat⟩⟩ b mem
    rcases List.mem_cons.mp mem with z | z
    · subst z
      exact ⟨_, enum, fun _ bad => nomatch bad⟩
    · obtain rfl := List.mem_singleton.mp z
      refine ⟨o, q, fun _ bad => ?_⟩
      rw [dat] at bad
      cases bad
  keep := by
    rintro n h h' ⟨⟨old, enum⟩, iter⟩ stay
    exact ⟨⟨old, stay e List.mem_cons_self _ enum⟩, iter.at (stay i (List.mem_cons_of_mem _ List.mem_cons_self))⟩
  item := by
    rintro X rfl rfl rfl calm n pins s0 σ H E I own S G
    exact enT_item calm I own S ei te ti G
  done := by
    rintro X rfl rfl rfl calm n pins s0 σ H E I own S G
    exact enT_done calm I own S ti G
  self := by
    rintro A n s0 Q E ⟨⟨_, enum⟩, _⟩ wish
    exact wpAny_pyIter_enum enum wish
/-- for .., .. in enumerate(t) -/
def iEnumT (K : PySem.W.Frag) (ta : TA) : TI := fun σ H R => ta σ H fun vs H1 => ∃ t xs, vs = [.ref t] ∧ SqT K H1 t xs ∧ R (IteT K t) H1
theorem pi_enumT {X : Cx} {arg : Expr} {ta : TA} {p pos tp : Pos} {tg : List Expr} {kk : Nat} (hg : Gl X "enumerate") (hm : X.mg "enumerate" = none) (ha : PA X [arg] ta) (one : starEach [arg] X.env = [(false, eval arg X.env)] := by rfl) :
    PI X (.Tuple tg kk tp) (.Call (.Name "enumerate" p) [arg] [] pos) (iEnumT X.K ta) where
  run := by
    intro pins s0 σ H R I wish
    refine Call_ (ld_blt I hg hm boot_enumerate (callWith_type1 (thn (ha.run pos pins s0 σ H _ I wish) ?_) one rfl))
    rintro _ s1 ⟨_, H1, I1, vals, t, xs, rfl, sq, go⟩
    obtain ⟨u, rfl, rel⟩ := Vals.one vals
    obtain rfl : u = Value.ref t := rel
    obtain ⟨us, _, isT, _⟩ := I1.tuple sq
    have lt_t := isT.lt
    refine enum1_call isT (wpAny_pyIter_enum (laidE_enum s1.heap t) ?_)
    have own : ∀ b ∈ [s1.heap.objs.size + 1, s1.heap.objs.size], FpOk X pins H1 b := fun b mem => by
      have ge : s1.heap.objs.size ≤ b := by
        rcases List.mem_cons.mp mem with z | z
        · exact z ▸ Nat.le_succ _
        · exact List.mem_singleton.mp z ▸ Nat.le_refl _
      exact I1.fpOk ge (I1.hok.fresh ge)
    exact ⟨_, _, EnT t (s1.heap.objs.size + 1) s1.heap.objs.size, IteT X.K t, H1, rfl, I1.kept (t' := s1.toks) (fun _ _ q => laidE_keeps q), turn_enumT t _ _ (Nat.succ_ne_self _) (Nat.ne_of_lt (Nat.lt_succ_of_lt lt_t)) (Nat.ne_of_lt lt_t), ⟨⟨.none, laidE_enum s1.heap t⟩, laidE_iter s1.heap t⟩, own, go⟩
end L2
namespace Bw
open PySem PySem.Spec PyProof.Rows L2
open Uw28 (Water)
/-! ### the text by places -/
def top (i : Nat) : Stmt := PySem.Challenge.pw_beatingway_s01_answers.main.body.getD i (.Pass ⟨0, 0, 0, 0⟩)
abbrev sInit : Stmt := inClass (top 5) 0
abbrev sCells : Stmt := inClass (top 5) 1
abbrev sAddShoal : Stmt := inClass (top 5) 2
abbrev sSetWinds : Stmt := inClass (top 5) 3
abbrev sSetBoat : Stmt := inClass (top 5) 4
abbrev sSetPlaces : Stmt := inClass (top 5) 5
abbrev sWind : Stmt := inClass (top 5) 6
abbrev sNextCell : Stmt := inClass (top 5) 7
abbrev sOffWind : Stmt := inClass (top 5) 8
abbrev sTaken : Stmt := inClass (top 5) 9
abbrev sStep : Stmt := inClass (top 5) 10
abbrev sStart : Stmt := inClass (top 5) 11
abbrev sSideOf : Stmt := top 6
abbrev sReached : Stmt := top 10
abbrev sSoonMin : Stmt := top 11
abbrev sGood : Stmt := top 12
abbrev sFirst : Stmt := top 13
abbrev sWay : Stmt := top 14
abbrev sIsSize : Stmt := top 29
abbrev sBegins : Stmt := top 30
abbrev sShoal : Stmt := top 31
abbrev sHeads : Stmt := top 32
abbrev sWinds : Stmt := top 33
abbrev sBoat : Stmt := top 34
abbrev sPlaces : Stmt := top 35
abbrev sSoonest : Stmt := top 36
abbrev sCheck : Stmt := top 37
abbrev sAnswer : Stmt := top 38
abbrev sAnswers : Stmt := top 39

/-! ### the heap -/
def nv (l : List Nat) : List V := l.map fun (n : Nat) => V.int (n : Int)
def iv (l : List Int) : List V := l.map V.int
theorem nv_length (l : List Nat) : (nv l).length = l.length := List.length_map ..
theorem iv_length (l : List Int) : (iv l).length = l.length := List.length_map ..
theorem nv_get {l : List Nat} {i : Nat} {n : Nat} (h : l[i]? = some n) : (nv l)[i]? = some (V.int (n : Int)) := by
  unfold nv
  rw [List.getElem?_map, h]
  rfl
theorem nv_flat (l : List Nat) : (nv l).all flatV = true := by
  unfold nv
  rw [List.all_map]
  exact List.all_eq_true.mpr fun _ _ => rfl
def wF (w : Water) (ls lw lm : Addr) : List (Str × V) := [("wide", .int (w.wide : Nat)), ("high", .int (w.high : Nat)), ("shoals", .ref ls), ("winds", .ref lw), ("minutes", .ref lm), ("turn", .int (w.turn : Nat)), ("boat", .int (w.boat : Nat)), ("mark", .int (w.mark : Nat))]
theorem lk_here {k : Str} {v : V} {r : List (Str × V)} : List.lookup k ((k, v) :: r) = some v := by
  have e : (k == k) = true := beq_self_eq_true k
  simp only [List.lookup, e]
theorem lk_past {k g : Str} {v : V} {r : List (Str × V)} (h : (k == g) = false) : List.lookup k ((g, v) :: r) = List.lookup k r := by
  simp only [List.lookup, h]
theorem put_here {f : Str} {v x : V} {r : List (Str × V)} : putF f v ((f, x) :: r) = (f, v) :: r := if_pos rfl
theorem put_past {f g : Str} {v x : V} {r : List (Str × V)} (h : ¬ g = f) : putF f v ((g, x) :: r) = (g, x) :: putF f v r := if_neg h
theorem put_nil {f : Str} {v : V} : putF f v [] = [(f, v)] := rfl
theorem wF_wide (w : Water) (ls lw lm : Addr) : (wF w ls lw lm).lookup ("wide" : Str) = some (.int (w.wide : Nat)) := lk_here
theorem wF_high (w : Water) (ls lw lm : Addr) : (wF w ls lw lm).lookup ("high" : Str) = some (.int (w.high : Nat)) := (lk_past (by decide +kernel)).trans (lk_here)
theorem wF_shoals (w : Water) (ls lw lm : Addr) : (wF w ls lw lm).lookup ("shoals" : Str) = some (.ref ls) := (lk_past (by decide +kernel)).trans ((lk_past (by decide +kernel)).trans (lk_here))
theorem wF_winds (w : Water) (ls lw lm : Addr) : (wF w ls lw lm).lookup ("winds" : Str) = some (.ref lw) := (lk_past (by decide +kernel)).trans ((lk_past (by decide +kernel)).trans ((lk_past (by decide +kernel)).trans (lk_here)))
theorem wF_minutes (w : Water) (ls lw lm : Addr) : (wF w ls lw lm).lookup ("minutes" : Str) = some (.ref lm) := (lk_past (by decide +kernel)).trans ((lk_past (by decide +kernel)).trans ((lk_past (by decide +kernel)).trans ((lk_past (by decide +kernel)).trans (lk_here))))
theorem wF_turn (w : Water) (ls lw lm : Addr) : (wF w ls lw lm).lookup ("turn" : Str) = some (.int (w.turn : Nat)) := (lk_past (by decide +kernel)).trans ((lk_past (by decide +kernel)).trans ((lk_past (by decide +kernel)).trans ((lk_past (by decide +kernel)).trans ((lk_past (by decide +kernel)).trans (lk_here)))))
theorem wF_boat (w : Water) (ls lw lm : Addr) : (wF w ls lw lm).lookup ("boat" : Str) = some (.int (w.boat : Nat)) := (lk_past (by decide +kernel)).trans ((lk_past (by decide +kernel)).trans ((lk_past (by decide +kernel)).trans ((lk_past (by decide +kernel)).trans ((lk_past (by decide +kernel)).trans ((lk_past (by decide +kernel)).trans (lk_here))))))
theorem wF_mark (w : Water) (ls lw lm : Addr) : (wF w ls lw lm).lookup ("mark" : Str) = some (.int (w.mark : Nat)) := (lk_past (by decide +kernel)).trans ((lk_past (by decide +kernel)).trans ((lk_past (by decide +kernel)).trans ((lk_past (by decide +kernel)).trans ((lk_past (by decide +kernel)).trans ((lk_past (by decide +kernel)).trans ((lk_past (by decide +kernel)).trans (lk_here)))))))
theorem wF_no_cells (w : Water) (ls lw lm : Addr) : (wF w ls lw lm).lookup ("cells" : Str) = none := (lk_past (by decide +kernel)).trans ((lk_past (by decide +kernel)).trans ((lk_past (by decide +kernel)).trans ((lk_past (by decide +kernel)).trans ((lk_past (by decide +kernel)).trans ((lk_past (by decide +kernel)).trans ((lk_past (by decide +kernel)).trans ((lk_past (by decide +kernel)).trans (rfl))))))))
theorem wF_no_add_shoal (w : Water) (ls lw lm : Addr) : (wF w ls lw lm).lookup ("add_shoal" : Str) = none := (lk_past (by decide +kernel)).trans ((lk_past (by decide +kernel)).trans ((lk_past (by decide +kernel)).trans ((lk_past (by decide +kernel)).trans ((lk_past (by decide +kernel)).trans ((lk_past (by decide +kernel)).trans ((lk_past (by decide +kernel)).trans ((lk_past (by decide +kernel)).trans (rfl))))))))
theorem wF_no_set_winds (w : Water) (ls lw lm : Addr) : (wF w ls lw lm).lookup ("set_winds" : Str) = none := (lk_past (by decide +kernel)).trans ((lk_past (by decide +kernel)).trans ((lk_past (by decide +kernel)).trans ((lk_past (by decide +kernel)).trans ((lk_past (by decide +kernel)).trans ((lk_past (by decide +kernel)).trans ((lk_past (by decide +kernel)).trans ((lk_past (by decide +kernel)).trans (rfl))))))))
theorem wF_no_set_boat (w : Water) (ls lw lm : Addr) : (wF w ls lw lm).lookup ("set_boat" : Str) = none := (lk_past (by decide +kernel)).trans ((lk_past (by decide +kernel)).trans ((lk_past (by decide +kernel)).trans ((lk_past (by decide +kernel)).trans ((lk_past (by decide +kernel)).trans ((lk_past (by decide +kernel)).trans ((lk_past (by decide +kernel)).trans ((lk_past (by decide +kernel)).trans (rfl))))))))
theorem wF_no_set_places (w : Water) (ls lw lm : Addr) : (wF w ls lw lm).lookup ("set_places" : Str) = none := (lk_past (by decide +kernel)).trans ((lk_past (by decide +kernel)).trans ((lk_past (by decide +kernel)).trans ((lk_past (by decide +kernel)).trans ((lk_past (by decide +kernel)).trans ((lk_past (by decide +kernel)).trans ((lk_past (by decide +kernel)).trans ((lk_past (by decide +kernel)).trans (rfl))))))))
theorem wF_no_wind (w : Water) (ls lw lm : Addr) : (wF w ls lw lm).lookup ("wind" : Str) = none := (lk_past (by decide +kernel)).trans ((lk_past (by decide +kernel)).trans ((lk_past (by decide +kernel)).trans ((lk_past (by decide +kernel)).trans ((lk_past (by decide +kernel)).trans ((lk_past (by decide +kernel)).trans ((lk_past (by decide +kernel)).trans ((lk_past (by decide +kernel)).trans (rfl))))))))
theorem wF_no_next_cell (w : Water) (ls lw lm : Addr) : (wF w ls lw lm).lookup ("next_cell" : Str) = none := (lk_past (by decide +kernel)).trans ((lk_past (by decide +kernel)).trans ((lk_past (by decide +kernel)).trans ((lk_past (by decide +kernel)).trans ((lk_past (by decide +kernel)).trans ((lk_past (by decide +kernel)).trans ((lk_past (by decide +kernel)).trans ((lk_past (by decide +kernel)).trans (rfl))))))))
theorem wF_no_off_wind (w : Water) (ls lw lm : Addr) : (wF w ls lw lm).lookup ("off_wind" : Str) = none := (lk_past (by decide +kernel)).trans ((lk_past (by decide +kernel)).trans ((lk_past (by decide +kernel)).trans ((lk_past (by decide +kernel)).trans ((lk_past (by decide +kernel)).trans ((lk_past (by decide +kernel)).trans ((lk_past (by decide +kernel)).trans ((lk_past (by decide +kernel)).trans (rfl))))))))
theorem wF_no_taken (w : Water) (ls lw lm : Addr) : (wF w ls lw lm).lookup ("taken" : Str) = none := (lk_past (by decide +kernel)).trans ((lk_past (by decide +kernel)).trans ((lk_past (by decide +kernel)).trans ((lk_past (by decide +kernel)).trans ((lk_past (by decide +kernel)).trans ((lk_past (by decide +kernel)).trans ((lk_past (by decide +kernel)).trans ((lk_past (by decide +kernel)).trans (rfl))))))))
theorem wF_no_step (w : Water) (ls lw lm : Addr) : (wF w ls lw lm).lookup ("step" : Str) = none := (lk_past (by decide +kernel)).trans ((lk_past (by decide +kernel)).trans ((lk_past (by decide +kernel)).trans ((lk_past (by decide +kernel)).trans ((lk_past (by decide +kernel)).trans ((lk_past (by decide +kernel)).trans ((lk_past (by decide +kernel)).trans ((lk_past (by decide +kernel)).trans (rfl))))))))
theorem wF_no_start (w : Water) (ls lw lm : Addr) : (wF w ls lw lm).lookup ("start" : Str) = none := (lk_past (by decide +kernel)).trans ((lk_past (by decide +kernel)).trans ((lk_past (by decide +kernel)).trans ((lk_past (by decide +kernel)).trans ((lk_past (by decide +kernel)).trans ((lk_past (by decide +kernel)).trans ((lk_past (by decide +kernel)).trans ((lk_past (by decide +kernel)).trans (rfl))))))))
theorem wF_put_winds (w : Water) (ls lw lm l : Addr) (r : List Nat) : putF "winds" (.ref l) (wF w ls lw lm) = wF { w with winds := r } ls l lm := (put_past (by decide +kernel)).trans (congrArg _ ((put_past (by decide +kernel)).trans (congrArg _ ((put_past (by decide +kernel)).trans (congrArg _ (put_here))))))
theorem wF_put_minutes (w : Water) (ls lw lm l : Addr) (r : List Nat) : putF "minutes" (.ref l) (wF w ls lw lm) = wF { w with takes := r } ls lw l := (put_past (by decide +kernel)).trans (congrArg _ ((put_past (by decide +kernel)).trans (congrArg _ ((put_past (by decide +kernel)).trans (congrArg _ ((put_past (by decide +kernel)).trans (congrArg _ (put_here))))))))
theorem wF_put_turn (w : Water) (ls lw lm : Addr) (k : Nat) : putF "turn" (.int (k : Nat)) (wF w ls lw lm) = wF { w with turn := k } ls lw lm := (put_past (by decide +kernel)).trans (congrArg _ ((put_past (by decide +kernel)).trans (congrArg _ ((put_past (by decide +kernel)).trans (congrArg _ ((put_past (by decide +kernel)).trans (congrArg _ ((put_past (by decide +kernel)).trans (congrArg _ (put_here))))))))))
theorem wF_put_boat (w : Water) (ls lw lm : Addr) (k : Nat) : putF "boat" (.int (k : Nat)) (wF w ls lw lm) = wF { w with boat := k } ls lw lm := (put_past (by decide +kernel)).trans (congrArg _ ((put_past (by decide +kernel)).trans (congrArg _ ((put_past (by decide +kernel)).trans (congrArg _ ((put_past (by decide +kernel)).trans (congrArg _ ((put_past (by decide +kernel)).trans (congrArg _ ((put_past (by decide +kernel)).trans (congrArg _ (put_here))))))))))))
theorem wF_put_mark (w : Water) (ls lw lm : Addr) (k : Nat) : putF "mark" (.int (k : Nat)) (wF w ls lw lm) = wF { w with mark := k } ls lw lm := (put_past (by decide +kernel)).trans (congrArg _ ((put_past (by decide +kernel)).trans (congrArg _ ((put_past (by decide +kernel)).trans (congrArg _ ((put_past (by decide +kernel)).trans (congrArg _ ((put_past (by decide +kernel)).trans (congrArg _ ((put_past (by decide +kernel)).trans (congrArg _ ((put_past (by decide +kernel)).trans (congrArg _ (put_here))))))))))))))
section
variable (a b c d e f g h : V)
theorem mk_wide : putF "wide" a ([] : List (Str × V)) = ([("wide", a)] : List (Str × V)) := put_nil
theorem mk_high : putF "high" b ([("wide", a)] : List (Str × V)) = ([("wide", a), ("high", b)] : List (Str × V)) := (put_past (by decide +kernel)).trans (congrArg _ (put_nil))
theorem mk_shoals : putF "shoals" c ([("wide", a), ("high", b)] : List (Str × V)) = ([("wide", a), ("high", b), ("shoals", c)] : List (Str × V)) := (put_past (by decide +kernel)).trans (congrArg _ ((put_past (by decide +kernel)).trans (congrArg _ (put_nil))))
theorem mk_winds : putF "winds" d ([("wide", a), ("high", b), ("shoals", c)] : List (Str × V)) = ([("wide", a), ("high", b), ("shoals", c), ("winds", d)] : List (Str × V)) := (put_past (by decide +kernel)).trans (congrArg _ ((put_past (by decide +kernel)).trans (congrArg _ ((put_past (by decide +kernel)).trans (congrArg _ (put_nil))))))
theorem mk_minutes : putF "minutes" e ([("wide", a), ("high", b), ("shoals", c), ("winds", d)] : List (Str × V)) = ([("wide", a), ("high", b), ("shoals", c), ("winds", d), ("minutes", e)] : List (Str × V)) := (put_past (by decide +kernel)).trans (congrArg _ ((put_past (by decide +kernel)).trans (congrArg _ ((put_past (by decide +kernel)).trans (congrArg _ ((put_past (by decide +kernel)).trans (congrArg _ (put_nil))))))))
theorem mk_turn : putF "turn" f ([("wide", a), ("high", b), ("shoals", c), ("winds", d), ("minutes", e)] : List (Str × V)) = ([("wide", a), ("high", b), ("shoals", c), ("winds", d), ("minutes", e), ("turn", f)] : List (Str × V)) := (put_past (by decide +kernel)).trans (congrArg _ ((put_past (by decide +kernel)).trans (congrArg _ ((put_past (by decide +kernel)).trans (congrArg _ ((put_past (by decide +kernel)).trans (congrArg _ ((put_past (by decide +kernel)).trans (congrArg _ (put_nil))))))))))
theorem mk_boat : putF "boat" g ([("wide", a), ("high", b), ("shoals", c), ("winds", d), ("minutes", e), ("turn", f)] : List (Str × V)) = ([("wide", a), ("high", b), ("shoals", c), ("winds", d), ("minutes", e), ("turn", f), ("boat", g)] : List (Str × V)) := (put_past (by decide +kernel)).trans (congrArg _ ((put_past (by decide +kernel)).trans (congrArg _ ((put_past (by decide +kernel)).trans (congrArg _ ((put_past (by decide +kernel)).trans (congrArg _ ((put_past (by decide +kernel)).trans (congrArg _ ((put_past (by decide +kernel)).trans (congrArg _ (put_nil))))))))))))
theorem mk_mark : putF "mark" h ([("wide", a), ("high", b), ("shoals", c), ("winds", d), ("minutes", e), ("turn", f), ("boat", g)] : List (Str × V)) = ([("wide", a), ("high", b), ("shoals", c), ("winds", d), ("minutes", e), ("turn", f), ("boat", g), ("mark", h)] : List (Str × V)) := (put_past (by decide +kernel)).trans (congrArg _ ((put_past (by decide +kernel)).trans (congrArg _ ((put_past (by decide +kernel)).trans (congrArg _ ((put_past (by decide +kernel)).trans (congrArg _ ((put_past (by decide +kernel)).trans (congrArg _ ((put_past (by decide +kernel)).trans (congrArg _ ((put_past (by decide +kernel)).trans (congrArg _ (put_nil))))))))))))))
end

/-- the water w at a: its list of shoals at ls -/
def WatAt (C : Addr) (H : Hp) (a ls : Addr) (w : Water) : Prop := ∃ dx lw lm, H a = some (.ins C dx (wF w ls lw lm)) ∧ H ls = some (.lst (nv w.shoals)) ∧ H lw = some (.lst (nv w.winds)) ∧ H lm = some (.lst (nv w.takes)) ∧ ls ≠ lw ∧ ls ≠ lm
theorem WatAt.same {C : Addr} {H H' : Hp} {a ls : Addr} {w : Water} (x : WatAt C H a ls w) (s : Same H H') : WatAt C H' a ls w := by
  obtain ⟨dx, lw, lm, h1, h2, h3, h4, h5⟩ := x
  exact ⟨dx, lw, lm, s _ _ h1, s _ _ h2, s _ _ h3, s _ _ h4, h5⟩
theorem WatAt.but {C : Addr} {H H' : Hp} {a ls d : Addr} {w : Water} {o : HO} (x : WatAt C H a ls w) (hd : H d = some o) (ho : (∀ xs, o ≠ .lst xs) ∧ ∀ C dx fs, o ≠ .ins C dx fs) (s : ∀ b o, H b = some o → b ≠ d → H' b = some o) : WatAt C H' a ls w := by
  obtain ⟨dx, lw, lm, h1, h2, h3, h4, h5⟩ := x
  exact ⟨dx, lw, lm, s _ _ h1 (ne_of h1 hd (fun z => ho.2 _ _ _ z.symm)), s _ _ h2 (ne_of h2 hd (fun z => ho.1 _ z.symm)), s _ _ h3 (ne_of h3 hd (fun z => ho.1 _ z.symm)), s _ _ h4 (ne_of h4 hd (fun z => ho.1 _ z.symm)), h5⟩
/-- nf is none of the water's two lists that may be bound anew -/
def Away (C : Addr) (H : Hp) (a nf : Addr) : Prop := ∀ dx w ls lw lm, H a = some (.ins C dx (wF w ls lw lm)) → nf ≠ lw ∧ nf ≠ lm
theorem wF_inj {w w' : Water} {ls lw lm ls' lw' lm' : Addr} (h : wF w ls lw lm = wF w' ls' lw' lm') : lw = lw' ∧ lm = lm' := by
  have h1 := wF_winds w ls lw lm
  rw [h, wF_winds] at h1
  have h2 := wF_minutes w ls lw lm
  rw [h, wF_minutes] at h2
  exact ⟨(V.ref.inj (Option.some.inj h1)).symm, (V.ref.inj (Option.some.inj h2)).symm⟩
theorem away_of {C dx : Addr} {H : Hp} {a nf ls lw lm : Addr} {w : Water} (h : H a = some (.ins C dx (wF w ls lw lm))) (h1 : nf ≠ lw) (h2 : nf ≠ lm) : Away C H a nf := fun dx' w' ls' lw' lm' e => by
  rw [h] at e
  injection e with e
  injection e with _ _ e
  obtain ⟨e1, e2⟩ := wF_inj e
  exact ⟨by rw [← e1]; exact h1, by rw [← e2]; exact h2⟩
theorem Away.keep {C : Addr} {H H' : Hp} {a nf : Addr} (x : Away C H a nf) (h : H' a = H a) : Away C H' a nf := fun dx w ls lw lm e => x dx w ls lw lm (h ▸ e)
theorem same_new {H : Hp} {p : Addr} (o : HO) (h : H p = none) : Same H (upd H p o) := fun b u e => by
  rw [upd_ne (ne_of_none e h)]
  exact e
theorem same_sqT {K : PySem.W.Frag} {H H' : Hp} {a : Addr} {xs : List V} (e : Same H H') (h : SqT K H a xs) : SqT K H' a xs := by
  rcases h with (h | ⟨o, h⟩) | h
  · exact .inl (.inl (e _ _ h))
  · exact .inl (.inr ⟨o, e _ _ h⟩)
  · exact .inr h
/-- the written part alone has the tuple -/
def KT_ (K : PySem.W.Frag) (a : Addr) (xs : List V) : Prop := ∀ H : Hp, SqT K H a xs
/-- a key of the dicts -/
def key (t c s : Nat) : List Key := [.inl (t : Int), .inl (c : Int), .inl (s : Int)]
def st3 (t c s : Nat) : List V := [.int (t : Int), .int (c : Int), .int (s : Int)]
theorem key_st3 (t c s : Nat) : (key t c s).map kV = st3 t c s := rfl
theorem key_inj {t c s t' c' s' : Nat} (h : key t c s = key t' c' s') : t = t' ∧ c = c' ∧ s = s' := by
  unfold key at h
  simp only [List.cons.injEq, Sum.inl.injEq, and_true] at h
  omega
/-- what step hands back -/
def enc (r : Option (Nat × Nat × Nat)) : List V := match r with
  | none => []
  | some (t, c, s) => st3 t c s
/-- what next_cell hands back -/
def nextI (w : Water) (c h : Nat) : Int := match w.next c h with
  | none => -1
  | some d => (d : Int)
def offN (w : Water) (t h : Nat) : Nat := (h + 8 - w.wind t) % 8
def sideN (d : Nat) : Nat := if d = 0 ∨ d = 4 then 0 else if d < 4 then 1 else 2
def takenN (w : Water) (s d : Nat) : Nat := w.takes.getD (min d (8 - d) - 1) 1 + if s ≠ 0 ∧ sideN d ≠ 0 ∧ s ≠ sideN d then w.turn else 0
def outV (w : Water) (c : Uw28.Call) : List V := iv (Uw28Neutral.out (Uw28.step w c).2)

/-! ### the promises -/
def spInit (C : Addr) : Sp := fun vs H Q _ => ∃ (p dx : Addr) (a b : Nat), vs = [.ref p, .int (a : Nat), .int (b : Nat)] ∧ a ≤ 5 ∧ 1 ≤ a * b ∧ H p = some (.ins C dx []) ∧
  ∀ (H' : Hp) (ls : Addr), H ls = none → WatAt C H' p ls ⟨a, b, [], [], [1, 1, 1, 1], 0, 0, a * b - 1⟩ → (∀ b o, H b = some o → b ≠ p → H' b = some o) → (∀ nf, H nf ≠ none → Away C H' p nf) → Q .non H'
def spCells (C : Addr) : Sp := fun vs H Q _ => ∃ (a ls : Addr) (w : Water), vs = [.ref a] ∧ WatAt C H a ls w ∧ Ok w ∧ Q (.int (w.cells : Nat)) H
def spAddShoal (C : Addr) : Sp := fun vs H Q _ => ∃ (a ls : Addr) (w : Water) (c : Nat), vs = [.ref a, .int (c : Nat)] ∧ WatAt C H a ls w ∧ w.shoals.length ≤ 10000 ∧
  ∀ H' : Hp, WatAt C H' a ls { w with shoals := w.shoals ++ [c] } → (∀ b o, H b = some o → b ≠ ls → H' b = some o) → Q .non H'
def spSetWinds (C : Addr) : Sp := fun vs H Q _ => ∃ (a ls l : Addr) (w : Water) (r : List Nat), vs = [.ref a, .ref l] ∧ WatAt C H a ls w ∧ H l = some (.lst (nv r)) ∧ ls ≠ l ∧
  ∀ H' : Hp, WatAt C H' a ls { w with winds := r } → (∀ b o, H b = some o → b ≠ a → H' b = some o) → (∀ nf, nf ≠ l → Away C H a nf → Away C H' a nf) → Q .non H'
def spSetBoat (C : Addr) : Sp := fun vs H Q _ => ∃ (a ls l : Addr) (w : Water) (r : List Nat) (k : Nat), vs = [.ref a, .ref l, .int (k : Nat)] ∧ WatAt C H a ls w ∧ H l = some (.lst (nv r)) ∧ ls ≠ l ∧
  ∀ H' : Hp, WatAt C H' a ls { w with takes := r, turn := k } → (∀ b o, H b = some o → b ≠ a → H' b = some o) → (∀ nf, nf ≠ l → Away C H a nf → Away C H' a nf) → Q .non H'
def spSetPlaces (C : Addr) : Sp := fun vs H Q _ => ∃ (a ls : Addr) (w : Water) (b m : Nat), vs = [.ref a, .int (b : Nat), .int (m : Nat)] ∧ WatAt C H a ls w ∧
  ∀ H' : Hp, WatAt C H' a ls { w with boat := b, mark := m } → (∀ b o, H b = some o → b ≠ a → H' b = some o) → (∀ nf, Away C H a nf → Away C H' a nf) → Q .non H'
def spWind (C : Addr) : Sp := fun vs H Q _ => ∃ (a ls : Addr) (w : Water) (t : Nat), vs = [.ref a, .int (t : Nat)] ∧ WatAt C H a ls w ∧ Ok w ∧ ∀ H' : Hp, Same H H' → Q (.int (w.wind t : Nat)) H'
def spNextCell (C : Addr) : Sp := fun vs H Q _ => ∃ (a ls : Addr) (w : Water) (c h : Nat), vs = [.ref a, .int (c : Nat), .int (h : Nat)] ∧ WatAt C H a ls w ∧ Ok w ∧ h < 8 ∧ Q (.int (nextI w c h)) H
def spOffWind (C : Addr) : Sp := fun vs H Q _ => ∃ (a ls : Addr) (w : Water) (t h : Nat), vs = [.ref a, .int (t : Nat), .int (h : Nat)] ∧ WatAt C H a ls w ∧ Ok w ∧ h < 8 ∧ ∀ H' : Hp, Same H H' → Q (.int (offN w t h : Nat)) H'
def spSideOf : Sp := fun vs H Q _ => ∃ d : Nat, vs = [.int (d : Nat)] ∧ ∀ H' : Hp, Same H H' → Q (.int (sideN d : Nat)) H'
def spTaken (C : Addr) : Sp := fun vs H Q _ => ∃ (a ls : Addr) (w : Water) (s d : Nat), vs = [.ref a, .int (s : Nat), .int (d : Nat)] ∧ WatAt C H a ls w ∧ Ok w ∧ 1 ≤ d ∧ d < 8 ∧ ∀ H' : Hp, Same H H' → Q (.int (takenN w s d : Nat)) H'
def spStep (C : Addr) : Sp := fun vs H Q _ => ∃ (a ls q : Addr) (w : Water) (t c s h : Nat), vs = [.ref a, .ref q, .int (h : Nat)] ∧ WatAt C H a ls w ∧ Ok w ∧ h < 8 ∧ H q = some (.tup (st3 t c s)) ∧
  ∀ (H' : Hp) (p : Addr), Same H H' → H' p = some (.tup (enc (stepS w t c s h))) → Q (.ref p) H'
def spStart (C : Addr) : Sp := fun vs H Q _ => ∃ (a ls : Addr) (w : Water), vs = [.ref a] ∧ WatAt C H a ls w ∧ ∀ (H' : Hp) (p : Addr), Same H H' → H' p = some (.tup (st3 0 w.boat 0)) → Q (.ref p) H'
/-- the keys are what can be come to -/
structure RK (w : Water) (kvs : List (List Key × V)) : Prop where
  all : ∀ kv ∈ kvs, ∃ t c s, kv.1 = key t c s ∧ Reach w t c s
  has : ∀ t c s, Reach w t c s → ∃ v, (key t c s, v) ∈ kvs
def spReached (C : Addr) : Sp := fun vs H Q _ => ∃ (a ls : Addr) (w : Water), vs = [.ref a] ∧ WatAt C H a ls w ∧ Ok w ∧
  ∀ (H' : Hp) (d : Addr) (kvs : List (List Key × V)), Same H H' → H d = none → H' d = some (.dT kvs) → RK w kvs → kvs.length ≤ 4000 → Q (.ref d) H'
/-- what soonest_minute hands back -/
def SM (w : Water) (r : Int) : Prop := (r = -1 ∧ ∀ t s, ¬ Reach w t w.mark s) ∨ ∃ v s : Nat, r = (v : Int) ∧ Reach w v w.mark s ∧ ∀ t s, Reach w t w.mark s → v ≤ t
def spSoonMin (C : Addr) : Sp := fun vs H Q _ => ∃ (a ls : Addr) (w : Water), vs = [.ref a] ∧ WatAt C H a ls w ∧ Ok w ∧ ∀ (H' : Hp) (r : Int), Same H H' → SM w r → Q (.int r) H'
/-- what first_good hands back -/
def FG (w : Water) (kvs : List (List Key × V)) (t c s : Nat) (r : Int) : Prop :=
  (r = -1 ∧ ∀ h, h < 8 → ∀ t' c' s', stepS w t c s h = some (t', c', s') → valV kvs (key t' c' s') = none) ∨
  ∃ h : Nat, r = (h : Int) ∧ (∃ t' c' s' x, stepS w t c s h = some (t', c', s') ∧ valV kvs (key t' c' s') = some x) ∧ ∀ h', h' < h → ∀ t' c' s', stepS w t c s h' = some (t', c', s') → valV kvs (key t' c' s') = none
def spFirst (C : Addr) : Sp := fun vs H Q _ => ∃ (a ls d q : Addr) (w : Water) (kvs : List (List Key × V)) (t c s : Nat), vs = [.ref a, .ref d, .ref q] ∧ WatAt C H a ls w ∧ Ok w ∧ H d = some (.dT kvs) ∧ H q = some (.tup (st3 t c s)) ∧
  ∀ (H' : Hp) (r : Int), Same H H' → FG w kvs t c s r → Q (.int r) H'
/-- what good_states hands back -/
structure GK (w : Water) (v : Nat) (kvs : List (List Key × V)) : Prop where
  tell : ∀ t c s x, s < 3 → valV kvs (key t c s) = some x → Arr w v t c s ∧ ((c = w.mark ∧ x = .int (-1)) ∨ (c ≠ w.mark ∧ ∃ h : Nat, x = .int (h : Int) ∧ FirstH w v t c s h))
  has : ∀ t c s, t ≤ v → c < w.cells → s < 3 → Arr w v t c s → ∃ x, valV kvs (key t c s) = some x
def spGood (C : Addr) : Sp := fun vs H Q _ => ∃ (a ls : Addr) (w : Water) (v : Nat), vs = [.ref a, .int (v : Nat)] ∧ WatAt C H a ls w ∧ Ok w ∧ v ≤ 40 ∧
  ∀ (H' : Hp) (d : Addr) (kvs : List (List Key × V)), Same H H' → H' d = some (.dT kvs) → GK w v kvs → Q (.ref d) H'
def spWay (C : Addr) : Sp := fun vs H Q _ => ∃ (a ls : Addr) (w : Water) (v : Nat), vs = [.ref a, .int (v : Nat)] ∧ WatAt C H a ls w ∧ Ok w ∧ Soon w v ∧
  ∀ (H' : Hp) (p : Addr), Same H H' → H p = none → H' p = some (.lst (nv (w.way (w.tables 40) v 40 0 w.boat 0))) → Q (.ref p) H'
def spIsSize : Sp := fun vs H Q _ => ∃ n : Nat, vs = [.int (n : Nat)] ∧ Q (.bl (decide (2 ≤ n ∧ n ≤ 5))) H
def spBegins (C : Addr) : Sp := fun vs H Q _ => ∃ (a ls : Addr) (w : Water) (x y : Nat), vs = [.ref a, .int (x : Nat), .int (y : Nat)] ∧ WatAt C H a ls w ∧
  ∀ (H' : Hp) (q p a' ls' : Addr), Same H H' → H' q = some (.tup [.ref a', .ref p]) → H p = none → H' p = some (.lst (outV w (.begins x y))) → WatAt C H' a' ls' (Uw28.step w (.begins x y)).1 →
    (a' = a ∧ ls' = ls ∨ H a' = none ∧ H ls' = none) → p ≠ ls' → (∀ nf, H nf ≠ none → Away C H a nf → Away C H' a' nf) → Q (.ref q) H'
/-- a call that may change the water -/
def DoesN (N : Addr → Prop) (C : Addr) (H : Hp) (Q : VK) (a ls : Addr) (w : Water) (c : Uw28.Call) : Prop :=
  ∀ (H' : Hp) (p : Addr), WatAt C H' a ls (Uw28.step w c).1 → (∀ b o, H b = some o → b ≠ a → b ≠ ls → H' b = some o) → (∀ nf, N nf → Away C H a nf → Away C H' a nf) → H p = none → H' p = some (.lst (outV w c)) → Q (.ref p) H'
abbrev Does (C : Addr) (H : Hp) (Q : VK) (a ls : Addr) (w : Water) (c : Uw28.Call) : Prop := DoesN (fun nf => H nf ≠ none) C H Q a ls w c
def spShoal (C : Addr) : Sp := fun vs H Q _ => ∃ (a ls : Addr) (w : Water) (c : Nat), vs = [.ref a, .int (c : Nat)] ∧ WatAt C H a ls w ∧ Ok w ∧ w.shoals.length ≤ 10000 ∧ Does C H Q a ls w (.shoal c)
def spHeads (K : PySem.W.Frag) : Sp := fun vs H Q _ => ∃ (r : Addr) (row : List Nat) (m : Nat), vs = [.ref r, .int (m : Nat)] ∧ SqT K H r (nv row) ∧ row.length ≤ 1000 ∧
  ∀ H' : Hp, Same H H' → Q (.bl (decide (row.length ≤ m) && row.all fun d => decide (d ≤ 7))) H'
def spWinds (K : PySem.W.Frag) (C : Addr) : Sp := fun vs H Q _ => ∃ (a ls r : Addr) (w : Water) (row : List Nat), vs = [.ref a, .ref r] ∧ WatAt C H a ls w ∧ SqT K H r (nv row) ∧ row.length ≤ 1000 ∧ Does C H Q a ls w (.winds row)
def spBoat (C : Addr) : Sp := fun vs H Q _ => ∃ (a ls l : Addr) (w : Water) (x y z u k : Nat), vs = [.ref a, .ref l, .int (k : Nat)] ∧ WatAt C H a ls w ∧ H l = some (.lst (nv [x, y, z, u])) ∧ ls ≠ l ∧ DoesN (fun nf => H nf ≠ none ∧ nf ≠ l) C H Q a ls w (.boat x y z u k)
def spPlaces (C : Addr) : Sp := fun vs H Q _ => ∃ (a ls : Addr) (w : Water) (b m : Nat), vs = [.ref a, .int (b : Nat), .int (m : Nat)] ∧ WatAt C H a ls w ∧ Ok w ∧ Does C H Q a ls w (.places b m)
def spSoonest (C : Addr) : Sp := fun vs H Q _ => ∃ (a ls : Addr) (w : Water), vs = [.ref a] ∧ WatAt C H a ls w ∧ Ok w ∧ Does C H Q a ls w .soonest
def spCheck (K : PySem.W.Frag) (C : Addr) : Sp := fun vs H Q _ => ∃ (a ls r : Addr) (w : Water) (row : List Nat), vs = [.ref a, .ref r] ∧ WatAt C H a ls w ∧ Ok w ∧ SqT K H r (nv row) ∧ row.length ≤ 1000 ∧ Does C H Q a ls w (.check row)
def spAnswer (K : PySem.W.Frag) (C : Addr) : Sp := fun vs H Q _ => ∃ (a ls g r : Addr) (w : Water) (c : Uw28.Call) (n : Nat) (given row : List Nat), vs = [.ref a, .int (n : Nat), .ref g, .ref r] ∧ WatAt C H a ls w ∧ Ok w ∧ w.shoals.length ≤ 10000 ∧
  H g = some (.lst (nv given)) ∧ ls ≠ g ∧ SqT K H r (nv row) ∧ row.length ≤ 1000 ∧ CArgs c n given row ∧ Does C H Q a ls w c
def spAnswers (K : PySem.W.Frag) : Sp := fun vs H Q _ => ∃ (a : Addr) (ns : List Int), vs = [.ref a] ∧ SqL K H a (iv ns) ∧ ns.length ≤ 4000 ∧ PyUw28.answers_asked ns = true ∧
  ∀ (H' : Hp) (p : Addr), H' p = some (.lst (iv (PyUw28.answers ns))) → Q (.ref p) H'

/-! ### what the top has written -/
def dxs : List Int := [0, 1, 1, 1, 0, -1, -1, -1]
def dys : List Int := [-1, -1, 0, 1, 1, 1, 0, -1]
structure Txt (K : PySem.W.Frag) (mg : Str → Option Value) (C : Addr) : Prop where
  cl : Cls K C
  gC : mg "Water" = some (.ref C)
  n_wide : NoAttr K C "wide"
  n_high : NoAttr K C "high"
  n_shoals : NoAttr K C "shoals"
  n_winds : NoAttr K C "winds"
  n_minutes : NoAttr K C "minutes"
  n_turn : NoAttr K C "turn"
  n_boat : NoAttr K C "boat"
  n_mark : NoAttr K C "mark"
  g_HEADINGS : ∃ t, mg "HEADINGS" = some (.int (8) t)
  g_STRAIGHT : ∃ t, mg "STRAIGHT" = some (.int (4) t)
  g_NO_SIDE : ∃ t, mg "NO_SIDE" = some (.int (0) t)
  g_MOST_MINUTES : ∃ t, mg "MOST_MINUTES" = some (.int (40) t)
  g_SIDES : ∃ t, mg "SIDES" = some (.int (3) t)
  g_OUT : ∃ t, mg "OUT" = some (.int (-1) t)
  g_NO_CELL : ∃ t, mg "NO_CELL" = some (.int (-2) t)
  g_IN_THE_WAY : ∃ t, mg "IN_THE_WAY" = some (.int (-3) t)
  g_IS_SHOAL : ∃ t, mg "IS_SHOAL" = some (.int (-4) t)
  g_NO_WAY : ∃ t, mg "NO_WAY" = some (.int (-6) t)
  g_LEAST_SIZE : ∃ t, mg "LEAST_SIZE" = some (.int (2) t)
  g_MOST_SIZE : ∃ t, mg "MOST_SIZE" = some (.int (5) t)
  g_MOST_WINDS : ∃ t, mg "MOST_WINDS" = some (.int (12) t)
  g_MOST_TAKEN : ∃ t, mg "MOST_TAKEN" = some (.int (9) t)
  g_MOST_STEPS : ∃ t, mg "MOST_STEPS" = some (.int (40) t)
  g_BEGINS : ∃ t, mg "BEGINS" = some (.int (0) t)
  g_WAYS : ∃ (aW : Addr) (ps : List Addr), mg "WAYS" = some (.ref aW) ∧ KT_ K aW (ps.map V.ref) ∧ ∀ h, h < 8 → ∃ p, ps[h]? = some p ∧ KT_ K p [.int (dxs.getD h 0), .int (dys.getD h 0)]
  g_NUMBERS : ∃ aN, mg "NUMBERS" = some (.ref aN) ∧ KT_ K aN (nv [2, 1, 0, 5, 2, 0, 0])
  g_WITH_LIST : ∃ aL, mg "WITH_LIST" = some (.ref aL) ∧ KT_ K aL (nv [2, 6])
  b_len : mg "len" = none
  b_min : mg "min" = none
  b_max : mg "max" = none
  b_range : mg "range" = none
  b_list : mg "list" = none
  b_tuple : mg "tuple" = none
  b_enumerate : mg "enumerate" = none

/-! ### calls in short -/
structure DefOk (P : Program) (w : World) (K : PySem.W.Frag) (mg : Str → Option Value) (base : Heap) (k : Nat) (x : Str) (ps : List Str) (sp : Sp) : Prop where
  ex : ∃ f fd, FnOk P w K mg base CX0 k f fd ps sp ∧ mg x = some (.ref f) ∧ PySem.W.keepIn K (.ref f) = true ∧ Binds K fd ps []
structure MethOk (P : Program) (w : World) (K : PySem.W.Frag) (mg : Str → Option Value) (base : Heap) (C : Addr) (k : Nat) (m : Str) (ps : List Str) (sp : Sp) : Prop where
  cl : Cls K C
  ex : ∃ f fd, FnOk P w K mg base CX0 k f fd ps sp ∧ Meth K C m f ∧ Binds K fd ps []
structure MakeOk (P : Program) (w : World) (K : PySem.W.Frag) (mg : Str → Option Value) (base : Heap) (C : Addr) (k : Nat) (x : Str) (ps : List Str) (sp : Sp) : Prop where
  gC : mg x = some (.ref C)
  ex : ∃ f fd, FnOk P w K mg base CX0 k f fd ps sp ∧ Mk K C f ∧ Binds K fd ps []
section
variable {X : Cx} {k : Nat} {C : Addr} {ps : List Str} {sp : Sp} {x m : Str} {p pos apos : Pos} {e o : Expr} {es : List Expr} {ta : TE} {t : TA}
theorem pe_def (D : DefOk X.prog X.w X.K X.mg X.base k x ps sp) (hr : Room k X.A) (hg : Gl X x) (ha : PA X (e :: es) t) (hdb : (x == ("__debug__" : Str)) = false := by decide) (he : starEach (e :: es) X.env = (false, eval e X.env) :: starEach es X.env := by rfl) (hpl : (backTo pos (starEach es X.env)).any (·.1) = false := by rfl) :
    PE X (.Call (.Name x p) (e :: es) [] pos) (tCall sp [] E0 t) := by
  obtain ⟨f, fd, F, hm, hk, hb⟩ := D.ex
  exact pe_call F hr hg hm hk hb .nil pass0 ha hdb he hpl
theorem pe_mth {pl : Sem Bool} (D : MethOk X.prog X.w X.K X.mg X.base C k m ps sp) (hr : Room k X.A) (he : PE X o ta) (ha : PA X (e :: es) t)
    (hst : starEach (e :: es) X.env = (false, eval e X.env) :: starEach es X.env := by rfl) (hpl : (backTo pos (starEach es X.env)).any (·.1) = false := by rfl)
    (ht : eval (.Call (.Attribute o m apos) (e :: es) [] pos) X.env = (do
      let ov ← eval o X.env
      standAt apos.atName
      let (f, first) ← holding [ov] (getMethod ov m pl)
      callWith pos f first (backTo pos (starEach (e :: es) X.env)) (backToKw pos (keywordEach [] X.env))) := by rfl) :
    PE X (.Call (.Attribute o m apos) (e :: es) [] pos) (tMeth C m sp [] E0 ta t) := by
  obtain ⟨f, fd, F, hm, hb⟩ := D.ex
  exact pe_meth he D.cl hm F hr hb .nil pass0 ha hst hpl ht
theorem pe_mth0 {pl : Sem Bool} (D : MethOk X.prog X.w X.K X.mg X.base C k m ps sp) (hr : Room k X.A) (he : PE X o ta)
    (ht : eval (.Call (.Attribute o m apos) [] [] pos) X.env = (do
      let ov ← eval o X.env
      standAt apos.atName
      let (f, first) ← holding [ov] (getMethod ov m pl)
      callWith pos f first (backTo pos (starEach [] X.env)) (backToKw pos (keywordEach [] X.env))) := by rfl) :
    PE X (.Call (.Attribute o m apos) [] [] pos) (tMeth C m sp [] E0 ta tNil) := by
  obtain ⟨f, fd, F, hm, hb⟩ := D.ex
  exact pe_meth0 he D.cl hm F hr hb .nil pass0 ht
theorem pe_mkk (D : MakeOk X.prog X.w X.K X.mg X.base C k x ps sp) (hr : Room (k + 1) X.A) (hg : Gl X x) (ha : PA X (e :: es) t) (hdb : (x == ("__debug__" : Str)) = false := by decide) (he : starEach (e :: es) X.env = (false, eval e X.env) :: starEach es X.env := by rfl) (hpl : (backTo pos (starEach es X.env)).any (·.1) = false := by rfl) :
    PE X (.Call (.Name x p) (e :: es) [] pos) (tMake C sp [] E0 t) := by
  obtain ⟨f, fd, F, hm, hb⟩ := D.ex
  exact pe_make hm F hr hg D.gC hb .nil pass0 ha hdb he hpl
/-- a constant of the module -/
theorem pe_gi {n : Int} (hg : Gl X x) (h : ∃ t, X.mg x = some (.int n t)) (hd : (x == ("__debug__" : Str)) = false := by decide) : PE X (.Name x pos) (tC (.int n)) := by
  obtain ⟨t, h⟩ := h
  exact pe_glob hg h ⟨t, rfl⟩ hd
end
theorem if_true_of {c : Bool} {A B : Prop} (hc : c = true) (h : A) : if c = true then A else B := by
  rw [if_pos hc]
  exact h
theorem if_false_of {c : Bool} {A B : Prop} (hc : c = false) (h : B) : if c = true then A else B := by
  rw [hc, if_neg Bool.false_ne_true]
  exact h
end Bw
namespace Bw
open PySem PySem.Spec PyProof.Rows L2
open Uw28 (Water)
section
variable {P : Program} {wd : World} {K : PySem.W.Frag} {mg : Str → Option Value} {base : Heap} {C : Addr}
theorem wF_len (w : Water) (ls lw lm : Addr) : (wF w ls lw lm).length < 1000 := by show 8 < 1000; decide
theorem chain8 (a b c d e f g h : V) : putF "mark" h (putF "boat" g (putF "turn" f (putF "minutes" e (putF "winds" d (putF "shoals" c (putF "high" b (putF "wide" a []))))))) = ([("wide", a), ("high", b), ("shoals", c), ("winds", d), ("minutes", e), ("turn", f), ("boat", g), ("mark", h)] : List (Str × V)) := by
  rw [mk_wide, mk_high, mk_shoals, mk_winds, mk_minutes, mk_turn, mk_boat, mk_mark]
theorem scInit : FnScope ["self", "wide", "high"] ["self", "wide", "high"] (defScope sInit) := ⟨rfl, rfl, rfl, by decide +kernel, rfl, by decide +kernel, by decide +kernel⟩
theorem okf_init {f : Addr} {fd : FuncData} (F : Fun K "__init__" "Water.__init__" sInit f fd) (T : Txt K mg C) : FnOk P wd K mg base CX0 1 f fd ["self", "wide", "high"] (spInit C) := by
  refine F.ok scInit (fun vs H Q E h => ?_) (fun cdv A outer s H vs Q E hr h => ?_)
  · obtain ⟨p, dx, a, b, rfl, _⟩ := h
    rfl
  · obtain ⟨p, dx, a, b, rfl, ha, hb, hp, k⟩ := h
    refine ⟨_, pss_cons (ps_fld (pv 0) (pv 1) rfl) (pss_cons (ps_fld (pv 0) (pv 2) rfl) (pss_cons (ps_fld (pv 0) (pe_lst pa_nil) rfl) (pss_cons (ps_fld (pv 0) (pe_lst pa_nil) rfl)
      (pss_cons (ps_fld (pv 0) (pe_lst (pa_cons pe_int (pa_cons pe_int (pa_cons pe_int (pa_cons pe_int pa_nil))))) rfl) (pss_cons (ps_fld (pv 0) pe_int rfl) (pss_cons (ps_fld (pv 0) pe_int rfl)
      (pss_one (ps_fld (pv 0) (pe_op op_sub (pe_op op_mul (pv 1) (pv 2)) pe_int) rfl)))))))), ?_⟩
    refine ⟨_, rfl, _, rfl, p, C, dx, [], rfl, hp, T.cl, T.n_wide, (by decide), ?_⟩
    refine ⟨_, rfl, _, rfl, p, C, dx, _, rfl, upd_same, T.cl, T.n_high, (by rw [mk_wide]; show 1 < 1000; decide), ?_⟩
    refine ⟨(by decide), fun l1 n1 => ⟨_, rfl, p, C, dx, _, rfl, (upd_ne (ne_of_none upd_same n1)).trans upd_same, T.cl, T.n_shoals, (by rw [mk_wide, mk_high]; show 2 < 1000; decide), ?_⟩⟩
    refine ⟨(by decide), fun l2 n2 => ⟨_, rfl, p, C, dx, _, rfl, (upd_ne (ne_of_none upd_same n2)).trans upd_same, T.cl, T.n_winds, (by rw [mk_wide, mk_high, mk_shoals]; show 3 < 1000; decide), ?_⟩⟩
    refine ⟨(by decide), fun l3 n3 => ⟨_, rfl, p, C, dx, _, rfl, (upd_ne (ne_of_none upd_same n3)).trans upd_same, T.cl, T.n_minutes, (by rw [mk_wide, mk_high, mk_shoals, mk_winds]; show 4 < 1000; decide), ?_⟩⟩
    refine ⟨_, rfl, p, C, dx, _, rfl, upd_same, T.cl, T.n_turn, (by rw [mk_wide, mk_high, mk_shoals, mk_winds, mk_minutes]; show 5 < 1000; decide), ?_⟩
    refine ⟨_, rfl, p, C, dx, _, rfl, upd_same, T.cl, T.n_boat, (by rw [mk_wide, mk_high, mk_shoals, mk_winds, mk_minutes, mk_turn]; show 6 < 1000; decide), ?_⟩
    refine ⟨_, rfl, _, rfl, _, _, rfl, rfl, .inl ⟨by omega, by omega⟩, _, _, rfl, rfl, _, rfl, p, C, dx, _, rfl, upd_same, T.cl, T.n_mark, (by rw [mk_wide, mk_high, mk_shoals, mk_winds, mk_minutes, mk_turn, mk_boat]; show 7 < 1000; decide), ?_⟩
    -- apart
    have p1 : p ≠ l1 := ne_of_none upd_same n1
    have p2 : p ≠ l2 := ne_of_none upd_same n2
    have p3 : p ≠ l3 := ne_of_none upd_same n3
    have e12 : l1 ≠ l2 := fun z => by rw [← z, upd_ne (Ne.symm p1), upd_same] at n2; cases n2
    have e13 : l1 ≠ l3 := fun z => by rw [← z, upd_ne (Ne.symm p1), upd_ne e12, upd_ne (Ne.symm p1), upd_same] at n3; cases n3
    have e23 : l2 ≠ l3 := fun z => by rw [← z, upd_ne (Ne.symm p2), upd_same] at n3; cases n3
    have f1 : H l1 = none := by rw [upd_ne (Ne.symm p1), upd_ne (Ne.symm p1)] at n1; exact n1
    have f2 : H l2 = none := by rw [upd_ne (Ne.symm p2), upd_ne (Ne.symm e12), upd_ne (Ne.symm p2), upd_ne (Ne.symm p2)] at n2; exact n2
    have f3 : H l3 = none := by rw [upd_ne (Ne.symm p3), upd_ne (Ne.symm e23), upd_ne (Ne.symm p3), upd_ne (Ne.symm e13), upd_ne (Ne.symm p3), upd_ne (Ne.symm p3)] at n3; exact n3
    have hA : ∀ H1 : Hp, upd H1 p (.ins C dx (putF "mark" (.int ((a : Int) * (b : Int) - 1)) (putF "boat" (.int 0) (putF "turn" (.int 0) (putF "minutes" (.ref l3) (putF "winds" (.ref l2) (putF "shoals" (.ref l1) (putF "high" (.int (b : Int)) (putF "wide" (.int (a : Int)) []))))))))) p = some (.ins C dx (wF ⟨a, b, [], [], [1, 1, 1, 1], 0, 0, a * b - 1⟩ l1 l2 l3)) := fun H1 => by
      rw [upd_same, chain8]
      have e : ((a : Int) * (b : Int) - 1) = ((a * b - 1 : Nat) : Int) := by
        rw [Int.ofNat_sub hb, Int.natCast_mul]
        rfl
      rw [e]
      rfl
    refine k _ l1 f1 ⟨dx, l2, l3, hA _, ?_, ?_, ?_, e12, e13⟩ (fun b o e hb => ?_) (fun nf hn => away_of (hA _) (fun z => hn (z ▸ f2)) (fun z => hn (z ▸ f3)))
    · rw [upd_ne (Ne.symm p1), upd_ne (Ne.symm p1), upd_ne (Ne.symm p1), upd_ne (Ne.symm p1), upd_ne e13, upd_ne (Ne.symm p1), upd_ne e12, upd_ne (Ne.symm p1), upd_same]
      rfl
    · rw [upd_ne (Ne.symm p2), upd_ne (Ne.symm p2), upd_ne (Ne.symm p2), upd_ne (Ne.symm p2), upd_ne e23, upd_ne (Ne.symm p2), upd_same]
      rfl
    · rw [upd_ne (Ne.symm p3), upd_ne (Ne.symm p3), upd_ne (Ne.symm p3), upd_ne (Ne.symm p3), upd_same]
      rfl
    · rw [upd_ne hb, upd_ne hb, upd_ne hb, upd_ne hb, upd_ne (ne_of_none e f3), upd_ne hb, upd_ne (ne_of_none e f2), upd_ne hb, upd_ne (ne_of_none e f1), upd_ne hb, upd_ne hb]
      exact e
theorem scCells : FnScope ["self"] ["self"] (defScope sCells) := ⟨rfl, rfl, rfl, by decide +kernel, rfl, by decide +kernel, by decide +kernel⟩
theorem okf_cells {f : Addr} {fd : FuncData} (F : Fun K "cells" "Water.cells" sCells f fd) (T : Txt K mg C) : FnOk P wd K mg base CX0 1 f fd ["self"] (spCells C) := by
  refine F.ok scCells (fun vs H Q E h => ?_) (fun cdv A outer s H vs Q E hr h => ?_)
  · obtain ⟨a, ls, w, rfl, _⟩ := h
    rfl
  · obtain ⟨a, ls, w, rfl, ⟨dx, lw, lm, h1, _⟩, ok, k⟩ := h
    refine ⟨_, pss_one (ps_ret (pe_op op_mul (pe_fld (pv 0) rfl) (pe_fld (pv 0) rfl))), ?_⟩
    have w5 := ok.w5
    refine ⟨_, rfl, a, C, dx, _, _, rfl, h1, T.cl, T.n_wide, wF_wide .., _, rfl, a, C, dx, _, _, rfl, h1, T.cl, T.n_high, wF_high .., _, _, rfl, rfl, .inl ⟨by omega, by omega⟩, ?_⟩
    have e : ((w.cells : Nat) : Int) = (w.wide : Int) * (w.high : Int) := Int.natCast_mul _ _
    show Q (V.int ((w.wide : Int) * (w.high : Int))) H
    rw [← e]
    exact k
theorem scAdd : FnScope ["self", "cell"] ["self", "cell"] (defScope sAddShoal) := ⟨rfl, rfl, rfl, by decide +kernel, rfl, by decide +kernel, by decide +kernel⟩
theorem okf_add {f : Addr} {fd : FuncData} (F : Fun K "add_shoal" "Water.add_shoal" sAddShoal f fd) (T : Txt K mg C) : FnOk P wd K mg base CX0 1 f fd ["self", "cell"] (spAddShoal C) := by
  refine F.ok scAdd (fun vs H Q E h => ?_) (fun cdv A outer s H vs Q E hr h => ?_)
  · obtain ⟨a, ls, w, c, rfl, _⟩ := h
    rfl
  · obtain ⟨a, ls, w, c, rfl, ⟨dx, lw, lm, h1, h2, h3, h4, n1, n2⟩, hl, k⟩ := h
    refine ⟨_, pss_one (ps_expr (pe_bm PySem.F.plainAttrs_list PySem.F.slot_list_append PySem.F.type_list_append mt_append (pe_fld (pv 0) rfl) (pa_cons (pv 1) pa_nil))), ?_⟩
    refine ⟨_, rfl, a, C, dx, _, _, rfl, h1, T.cl, T.n_shoals, wF_shoals .., .inl ⟨rfl, _, SqL.of h2⟩, _, rfl, ls, _, _, rfl, rfl, h2, ?_, ?_⟩
    · rw [nv_length, sizeLine_eq]
      omega
    · refine k _ ⟨dx, lw, lm, ?_, ?_, ?_, ?_, n1, n2⟩ fun b o e hb => by rw [upd_ne hb]; exact e
      · rw [upd_ne (ne_of h1 h2 (fun z => nomatch z))]
        exact h1
      · rw [upd_same]
        show some (HO.lst (nv w.shoals ++ [V.int (c : Int)])) = some (HO.lst (nv (w.shoals ++ [c])))
        unfold nv
        rw [List.map_append]
        rfl
      · rw [upd_ne (Ne.symm n1)]
        exact h3
      · rw [upd_ne (Ne.symm n2)]
        exact h4
theorem scSetW : FnScope ["self", "row"] ["self", "row"] (defScope sSetWinds) := ⟨rfl, rfl, rfl, by decide +kernel, rfl, by decide +kernel, by decide +kernel⟩
theorem okf_setWinds {f : Addr} {fd : FuncData} (F : Fun K "set_winds" "Water.set_winds" sSetWinds f fd) (T : Txt K mg C) : FnOk P wd K mg base CX0 1 f fd ["self", "row"] (spSetWinds C) := by
  refine F.ok scSetW (fun vs H Q E h => ?_) (fun cdv A outer s H vs Q E hr h => ?_)
  · obtain ⟨a, ls, l, w, r, rfl, _⟩ := h
    rfl
  · obtain ⟨a, ls, l, w, r, rfl, ⟨dx, lw, lm, h1, h2, h3, h4, n1, n2⟩, hl, hn, k⟩ := h
    refine ⟨_, pss_one (ps_fld (pv 0) (pv 1) rfl), ?_⟩
    refine ⟨_, rfl, _, rfl, a, C, dx, _, rfl, h1, T.cl, T.n_winds, wF_len .., ?_⟩
    have na : ∀ b xs, H b = some (.lst xs) → b ≠ a := fun b xs e => ne_of e h1 (fun z => nomatch z)
    have hA : upd H a (.ins C dx (putF "winds" (.ref l) (wF w ls lw lm))) a = some (.ins C dx (wF { w with winds := r } ls l lm)) := by rw [upd_same, wF_put_winds w ls lw lm l r]
    refine k _ ⟨dx, l, lm, hA, ?_, ?_, ?_, hn, n2⟩ (fun b o e hb => by rw [upd_ne hb]; exact e) (fun nf hnf aw => away_of hA hnf (aw _ _ _ _ _ h1).2)
    · rw [upd_ne (na _ _ h2)]
      exact h2
    · rw [upd_ne (na _ _ hl)]
      exact hl
    · rw [upd_ne (na _ _ h4)]
      exact h4
theorem scSetB : FnScope ["self", "minutes", "turn"] ["self", "minutes", "turn"] (defScope sSetBoat) := ⟨rfl, rfl, rfl, by decide +kernel, rfl, by decide +kernel, by decide +kernel⟩
theorem okf_setBoat {f : Addr} {fd : FuncData} (F : Fun K "set_boat" "Water.set_boat" sSetBoat f fd) (T : Txt K mg C) : FnOk P wd K mg base CX0 1 f fd ["self", "minutes", "turn"] (spSetBoat C) := by
  refine F.ok scSetB (fun vs H Q E h => ?_) (fun cdv A outer s H vs Q E hr h => ?_)
  · obtain ⟨a, ls, l, w, r, k, rfl, _⟩ := h
    rfl
  · obtain ⟨a, ls, l, w, r, kk, rfl, ⟨dx, lw, lm, h1, h2, h3, h4, n1, n2⟩, hl, hn, k⟩ := h
    refine ⟨_, pss_cons (ps_fld (pv 0) (pv 1) rfl) (pss_one (ps_fld (pv 0) (pv 2) rfl)), ?_⟩
    refine ⟨_, rfl, _, rfl, a, C, dx, _, rfl, h1, T.cl, T.n_minutes, wF_len .., ?_⟩
    refine ⟨_, rfl, _, rfl, a, C, dx, _, rfl, upd_same, T.cl, T.n_turn, (by rw [wF_put_minutes w ls lw lm l r]; exact wF_len ..), ?_⟩
    have na : ∀ b xs, H b = some (.lst xs) → b ≠ a := fun b xs e => ne_of e h1 (fun z => nomatch z)
    have hA : upd (upd H a (.ins C dx (putF "minutes" (.ref l) (wF w ls lw lm)))) a (.ins C dx (putF "turn" (.int (kk : Nat)) (putF "minutes" (.ref l) (wF w ls lw lm)))) a = some (.ins C dx (wF { w with takes := r, turn := kk } ls lw l)) := by rw [upd_same, wF_put_minutes w ls lw lm l r, wF_put_turn]
    refine k _ ⟨dx, lw, l, hA, ?_, ?_, ?_, n1, hn⟩ (fun b o e hb => by rw [upd_ne hb, upd_ne hb]; exact e) (fun nf hnf aw => away_of hA (aw _ _ _ _ _ h1).1 hnf)
    · rw [upd_ne (na _ _ h2), upd_ne (na _ _ h2)]
      exact h2
    · rw [upd_ne (na _ _ h3), upd_ne (na _ _ h3)]
      exact h3
    · rw [upd_ne (na _ _ hl), upd_ne (na _ _ hl)]
      exact hl
theorem scSetP : FnScope ["self", "boat", "mark"] ["self", "boat", "mark"] (defScope sSetPlaces) := ⟨rfl, rfl, rfl, by decide +kernel, rfl, by decide +kernel, by decide +kernel⟩
theorem okf_setPlaces {f : Addr} {fd : FuncData} (F : Fun K "set_places" "Water.set_places" sSetPlaces f fd) (T : Txt K mg C) : FnOk P wd K mg base CX0 1 f fd ["self", "boat", "mark"] (spSetPlaces C) := by
  refine F.ok scSetP (fun vs H Q E h => ?_) (fun cdv A outer s H vs Q E hr h => ?_)
  · obtain ⟨a, ls, w, b, m, rfl, _⟩ := h
    rfl
  · obtain ⟨a, ls, w, b, m, rfl, ⟨dx, lw, lm, h1, h2, h3, h4, n1, n2⟩, k⟩ := h
    refine ⟨_, pss_cons (ps_fld (pv 0) (pv 1) rfl) (pss_one (ps_fld (pv 0) (pv 2) rfl)), ?_⟩
    refine ⟨_, rfl, _, rfl, a, C, dx, _, rfl, h1, T.cl, T.n_boat, wF_len .., ?_⟩
    refine ⟨_, rfl, _, rfl, a, C, dx, _, rfl, upd_same, T.cl, T.n_mark, (by rw [wF_put_boat]; exact wF_len ..), ?_⟩
    have na : ∀ b xs, H b = some (.lst xs) → b ≠ a := fun b xs e => ne_of e h1 (fun z => nomatch z)
    have hA : upd (upd H a (.ins C dx (putF "boat" (.int (b : Nat)) (wF w ls lw lm)))) a (.ins C dx (putF "mark" (.int (m : Nat)) (putF "boat" (.int (b : Nat)) (wF w ls lw lm)))) a = some (.ins C dx (wF { w with boat := b, mark := m } ls lw lm)) := by rw [upd_same, wF_put_boat, wF_put_mark]
    refine k _ ⟨dx, lw, lm, hA, ?_, ?_, ?_, n1, n2⟩ (fun b o e hb => by rw [upd_ne hb, upd_ne hb]; exact e) (fun nf aw => away_of hA (aw _ _ _ _ _ h1).1 (aw _ _ _ _ _ h1).2)
    · rw [upd_ne (na _ _ h2), upd_ne (na _ _ h2)]
      exact h2
    · rw [upd_ne (na _ _ h3), upd_ne (na _ _ h3)]
      exact h3
    · rw [upd_ne (na _ _ h4), upd_ne (na _ _ h4)]
      exact h4
theorem scStart : FnScope ["self"] ["self"] (defScope sStart) := ⟨rfl, rfl, rfl, by decide +kernel, rfl, by decide +kernel, by decide +kernel⟩
theorem okf_start {f : Addr} {fd : FuncData} (F : Fun K "start" "Water.start" sStart f fd) (T : Txt K mg C) : FnOk P wd K mg base CX0 1 f fd ["self"] (spStart C) := by
  refine F.ok scStart (fun vs H Q E h => ?_) (fun cdv A outer s H vs Q E hr h => ?_)
  · obtain ⟨a, ls, w, rfl, _⟩ := h
    rfl
  · obtain ⟨a, ls, w, rfl, ⟨dx, lw, lm, h1, _⟩, k⟩ := h
    refine ⟨_, pss_one (ps_ret (pe_tup (pa_cons pe_int (pa_cons (pe_fld (pv 0) rfl) (pa_cons (pe_gi rfl T.g_NO_SIDE) pa_nil))))), ?_⟩
    exact ⟨_, rfl, a, C, dx, _, _, rfl, h1, T.cl, T.n_boat, wF_boat .., (by show 3 ≤ sizeLine; decide), fun p hp => k _ p (same_new _ hp) upd_same⟩
end
end Bw
namespace Bw
open PySem PySem.Spec PyProof.Rows L2
open Uw28 (Water)
/-! ### plain laws of the small defs -/
theorem nv_iv (l : List Nat) : nv l = iv (l.map fun (n : Nat) => (n : Int)) := by
  unfold nv iv
  rw [List.map_map]
  rfl
theorem dp_ints {K : PySem.W.Frag} {H : Hp} : ∀ ns : List Int, DpAll K H (iv ns) (ns.map PyData.int)
  | [] => .nil
  | n :: r => .cons (.int n) (dp_ints r)
theorem shaped_tup (ns : List Int) : SeqAt.shaped (.tuple (ns.map PyData.int)) = true := by
  simp [SeqAt.shaped, PyData.canLay0, PyData.depth, PySem.W.ke_canLayAll0, PySem.W.ke_depthAll]
theorem eqv_lnil (ns : List Int) : PyData.eqv (.list (ns.map PyData.int)) (.list []) = ns.isEmpty := by
  cases ns <;> simp [PyData.eqv, PyData.eqvAll]
theorem eqv_tnil (ns : List Int) : PyData.eqv (.tuple (ns.map PyData.int)) (.tuple []) = ns.isEmpty := by
  cases ns <;> simp [PyData.eqv, PyData.eqvAll]
section
variable {K : PySem.W.Frag} {H : Hp} {Q : VK} {p l : Addr} {ns : List Int}
theorem rNe_list (h : SqL K H p (iv ns)) (hl : SqL K H l []) (q : Q (.bl (!ns.isEmpty)) H) : rNeD K (.ref p) (.ref l) H Q :=
  ⟨_, .list ([] : List PyData), .lst h (dp_ints ns), .lst hl .nil, PySem.W.ke_shaped_ints ns, PySem.W.ke_shaped_ints [], by rw [eqv_lnil]; exact q⟩
theorem rEq_list (h : SqL K H p (iv ns)) (hl : SqL K H l []) (q : Q (.bl ns.isEmpty) H) : rEqD K (.ref p) (.ref l) H Q :=
  ⟨_, .list ([] : List PyData), .lst h (dp_ints ns), .lst hl .nil, PySem.W.ke_shaped_ints ns, PySem.W.ke_shaped_ints [], by rw [eqv_lnil]; exact q⟩
theorem rNe_tup (h : SqT K H p (iv ns)) (hl : SqT K H l []) (q : Q (.bl (!ns.isEmpty)) H) : rNeD K (.ref p) (.ref l) H Q :=
  ⟨_, .tuple ([] : List PyData), .tup h (dp_ints ns), .tup hl .nil, shaped_tup ns, shaped_tup [], by rw [eqv_tnil]; exact q⟩
theorem rEq_tup (h : SqT K H p (iv ns)) (hl : SqT K H l []) (q : Q (.bl ns.isEmpty) H) : rEqD K (.ref p) (.ref l) H Q :=
  ⟨_, .tuple ([] : List PyData), .tup h (dp_ints ns), .tup hl .nil, shaped_tup ns, shaped_tup [], by rw [eqv_tnil]; exact q⟩
end
/-- a step's tuple as ints -/
def encI (r : Option (Nat × Nat × Nat)) : List Int := match r with
  | none => []
  | some (t, c, s) => [(t : Int), (c : Int), (s : Int)]
theorem enc_iv (r : Option (Nat × Nat × Nat)) : enc r = iv (encI r) := by
  cases r with
  | none => rfl
  | some x => rfl
theorem encI_empty (r : Option (Nat × Nat × Nat)) : (encI r).isEmpty = r.isNone := by
  cases r with
  | none => rfl
  | some x => rfl
theorem inV_nv (n : Nat) (l : List Nat) : inV (.int (n : Int)) (nv l) = l.contains n := by
  unfold inV nv
  induction l with
  | nil => rfl
  | cons a l ih =>
    rw [List.map_cons, List.any_cons, ih, List.contains_cons]
    congr 1
    show ((a : Int) == (n : Int)) = (n == a)
    rw [Bool.eq_iff_iff]
    simp only [beq_iff_eq]
    omega
theorem off_eq {a h : Nat} (ha : a ≤ 7) : ((h : Int) - (a : Int)) % 8 = (((h + 8 - a) % 8 : Nat) : Int) := by omega
theorem nextI_eq {w : Water} {c h : Nat} (hh : h < 8) (x y : Int) (hx : x = ((c : Int)).fmod (w.wide : Int) + dxs.getD h 0) (hy : y = ((c : Int)).fdiv (w.wide : Int) + dys.getD h 0) :
    (¬ (0 ≤ x ∧ x < (w.wide : Int) ∧ 0 ≤ y ∧ y < (w.high : Int)) → nextI w c h = -1) ∧
    (0 ≤ x ∧ x < (w.wide : Int) ∧ 0 ≤ y ∧ y < (w.high : Int) → (y * (w.wide : Int) + x = ((y.toNat * w.wide + x.toNat : Nat) : Int)) ∧ nextI w c h = if w.shoals.contains (y.toNat * w.wide + x.toNat) = true then -1 else ((y.toNat * w.wide + x.toNat : Nat) : Int)) := by
  have e1 : ((c % w.wide : Nat) : Int) + (if h = 1 ∨ h = 2 ∨ h = 3 then 1 else if h = 5 ∨ h = 6 ∨ h = 7 then -1 else 0) = x := by
    rw [hx, Int.fmod_eq_emod_of_nonneg _ (Int.natCast_nonneg _), Int.natCast_emod]
    congr 1
    have : ∀ h, h < 8 → (if h = 1 ∨ h = 2 ∨ h = 3 then (1 : Int) else if h = 5 ∨ h = 6 ∨ h = 7 then -1 else 0) = dxs.getD h 0 := by decide
    exact this h hh
  have e2 : ((c / w.wide : Nat) : Int) + (if h = 7 ∨ h = 0 ∨ h = 1 then -1 else if h = 3 ∨ h = 4 ∨ h = 5 then 1 else 0) = y := by
    rw [hy, Int.fdiv_eq_ediv_of_nonneg _ (Int.natCast_nonneg _), Int.natCast_ediv]
    congr 1
    have : ∀ h, h < 8 → (if h = 7 ∨ h = 0 ∨ h = 1 then (-1 : Int) else if h = 3 ∨ h = 4 ∨ h = 5 then 1 else 0) = dys.getD h 0 := by decide
    exact this h hh
  unfold nextI Water.next
  rw [if_neg (by omega)]
  dsimp only
  rw [e1, e2]
  refine ⟨fun hn => ?_, fun hp => ⟨?_, ?_⟩⟩
  · rw [if_pos (by omega)]
  · rw [Int.natCast_add, Int.natCast_mul, Int.toNat_of_nonneg hp.1, Int.toNat_of_nonneg hp.2.2.1]
  · rw [if_neg (by omega)]
    by_cases hs : w.shoals.contains (y.toNat * w.wide + x.toNat) = true
    · rw [if_pos hs, if_pos hs]
    · rw [if_neg hs, if_neg hs]
theorem offN_lt (w : Water) (t h : Nat) : offN w t h < 8 := Nat.mod_lt _ (by decide)
theorem takes_at {w : Water} (k : Ok w) {d : Nat} (h1 : 1 ≤ d) (h8 : d < 8) : w.takes[min d (8 - d) - 1]? = some (w.takes.getD (min d (8 - d) - 1) 1) := by
  obtain ⟨a, b, c, e, ht, _⟩ := k.tk
  rw [ht]
  match d, h1, h8 with
  | 1, _, _ => rfl
  | 2, _, _ => rfl
  | 3, _, _ => rfl
  | 4, _, _ => rfl
  | 5, _, _ => rfl
  | 6, _, _ => rfl
  | 7, _, _ => rfl
theorem nextI_neg {w : Water} {c h : Nat} : nextI w c h < 0 ↔ w.next c h = none := by
  unfold nextI
  cases w.next c h with
  | none => simp
  | some d => simp
theorem stepS_none {w : Water} {t c s h : Nat} (hn : offN w t h = 0 ∨ nextI w c h < 0) : stepS w t c s h = none := by
  unfold stepS
  rcases hn with hn | hn
  · have : w.step_ t s h = none := by
      unfold Water.step_ Uw28.point
      unfold offN at hn
      dsimp only
      rw [hn, if_pos (by decide)]
    rw [this]
    cases w.next c h <;> rfl
  · rw [nextI_neg.mp hn]
theorem sideN_eq (w : Water) (t h : Nat) : sideN (offN w t h) = Uw28.side h (w.wind t) := rfl
theorem stepS_is {w : Water} {t c s h : Nat} (h0 : offN w t h ≠ 0) (hn : ¬ nextI w c h < 0) :
    ∃ d : Nat, nextI w c h = (d : Int) ∧ stepS w t c s h = some (t + takenN w s (offN w t h), d, if sideN (offN w t h) ≠ 0 then sideN (offN w t h) else s) := by
  cases e : w.next c h with
  | none => exact absurd (nextI_neg.mpr e) hn
  | some d =>
    refine ⟨d, by unfold nextI; rw [e], ?_⟩
    have hl := offN_lt w t h
    have hs : w.step_ t s h = some (takenN w s (offN w t h)) := by
      unfold Water.step_
      have hp : Uw28.point h (w.wind t) = min (offN w t h) (8 - offN w t h) := rfl
      dsimp only
      rw [hp, if_neg (by omega)]
      unfold takenN
      congr 2
      unfold Uw28.turns
      rw [← sideN_eq]
      by_cases a : s ≠ 0 ∧ sideN (offN w t h) ≠ 0 ∧ s ≠ sideN (offN w t h)
      · rw [if_pos a, if_pos (by simp [a.1, a.2.1, a.2.2])]
      · rw [if_neg a, if_neg (by simp; intro a1 a2; exact Classical.byContradiction fun a3 => a ⟨a1, a2, a3⟩)]
    rw [stepS_of e hs]
    unfold Uw28.sideOf
    rw [← sideN_eq]
    by_cases a : sideN (offN w t h) = 0
    · rw [if_pos a, if_neg (by simpa using a)]
    · rw [if_neg a, if_pos a]
section
variable {P : Program} {wd : World} {K : PySem.W.Frag} {mg : Str → Option Value} {base : Heap} {C : Addr}
/-! ### wind -/
theorem scWind : FnScope ["self", "minute"] ["self", "minute"] (defScope sWind) := ⟨rfl, rfl, rfl, by decide +kernel, rfl, by decide +kernel, by decide +kernel⟩
theorem okf_wind {f : Addr} {fd : FuncData} (F : Fun K "wind" "Water.wind" sWind f fd) (T : Txt K mg C) : FnOk P wd K mg base CX0 1 f fd ["self", "minute"] (spWind C) := by
  refine F.ok scWind (fun vs H Q E h => ?_) (fun cdv A outer s H vs Q E hr h => ?_)
  · obtain ⟨a, ls, w, t, rfl, _⟩ := h
    rfl
  · obtain ⟨a, ls, w, t, rfl, ⟨dx, lw, lm, h1, h2, h3, h4, n1, n2⟩, ok, k⟩ := h
    refine ⟨_, pss_one (ps_ret (pe_ifExp (pt_cmpR (op_neD hr.units) (pe_fld (pv 0) rfl) (pe_lst pa_nil) (nomark _))
      (pe_ix ix_list (pe_fld (pv 0) rfl) (pe_op op_modN (pv 1) (pe_callB call_len_seq (by rfl) T.b_len PySem.boot_len (pa_cons (pe_fld (pv 0) rfl) pa_nil))) (fun _ _ => rfl)) pe_int)), ?_⟩
    refine ⟨_, rfl, a, C, dx, _, _, rfl, h1, T.cl, T.n_winds, wF_winds .., (by decide), fun l hl => ?_⟩
    have g1 : upd H l (.lst []) a = some (.ins C dx (wF w ls lw lm)) := (upd_ne (ne_of_none h1 hl)).trans h1
    have g3 : upd H l (.lst []) lw = some (.lst (nv w.winds)) := (upd_ne (ne_of_none h3 hl)).trans h3
    refine rNe_list (ns := w.winds.map fun (n : Nat) => (n : Int)) (by rw [← nv_iv]; exact SqL.of g3) (SqL.of upd_same) ⟨_, rfl, ?_⟩
    have sm := same_new (H := H) (p := l) (.lst []) hl
    cases e : w.winds with
    | nil =>
      refine iteF ?_
      have hw : w.wind t = 0 := by unfold Water.wind; rw [e]; rfl
      have := k _ sm
      rw [hw] at this
      exact this
    | cons x r =>
      refine iteT ?_
      have hl0 : t % w.winds.length < w.winds.length := Nat.mod_lt _ (by rw [e]; exact Nat.succ_pos _)
      have hne : ((nv w.winds).length : Int) ≠ 0 := by rw [nv_length, e, List.length_cons]; omega
      have hit : w.winds[t % w.winds.length]? = some (w.wind t) := by
        unfold Water.wind
        rw [if_neg (by rw [e]; simp), List.getD_eq_getElem?_getD, List.getElem?_eq_getElem hl0]
        rfl
      refine ⟨_, rfl, a, C, dx, _, _, rfl, g1, T.cl, T.n_winds, wF_winds .., _, rfl, _, rfl, a, C, dx, _, _, rfl, g1, T.cl, T.n_winds, wF_winds .., lw, _, rfl, .inl (SqL.of g3), _, _, rfl, rfl, hne, lw, _, _, _, rfl, rfl, SqL.of g3, at_of (j := t % w.winds.length) ?_ (nv_get hit), k _ sm⟩
      rw [nv_length, Int.fmod_eq_emod_of_nonneg _ (Int.natCast_nonneg _), Int.natCast_emod]
/-! ### off_wind -/
theorem scOff : FnScope ["self", "minute", "heading"] ["self", "minute", "heading"] (defScope sOffWind) := ⟨rfl, rfl, rfl, by decide +kernel, rfl, by decide +kernel, by decide +kernel⟩
theorem okf_off {f : Addr} {fd : FuncData} (F : Fun K "off_wind" "Water.off_wind" sOffWind f fd) (T : Txt K mg C) (GW : MethOk P wd K mg base C 1 "wind" ["self", "minute"] (spWind C)) : FnOk P wd K mg base CX0 2 f fd ["self", "minute", "heading"] (spOffWind C) := by
  refine F.ok scOff (fun vs H Q E h => ?_) (fun cdv A outer s H vs Q E hr h => ?_)
  · obtain ⟨a, ls, w, t, h, rfl, _⟩ := h
    rfl
  · obtain ⟨a, ls, w, t, hh, rfl, W, ok, h8, k⟩ := h
    refine ⟨_, pss_one (ps_ret (pe_op op_mod (pe_op op_sub (pv 2) (pe_mth GW hr (pv 0) (pa_cons (pv 1) pa_nil))) (pe_gi rfl T.g_HEADINGS))), ?_⟩
    obtain ⟨dx, lw, lm, h1, _⟩ := id W
    refine ⟨_, rfl, _, rfl, a, dx, _, rfl, h1, wF_no_wind .., _, rfl, a, ls, w, t, rfl, W, ok, fun H' sm => ?_⟩
    refine ⟨_, _, rfl, rfl, _, _, rfl, rfl, (by show (0 : Int) < 8; decide), ?_⟩
    have e := off_eq (h := hh) (wind_le ok t)
    show Q (.int (((hh : Int) - (w.wind t : Int)) % 8)) H'
    rw [e]
    exact k H' sm
/-! ### side_of -/
theorem scSide : FnScope ["off"] ["off"] (defScope sSideOf) := ⟨rfl, rfl, rfl, by decide +kernel, rfl, by decide +kernel, by decide +kernel⟩
theorem okf_side {f : Addr} {fd : FuncData} (F : Fun K "side_of" "side_of" sSideOf f fd) (T : Txt K mg C) : FnOk P wd K mg base CX0 1 f fd ["off"] spSideOf := by
  refine F.ok scSide (fun vs H Q E h => ?_) (fun cdv A outer s H vs Q E hr h => ?_)
  · obtain ⟨d, rfl, _⟩ := h
    rfl
  · obtain ⟨d, rfl, k⟩ := h
    refine ⟨_, pss_cons (ps_if (pt_cmpR op_in_seq (pv 0) (pe_tup (pa_cons pe_int (pa_cons (pe_gi rfl T.g_STRAIGHT) pa_nil))) (by rfl)) (pss_one (ps_ret (pe_gi rfl T.g_NO_SIDE))) pss_nil)
      (pss_one (ps_ret (pe_ifExp (pt_cmpR op_lt (pv 0) (pe_gi rfl T.g_STRAIGHT) (nomark _)) pe_int pe_int))), ?_⟩
    refine ⟨_, rfl, (by show 2 ≤ sizeLine; decide), fun p hp => ⟨p, _, rfl, .inr (SqT.of upd_same), rfl, rfl, _, rfl, ?_⟩⟩
    have sm := same_new (H := H) (p := p) (.tup [.int 0, .int 4]) hp
    have hin : inV (.int (d : Int)) [.int 0, .int 4] = decide (d = 0 ∨ d = 4) := by
      have := inV_nv d [0, 4]
      refine Eq.trans this ?_
      rw [Bool.eq_iff_iff]
      simp
    show if inV (.int (d : Int)) [.int 0, .int 4] = true then _ else _
    rw [hin]
    by_cases c : d = 0 ∨ d = 4
    · refine if_true_of (decide_eq_true c) ?_
      have e : sideN d = 0 := if_pos c
      have := k _ sm
      rw [e] at this
      exact this
    · refine if_false_of (decide_eq_false c) ?_
      refine ⟨_, rfl, _, _, rfl, rfl, _, rfl, ?_⟩
      by_cases c4 : d < 4
      · refine if_true_of (decide_eq_true (by omega)) ?_
        have e : sideN d = 1 := by unfold sideN; rw [if_neg c, if_pos c4]
        have := k _ sm
        rw [e] at this
        exact this
      · refine if_false_of (decide_eq_false (by omega)) ?_
        have e : sideN d = 2 := by unfold sideN; rw [if_neg c, if_neg c4]
        have := k _ sm
        rw [e] at this
        exact this
end
end Bw
namespace Bw
open PySem PySem.Spec PyProof.Rows L2
open Uw28 (Water)
section
variable {P : Program} {wd : World} {K : PySem.W.Frag} {mg : Str → Option Value} {base : Heap} {C : Addr}
/-! ### next_cell -/
theorem scNext : FnScope ["self", "cell", "heading", "x", "y", "found"] ["self", "cell", "heading"] (defScope sNextCell) := ⟨rfl, rfl, rfl, by decide +kernel, rfl, by decide +kernel, by decide +kernel⟩
theorem okf_next {f : Addr} {fd : FuncData} (F : Fun K "next_cell" "Water.next_cell" sNextCell f fd) (T : Txt K mg C) : FnOk P wd K mg base CX0 1 f fd ["self", "cell", "heading"] (spNextCell C) := by
  refine F.ok scNext (fun vs H Q E h => ?_) (fun cdv A outer s H vs Q E hr h => ?_)
  · obtain ⟨a, ls, w, c, h, rfl, _⟩ := h
    rfl
  · obtain ⟨a, ls, w, c, h, rfl, ⟨dx, lw, lm, h1, h2, h3, h4, n1, n2⟩, ok, h8, k⟩ := h
    obtain ⟨aW, ps, gW, kW, kI⟩ := T.g_WAYS
    obtain ⟨p, hp, kp⟩ := kI h h8
    refine ⟨_, pss_cons (ps_set (i := 3) scNext.nd rfl (Or.inl rfl) (pe_op op_add (pe_op op_modN (pv 1) (pe_fld (pv 0) rfl)) (pe_ix ix_tup (pe_ix ix_tup (pe_glob (v := .ref aW) rfl gW rfl) (pv 2) (fun _ _ => rfl)) pe_int (fun _ _ => rfl))))
      (pss_cons (ps_set (i := 4) scNext.nd rfl (Or.inl rfl) (pe_op op_add (pe_op op_fdivN (pv 1) (pe_fld (pv 0) rfl)) (pe_ix ix_tup (pe_ix ix_tup (pe_glob (v := .ref aW) rfl gW rfl) (pv 2) (fun _ _ => rfl)) pe_int (fun _ _ => rfl))))
      (pss_cons (ps_if (PW.pt (pw_or (pt_not (pt_chain op_le op_lt pe_int (pv 3) (pe_fld (pv 0) rfl))) (pw_or1 (pt_not (pt_chain op_le op_lt pe_int (pv 4) (pe_fld (pv 0) rfl)))))) (pss_one (ps_ret (pe_un un_neg pe_int))) pss_nil)
      (pss_cons (ps_set (i := 5) scNext.nd rfl (Or.inl rfl) (pe_op op_add (pe_op op_mul (pv 4) (pe_fld (pv 0) rfl)) (pv 3)))
      (pss_one (ps_ret (pe_ifExp (pt_cmpR op_in_seq (pv 5) (pe_fld (pv 0) rfl) (by rfl)) (pe_un un_neg pe_int) (pv 5))))))), ?_⟩
    have hps : (ps.map V.ref)[h]? = some (.ref p) := by rw [List.getElem?_map, hp]; rfl
    have w2 := ok.w2
    have w5 := ok.w5
    have hw0 : (w.wide : Int) ≠ 0 := by omega
    refine ⟨_, rfl, _, rfl, a, C, dx, _, _, rfl, h1, T.cl, T.n_wide, wF_wide .., _, _, rfl, rfl, hw0, _, rfl, aW, _, _, _, rfl, rfl, kW H, atI_nat hps, p, _, _, _, rfl, rfl, kp H, atI_nat (j := 0) rfl, _, _, rfl, rfl, ?_⟩
    refine ⟨_, rfl, _, rfl, a, C, dx, _, _, rfl, h1, T.cl, T.n_wide, wF_wide .., _, _, rfl, rfl, ⟨hw0, by show (w.wide : Int).natAbs < 1073741824; omega⟩, _, rfl, aW, _, _, _, rfl, rfl, kW H, atI_nat hps, p, _, _, _, rfl, rfl, kp H, atI_nat (j := 1) rfl, _, _, rfl, rfl, ?_⟩
    -- x and y as letters
    obtain ⟨x, hx⟩ : ∃ x : Int, x = ((c : Int)).fmod (w.wide : Int) + dxs.getD h 0 := ⟨_, rfl⟩
    obtain ⟨y, hy⟩ : ∃ y : Int, y = ((c : Int)).fdiv (w.wide : Int) + dys.getD h 0 := ⟨_, rfl⟩
    obtain ⟨nA, nB⟩ := nextI_eq (w := w) (c := c) h8 x y hx hy
    have hσ : ((start ["self", "cell", "heading", "x", "y", "found"] [V.ref a, V.int (c : Int), V.int (h : Int)]).set 3 (some (V.int (((c : Int)).fmod (w.wide : Int) + dxs.getD h 0)))).set 4 (some (V.int (((c : Int)).fdiv (w.wide : Int) + dys.getD h 0))) = [some (.ref a), some (.int (c : Int)), some (.int (h : Int)), some (.int x), some (.int y), none] := by
      rw [← hx, ← hy]
      rfl
    show (tSeq _ _) _ (((start ["self", "cell", "heading", "x", "y", "found"] [V.ref a, V.int (c : Int), V.int (h : Int)]).set 3 (some (V.int (((c : Int)).fmod (w.wide : Int) + dxs.getD h 0)))).set 4 (some (V.int (((c : Int)).fdiv (w.wide : Int) + dys.getD h 0)))) H
    rw [hσ]
    -- the two ways
    have bad : ¬ (0 ≤ x ∧ x < (w.wide : Int) ∧ 0 ≤ y ∧ y < (w.high : Int)) → Q (.int (-1)) H := fun hn => by
      have := k
      rw [nA hn] at this
      exact this
    refine ⟨_, rfl, _, _, rfl, rfl, _, rfl, ?_⟩
    by_cases c1 : (0 : Int) ≤ x
    · refine if_true_of (decide_eq_true c1) ?_
      refine ⟨_, rfl, a, C, dx, _, _, rfl, h1, T.cl, T.n_wide, wF_wide .., _, _, rfl, rfl, _, rfl, ?_⟩
      by_cases c2 : x < (w.wide : Int)
      · refine if_false_of (by rw [decide_eq_true c2]; rfl) ?_
        refine ⟨_, rfl, _, _, rfl, rfl, _, rfl, ?_⟩
        by_cases c3 : (0 : Int) ≤ y
        · refine if_true_of (decide_eq_true c3) ?_
          refine ⟨_, rfl, a, C, dx, _, _, rfl, h1, T.cl, T.n_high, wF_high .., _, _, rfl, rfl, _, rfl, ?_⟩
          by_cases c4 : y < (w.high : Int)
          · refine if_false_of (by rw [decide_eq_true c4]; rfl) ?_
            obtain ⟨e1, e2⟩ := nB ⟨c1, c2, c3, c4⟩
            have h5 := ok.h5
            refine ⟨_, rfl, _, rfl, a, C, dx, _, _, rfl, h1, T.cl, T.n_wide, wF_wide .., _, _, rfl, rfl, .inl ⟨by omega, by omega⟩, _, rfl, _, _, rfl, rfl, ?_⟩
            refine ⟨_, rfl, _, rfl, a, C, dx, _, _, rfl, h1, T.cl, T.n_shoals, wF_shoals .., ls, _, rfl, .inl (SqL.of h2), rfl, nv_flat _, _, rfl, ?_⟩
            show if inV (.int (y * (w.wide : Int) + x)) (nv w.shoals) = true then _ else _
            rw [e1, inV_nv]
            by_cases c5 : w.shoals.contains (y.toNat * w.wide + x.toNat) = true
            · refine if_true_of c5 ?_
              rw [if_pos c5] at e2
              have := k
              rw [e2] at this
              exact ⟨_, rfl, this⟩
            · refine if_false_of (by simpa using c5) ?_
              rw [if_neg c5] at e2
              have := k
              rw [e2, ← e1] at this
              exact ⟨_, rfl, this⟩
          · refine if_true_of (by rw [decide_eq_false c4]; rfl) ?_
            exact ⟨_, rfl, bad (by omega)⟩
        · refine if_false_of (decide_eq_false c3) ⟨_, rfl, ?_⟩
          exact if_true_of rfl ⟨_, rfl, bad (by omega)⟩
      · refine if_true_of (by rw [decide_eq_false c2]; rfl) ?_
        exact if_true_of rfl ⟨_, rfl, bad (by omega)⟩
    · refine if_false_of (decide_eq_false c1) ⟨_, rfl, ?_⟩
      exact if_true_of rfl (if_true_of rfl ⟨_, rfl, bad (by omega)⟩)
/-! ### taken -/
theorem scTaken : FnScope ["self", "side", "off", "found", "own"] ["self", "side", "off"] (defScope sTaken) := ⟨rfl, rfl, rfl, by decide +kernel, rfl, by decide +kernel, by decide +kernel⟩
theorem okf_taken {f : Addr} {fd : FuncData} (F : Fun K "taken" "Water.taken" sTaken f fd) (T : Txt K mg C) (GS : DefOk P wd K mg base 1 "side_of" ["off"] spSideOf) : FnOk P wd K mg base CX0 2 f fd ["self", "side", "off"] (spTaken C) := by
  refine F.ok scTaken (fun vs H Q E h => ?_) (fun cdv A outer s H vs Q E hr h => ?_)
  · obtain ⟨a, ls, w, s, d, rfl, _⟩ := h
    rfl
  · obtain ⟨a, ls, w, sd, d, rfl, W, ok, d1, d8, k⟩ := h
    refine ⟨_, pss_cons (ps_set (i := 3) scTaken.nd rfl (Or.inl rfl) (pe_ix ix_list (pe_fld (pv 0) rfl) (pe_op op_sub (pe_callB (call_min2 rfl) (by rfl) T.b_min (by decide +kernel) (pa_cons (pv 2) (pa_cons (pe_op op_sub (pe_gi rfl T.g_HEADINGS) (pv 2)) pa_nil))) pe_int) (fun _ _ => rfl)))
      (pss_cons (ps_set (i := 4) scTaken.nd rfl (Or.inl rfl) (pe_def GS hr rfl (pa_cons (pv 2) pa_nil)))
      (pss_cons (ps_if (PW.pt (pw_and (pt_cmpR op_notIn_seq (pe_gi rfl T.g_NO_SIDE) (pe_tup (pa_cons (pv 4) (pa_cons (pv 1) pa_nil))) (by rfl)) (pw_and1 (pt_cmpR op_ne (pv 4) (pv 1) (nomark _)))))
        (pss_one (ps_set (i := 3) scTaken.nd rfl (Or.inl rfl) (pe_op op_add (pv 3) (pe_fld (pv 0) rfl)))) pss_nil)
      (pss_one (ps_ret (pv 3))))), ?_⟩
    obtain ⟨dx, lw, lm, h1, h2, h3, h4, n1, n2⟩ := id W
    refine ⟨_, rfl, a, C, dx, _, _, rfl, h1, T.cl, T.n_minutes, wF_minutes .., _, rfl, _, rfl, _, _, rfl, rfl, _, _, rfl, _, _, rfl, rfl, lm, _, _, _, rfl, rfl, SqL.of h4, at_of (j := min d (8 - d) - 1) ?_ (nv_get (takes_at ok d1 d8)), ?_⟩
    · by_cases c : (8 : Int) - (d : Int) < (d : Int)
      · rw [if_pos c]; omega
      · rw [if_neg c]; omega
    refine ⟨_, rfl, d, rfl, fun H1 s1 => ?_⟩
    refine ⟨_, rfl, _, rfl, (by show 2 ≤ sizeLine; decide), fun p hp => ⟨p, _, rfl, .inr (SqT.of upd_same), rfl, rfl, _, rfl, ?_⟩⟩
    have s2 : Same H (upd H1 p (.tup [.int (sideN d : Nat), .int (sd : Nat)])) := s1.trans (same_new _ hp)
    have hin : inV (.int 0) [.int ((sideN d : Nat) : Int), .int ((sd : Nat) : Int)] = decide (0 = sideN d ∨ 0 = sd) := by
      have := inV_nv 0 [sideN d, sd]
      refine Eq.trans this ?_
      rw [Bool.eq_iff_iff]
      simp
    show if (!inV (.int 0) [.int ((sideN d : Nat) : Int), .int ((sd : Nat) : Int)]) = true then _ else _
    rw [hin]
    have plain : ¬ (sd ≠ 0 ∧ sideN d ≠ 0 ∧ sd ≠ sideN d) → Q (.int ((w.takes.getD (min d (8 - d) - 1) 1 : Nat) : Int)) (upd H1 p (.tup [.int (sideN d : Nat), .int (sd : Nat)])) := fun hn => by
      have := k _ s2
      unfold takenN at this
      rw [if_neg hn] at this
      exact this
    by_cases c : 0 = sideN d ∨ 0 = sd
    · refine if_false_of (by rw [decide_eq_true c]; rfl) ?_
      exact iteF ⟨_, rfl, plain (by omega)⟩
    · refine if_true_of (by rw [decide_eq_false c]; rfl) ?_
      refine ⟨_, rfl, _, rfl, rfl, _, rfl, ?_⟩
      by_cases c2 : sideN d = sd
      · refine if_false_of (by rw [c2]; simp) ?_
        exact ⟨_, rfl, plain (by omega)⟩
      · refine if_true_of (by simp only [V.int.injEq, Bool.not_eq_true', decide_eq_false_iff_not]; omega) ?_
        have g1 := s2 _ _ h1
        refine ⟨_, rfl, _, rfl, a, C, dx, _, _, rfl, g1, T.cl, T.n_turn, wF_turn .., _, _, rfl, rfl, ?_⟩
        have := k _ s2
        unfold takenN at this
        rw [if_pos (by omega)] at this
        exact ⟨_, rfl, this⟩
/-! ### step -/
theorem scStep : FnScope ["self", "state", "heading", "minute", "cell", "side", "off", "there", "own"] ["self", "state", "heading"] (defScope sStep) := ⟨rfl, rfl, rfl, by decide +kernel, rfl, by decide +kernel, by decide +kernel⟩
theorem okf_step {f : Addr} {fd : FuncData} (F : Fun K "step" "Water.step" sStep f fd) (T : Txt K mg C) (GS : DefOk P wd K mg base 1 "side_of" ["off"] spSideOf) (GO : MethOk P wd K mg base C 2 "off_wind" ["self", "minute", "heading"] (spOffWind C))
    (GN : MethOk P wd K mg base C 1 "next_cell" ["self", "cell", "heading"] (spNextCell C)) (GT : MethOk P wd K mg base C 2 "taken" ["self", "side", "off"] (spTaken C)) : FnOk P wd K mg base CX0 3 f fd ["self", "state", "heading"] (spStep C) := by
  refine F.ok scStep (fun vs H Q E h => ?_) (fun cdv A outer s H vs Q E hr h => ?_)
  · obtain ⟨a, ls, q, w, t, c, s, h, rfl, _⟩ := h
    rfl
  · obtain ⟨a, ls, q, w, t, c, sd, h, rfl, W, ok, h8, hq, k⟩ := h
    have hr1 : Room 1 _ := hr.mono (by decide)
    refine ⟨_, pss_cons (ps_asg (pv 1) (pg_tup rfl (pgs_cons (pg_name (i := 3) scStep.nd rfl (.inl rfl)) (pgs_cons (pg_name (i := 4) scStep.nd rfl (.inl rfl)) (pgs_cons (pg_name (i := 5) scStep.nd rfl (.inl rfl)) pgs_nil)))))
      (pss_cons (ps_set (i := 6) scStep.nd rfl (Or.inl rfl) (pe_mth GO hr (pv 0) (pa_cons (pv 3) (pa_cons (pv 2) pa_nil))))
      (pss_cons (ps_set (i := 7) scStep.nd rfl (Or.inl rfl) (pe_mth GN hr1 (pv 0) (pa_cons (pv 4) (pa_cons (pv 2) pa_nil))))
      (pss_cons (ps_if (PW.pt (pw_or (pt_cmpR op_eq (pv 6) pe_int (nomark _)) (pw_or1 (pt_cmpR op_lt (pv 7) pe_int (nomark _))))) (pss_one (ps_ret (pe_tup pa_nil))) pss_nil)
      (pss_cons (ps_set (i := 8) scStep.nd rfl (Or.inl rfl) (pe_def GS hr1 rfl (pa_cons (pv 6) pa_nil)))
      (pss_one (ps_ret (pe_tup (pa_cons (pe_op op_add (pv 3) (pe_mth GT hr (pv 0) (pa_cons (pv 5) (pa_cons (pv 6) pa_nil)))) (pa_cons (pv 7) (pa_cons (pe_ifExp (pt_cmpR op_ne (pv 8) (pe_gi rfl T.g_NO_SIDE) (nomark _)) (pv 8) (pv 5)) pa_nil)))))))))), ?_⟩
    obtain ⟨dx, lw, lm, h1, _⟩ := id W
    refine ⟨_, rfl, q, _, rfl, SqT.of hq, rfl, _, _, rfl, _, _, rfl, _, _, rfl, rfl, ?_⟩
    refine ⟨_, rfl, a, dx, _, rfl, h1, wF_no_off_wind .., _, rfl, _, rfl, a, ls, w, t, h, rfl, W, ok, h8, fun H1 s1 => ?_⟩
    have W1 := W.same s1
    obtain ⟨dx1, lw1, lm1, g1, _⟩ := id W1
    refine ⟨_, rfl, a, dx1, _, rfl, g1, wF_no_next_cell .., _, rfl, _, rfl, a, ls, w, c, h, rfl, W1, ok, h8, ?_⟩
    refine ⟨_, rfl, rfl, _, rfl, ?_⟩
    have none_way : (offN w t h = 0 ∨ nextI w c h < 0) → ∀ p, H1 p = none → Q (.ref p) (upd H1 p (.tup [])) := fun hn p hp => by
      have := k (upd H1 p (.tup [])) p (s1.trans (same_new _ hp))
      rw [stepS_none hn] at this
      exact this upd_same
    by_cases c0 : offN w t h = 0
    · refine if_true_of (by rw [c0]; decide) ?_
      exact iteT ⟨by decide, none_way (.inl c0)⟩
    · refine if_false_of (by simp only [V.int.injEq, decide_eq_false_iff_not]; omega) ?_
      refine ⟨_, rfl, _, _, rfl, rfl, _, rfl, ?_⟩
      by_cases c1 : nextI w c h < 0
      · refine if_true_of (decide_eq_true c1) ?_
        exact ⟨by decide, none_way (.inr c1)⟩
      · refine if_false_of (decide_eq_false c1) ?_
        obtain ⟨d, ed, es⟩ := stepS_is (s := sd) c0 c1
        refine ⟨_, rfl, offN w t h, rfl, fun H2 s2 => ?_⟩
        have W2 := W1.same s2
        obtain ⟨dx2, lw2, lm2, g2, _⟩ := id W2
        refine ⟨_, rfl, _, rfl, a, dx2, _, rfl, g2, wF_no_taken .., _, rfl, _, rfl, a, ls, w, sd, offN w t h, rfl, W2, ok, by omega, offN_lt w t h, fun H3 s3 => ?_⟩
        refine ⟨_, _, rfl, rfl, _, rfl, _, rfl, rfl, _, rfl, ?_⟩
        have fin : ∀ p, H3 p = none → Q (.ref p) (upd H3 p (.tup [.int ((t : Int) + (takenN w sd (offN w t h) : Nat)), .int (nextI w c h), .int ((if sideN (offN w t h) ≠ 0 then sideN (offN w t h) else sd : Nat) : Int)])) := fun p hp => by
          refine k _ p (((s1.trans s2).trans s3).trans (same_new _ hp)) ?_
          rw [upd_same, es, ed]
          rfl
        by_cases c2 : sideN (offN w t h) = 0
        · refine if_false_of (by rw [c2]; decide) ?_
          rw [if_neg (by simpa using c2)] at fin
          exact ⟨_, rfl, by show 3 ≤ sizeLine; decide, fin⟩
        · refine if_true_of (by simp only [V.int.injEq, Bool.not_eq_true', decide_eq_false_iff_not]; omega) ?_
          rw [if_pos c2] at fin
          exact ⟨_, rfl, by show 3 ≤ sizeLine; decide, fin⟩
end
end Bw
namespace Bw
open PySem PySem.Spec PyProof.Rows L2
open Uw28 (Water)
/-! ### dicts by their keys -/
theorem len_sub {α : Type} [DecidableEq α] : ∀ {l m : List α}, l.Nodup → (∀ x ∈ l, x ∈ m) → l.length ≤ m.length
  | [], _, _, _ => Nat.zero_le _
  | a :: l, m, nd, sub => by
    obtain ⟨h1, h2⟩ := List.nodup_cons.mp nd
    have ha : a ∈ m := sub a List.mem_cons_self
    have ih := len_sub (l := l) (m := m.erase a) h2 fun x hx => (List.mem_erase_of_ne (fun (e : x = a) => h1 (by rw [← e]; exact hx))).mpr (sub x (List.mem_cons_of_mem _ hx))
    have := List.length_erase_of_mem ha
    have hp : 0 < m.length := List.length_pos_of_mem ha
    rw [List.length_cons]
    omega
def allKeys : List (List Key) := (List.range 41).flatMap fun t => (List.range 25).flatMap fun c => (List.range 3).map fun s => key t c s
theorem allKeys_len : allKeys.length = 3075 := by decide +kernel
theorem mem_allKeys {t c s : Nat} (ht : t ≤ 40) (hc : c < 25) (hs : s < 3) : key t c s ∈ allKeys := by
  unfold allKeys
  rw [List.mem_flatMap]
  refine ⟨t, List.mem_range.mpr (by omega), ?_⟩
  rw [List.mem_flatMap]
  exact ⟨c, List.mem_range.mpr hc, List.mem_map.mpr ⟨s, List.mem_range.mpr hs, rfl⟩⟩
abbrev Kvs := List (List Key × V)
def Has (kvs : Kvs) (t c s : Nat) : Prop := key t c s ∈ kvs.map (·.1)
theorem put_mem (kvs : Kvs) (k j : List Key) (v : V) : j ∈ (putK kvs k v).map (·.1) ↔ j = k ∨ j ∈ kvs.map (·.1) := by
  have e := valV_put kvs k j v
  constructor
  · intro h
    by_cases hj : j = k
    · exact .inl hj
    · rw [if_neg hj] at e
      cases q : valV kvs j with
      | none => rw [q] at e; exact absurd h (valV_not e)
      | some x => exact .inr (valV_in q)
  · intro h
    by_cases hj : j = k
    · rw [if_pos hj] at e
      exact valV_in e
    · rw [if_neg hj] at e
      have h := h.resolve_left hj
      cases q : valV kvs j with
      | none => exact absurd h (valV_not q)
      | some x => rw [q] at e; exact valV_in e
theorem put_old {kvs : Kvs} {k : List Key} {v x : V} (h : valV kvs k = some x) : (putK kvs k v).map (·.1) = kvs.map (·.1) := by
  unfold putK
  rw [if_pos (by rw [valV_any, h]; rfl), List.map_map]
  refine List.map_congr_left fun p _ => ?_
  show (if p.1 = k then (p.1, v) else p).1 = p.1
  split <;> rfl
theorem put_nd {kvs : Kvs} (k : List Key) (v : V) (h : (kvs.map (·.1)).Nodup) : ((putK kvs k v).map (·.1)).Nodup := by
  cases q : valV kvs k with
  | none => exact nd_putK v h q
  | some x => rw [put_old q]; exact h
theorem has_val {kvs : Kvs} {k : List Key} : k ∈ kvs.map (·.1) ↔ ∃ x, valV kvs k = some x := by
  constructor
  · intro h
    cases q : valV kvs k with
    | none => exact absurd h (valV_not q)
    | some x => exact ⟨x, rfl⟩
  · rintro ⟨x, h⟩
    exact valV_in h
/-! ### what can be come to -/
/-- all keys can be come to, none twice -/
structure RB (w : Water) (kvs : Kvs) : Prop where
  nd : (kvs.map (·.1)).Nodup
  all : ∀ k ∈ kvs.map (·.1), ∃ t c s, k = key t c s ∧ Reach w t c s
theorem RB.len {w : Water} {kvs : Kvs} (h : RB w kvs) (ok : Ok w) : kvs.length ≤ 3075 := by
  have := len_sub (l := kvs.map (·.1)) (m := allKeys) h.nd fun k hk => by
    obtain ⟨t, c, s, rfl, r⟩ := h.all k hk
    obtain ⟨h1, h2, h3⟩ := r.ok ok
    have := ok.cells25
    exact mem_allKeys h1 (by omega) h3
  rw [List.length_map, allKeys_len] at this
  exact this
theorem RB.put {w : Water} {kvs : Kvs} (h : RB w kvs) {t c s : Nat} (r : Reach w t c s) (v : V) : RB w (putK kvs (key t c s) v) :=
  ⟨put_nd _ _ h.nd, fun k hk => by
    rcases (put_mem kvs (key t c s) k v).mp hk with rfl | hk
    · exact ⟨t, c, s, rfl, r⟩
    · exact h.all k hk⟩
def Done (w : Water) (kvs : Kvs) (t c s h : Nat) : Prop := ∀ t' c' s', stepS w t c s h = some (t', c', s') → t' ≤ 40 → Has kvs t' c' s'
theorem Done.put {w : Water} {kvs : Kvs} {t c s h : Nat} (d : Done w kvs t c s h) (k : List Key) (v : V) : Done w (putK kvs k v) t c s h := fun t' c' s' e ht => (put_mem _ _ _ _).mpr (.inr (d t' c' s' e ht))
/-- behind the minutes below i -/
structure RS (w : Water) (i : Nat) (kvs : Kvs) : Prop where
  rb : RB w kvs
  st : Has kvs 0 w.boat 0
  cl : ∀ t c s, t < i → c ≠ w.mark → Has kvs t c s → ∀ h, Done w kvs t c s h
/-- within minute m, from kvs0 -/
structure Mid (w : Water) (m : Nat) (kvs0 kvs : Kvs) : Prop where
  rb : RB w kvs
  sub : ∀ k ∈ kvs0.map (·.1), k ∈ kvs.map (·.1)
  old : ∀ t c s, t ≤ m → Has kvs t c s → Has kvs0 t c s
theorem Mid.refl {w : Water} {m : Nat} {kvs : Kvs} (h : RB w kvs) : Mid w m kvs kvs := ⟨h, fun _ h => h, fun _ _ _ _ h => h⟩
theorem Mid.put {w : Water} {m : Nat} {kvs0 kvs : Kvs} (h : Mid w m kvs0 kvs) {t c s : Nat} (r : Reach w t c s) (hm : m < t) (v : V) : Mid w m kvs0 (putK kvs (key t c s) v) :=
  ⟨h.rb.put r v, fun k hk => (put_mem _ _ _ _).mpr (.inr (h.sub k hk)), fun t' c' s' ht hh => by
    rcases (put_mem _ _ _ _).mp hh with e | hh
    · obtain ⟨rfl, _, _⟩ := key_inj e
      omega
    · exact h.old _ _ _ ht hh⟩
theorem RS.next {w : Water} (ok : Ok w) {i : Nat} {kvs0 kvs : Kvs} (h : RS w i kvs0) (m : Mid w i kvs0 kvs) (hd : ∀ c s, c ≠ w.mark → Has kvs0 i c s → ∀ h, h < 8 → Done w kvs i c s h) : RS w (i + 1) kvs := by
  refine ⟨m.rb, m.sub _ h.st, fun t c s ht hc hh hd' t' c' s' e ht' => ?_⟩
  have h0 := m.old t c s (by omega) hh
  by_cases hti : t < i
  · exact m.sub _ (h.cl t c s hti hc h0 hd' t' c' s' e ht')
  · obtain rfl : t = i := by omega
    have h8 : hd' < 8 := by
      obtain ⟨_, f1, _⟩ := stepS_some e
      exact (next_lt f1).2
    exact hd c s hc h0 hd' h8 t' c' s' e ht'
theorem RS.rk {w : Water} (ok : Ok w) {kvs : Kvs} (h : RS w 41 kvs) : RK w kvs := by
  have hr : ∀ t c s, Reach w t c s → Has kvs t c s := fun t c s r => by
    induction r with
    | start => exact h.st
    | step r hc e ht ih => exact h.cl _ _ _ (by have := (r.ok ok).1; omega) hc ih _ _ _ _ e ht
  refine ⟨fun kv hk => ?_, fun t c s r => ?_⟩
  · obtain ⟨t, c, s, e, r⟩ := h.rb.all kv.1 (List.mem_map.mpr ⟨kv, hk, rfl⟩)
    exact ⟨t, c, s, e, r⟩
  · obtain ⟨kv, hk, e⟩ := List.mem_map.mp (hr t c s r)
    obtain ⟨k, v⟩ := kv
    exact ⟨v, by rw [← e]; exact hk⟩
theorem rs_start {w : Water} (v : V) : RS w 0 [(key 0 w.boat 0, v)] := by
  refine ⟨⟨by simp, fun k hk => ?_⟩, ?_, fun t c s ht => absurd ht (Nat.not_lt_zero _)⟩
  · have : k = key 0 w.boat 0 := by simpa using hk
    exact ⟨_, _, _, this, .start⟩
  · unfold Has
    simp
end Bw
namespace Bw
open PySem PySem.Spec PyProof.Rows L2
open Uw28 (Water)
theorem int_ne {i j : Int} : decide (V.int i = V.int j) = decide (i = j) := by
  rw [Bool.eq_iff_iff]
  simp
section
variable {P : Program} {wd : World} {K : PySem.W.Frag} {mg : Str → Option Value} {base : Heap} {C : Addr}
/-! ### reached -/
/-- the states of a minute, as a list of their tuples -/
structure Some_ (w : Water) (m : Nat) (H : Hp) (ks : List (List Key)) (bs : List Addr) : Prop where
  tup : ∀ b ∈ bs, ∃ c s, H b = some (.tup (st3 m c s)) ∧ c ≠ w.mark ∧ key m c s ∈ ks
  cov : ∀ c s, c ≠ w.mark → key m c s ∈ ks → ∃ b ∈ bs, H b = some (.tup (st3 m c s))
theorem scReached : FnScope ["water", "found", "minute", "state", "some", "heading", "behind"] ["water"] (defScope sReached) := ⟨rfl, rfl, rfl, by decide +kernel, rfl, by decide +kernel, by decide +kernel⟩
theorem okf_reached {f : Addr} {fd : FuncData} (F : Fun K "reached" "reached" sReached f fd) (T : Txt K mg C) (GS : MethOk P wd K mg base C 1 "start" ["self"] (spStart C)) (GT : MethOk P wd K mg base C 3 "step" ["self", "state", "heading"] (spStep C)) :
    FnOk P wd K mg base CX0 4 f fd ["water"] (spReached C) := by
  refine F.ok scReached (fun vs H Q E h => ?_) (fun cdv A outer s H vs Q E hr h => ?_)
  · obtain ⟨a, ls, w, rfl, _⟩ := h
    rfl
  · obtain ⟨a, ls, w, rfl, W, ok, k⟩ := h
    have hr1 : Room 1 _ := hr.mono (by decide)
    have hu := hu_of hr
    refine ⟨_, pss_cons (ps_set (i := 1) scReached.nd rfl (Or.inl rfl) (pe_dispT1 hu (pe_mth0 GS hr1 (pv 0)) pe_bl))
      (pss_cons (ps_for PassesOwn.never rfl (pi_range1 rfl T.b_range (pa_cons (pe_op op_add (pe_gi rfl T.g_MOST_MINUTES) pe_int) pa_nil)) (pg_name (i := 2) scReached.nd rfl (Or.inr rfl))
        (pss_cons (ps_lock (ps_setLc (i := 4) (own := [("state", 3)]) (g := gName 3) (tt := tAnd (tTest (tOp rEq (tOp (rIxT K) (tVar 3) (tC (.int 0))) (tVar 2))) (tTest (tOp rNe (tOp (rIxT K) (tVar 3) (tC (.int 1))) (tFld K (tVar 0) "mark")))) (te := tVar 3) rfl scReached.nd rfl rfl (sw_true rfl rfl rfl (by decide +kernel)) (pi_keys (pv 1)) (blkOk_by (N := ["water", "found", "minute", "state", "some", "heading", "behind"]) (sc := defScope sReached) (by decide +kernel))
            (fun _ _ _ _ _ => pg_name (i := 3) scReached.nd rfl (Or.inl rfl))
            (fun _ _ _ _ _ => by exact (pts_one (PW.pt (pw_and (pt_cmpR op_eq (pe_ix ix_tup (pv 3) pe_int (fun _ _ => rfl)) (pv 2) (nomark _)) (pw_and1 (pt_cmpR op_ne (pe_ix ix_tup (pv 3) pe_int (fun _ _ => rfl)) (pe_fld (pv 0) rfl) (nomark _)))))))
            (fun _ _ _ _ _ => by exact (pv 3))))
        (pss_one (ps_for PassesOwn.never rfl (pi_list (pv 4)) (pg_name (i := 3) scReached.nd rfl (Or.inl rfl))
          (pss_one (ps_for PassesOwn.never rfl (pi_range1 rfl T.b_range (pa_cons (pe_gi rfl T.g_HEADINGS) pa_nil)) (pg_name (i := 5) scReached.nd rfl (Or.inl rfl))
            (pss_cons (ps_set (i := 6) scReached.nd rfl (Or.inl rfl) (pe_mth GT hr (pv 0) (pa_cons (pv 3) (pa_cons (pv 5) pa_nil))))
            (pss_one (ps_if (PW.pt (pw_and (pt_cmpR (op_neD hr.units) (pv 6) (pe_tup pa_nil) (nomark _)) (pw_and1 (pt_cmpR op_le (pe_ix ix_tup (pv 6) pe_int (fun _ _ => rfl)) (pe_gi rfl T.g_MOST_MINUTES) (nomark _)))))
              (pss_one (ps_dput hu (pv 1) (pv 6) pe_bl rfl)) pss_nil)))))))))
      (pss_one (ps_ret (pv 1)))), ?_⟩
    -- found = {water.start(): True}
    intro d hd
    have s0 : Same H (upd H d (.dT [])) := same_new _ hd
    have W0 := W.same s0
    obtain ⟨dx0, lw0, lm0, g0, _⟩ := id W0
    refine ⟨_, rfl, a, dx0, _, rfl, g0, wF_no_start .., a, ls, w, rfl, W0, fun H1 p s1 hp => ?_⟩
    refine ⟨p, key 0 w.boat 0, rfl, hp, s1 _ _ upd_same, ?_⟩
    have S1 : Same H (upd H1 d (.dT [(key 0 w.boat 0, .bl true)])) := fun b o e => by
      rw [upd_ne (ne_of_none e hd)]
      exact s1 _ _ (s0 _ _ e)
    -- the minutes
    refine ⟨_, _, rfl, rfl, (41 : Int), rfl, (by decide), (by decide), for_range (lo := 0) (n := 41) (fun i σ H' => ∃ (kvs : Kvs) (v2 v3 v4 v5 v6 : Option V), σ = [some (.ref a), some (.ref d), v2, v3, v4, v5, v6] ∧ Same H H' ∧ H' d = some (.dT kvs) ∧ RS w i kvs) ?_ ?_ ?_⟩
    · exact ⟨_, none, none, none, none, none, rfl, S1, upd_same, rs_start _⟩
    · rintro i σ H2 hi ⟨kvs, v2, v3, v4, v5, v6, rfl, S2, hd2, R⟩
      have W2 := W.same S2
      obtain ⟨dx2, lw2, lm2, g2, _⟩ := id W2
      have hlen := R.rb.len ok
      -- some = [..], found locked
      refine ⟨d, .dT kvs, hd2, trivial, fun od => ?_⟩
      refine ⟨_, rfl, d, od, rfl, .inr ⟨kvs, upd_same, ?_⟩⟩
      intro D nD
      have hDd : d ≠ D := ne_of_none (upd_same (H := H2) (a := d) (o := .frz od (.dT kvs))) nD
      have nD2 : H2 D = none := by rw [upd_ne (Ne.symm hDd)] at nD; exact nD
      have ga : upd H2 d (.frz od (.dT kvs)) a = some (.ins C dx2 (wF w ls lw2 lm2)) := by
        rw [upd_ne (ne_of g2 hd2 (fun z => nomatch z))]
        exact g2
      refine lc_it walk_keysT (fun j H' => ∃ bs : List Addr, H' = upd (upd H2 d (.frz od (.dT kvs))) D (.lst (bs.map V.ref)) ∧ bs.length ≤ j ∧ Some_ w i H2 ((kvs.take j).map (·.1)) bs) ⟨[], rfl, Nat.le_refl _, ⟨fun b hb => by simp at hb, fun c s _ h => by simp at h⟩⟩ ?_ ?_ ?_
      · rintro j H' hj ⟨bs, rfl, _⟩
        rw [upd_ne hDd]
        exact upd_same
      · rintro j x H' H'' hj ⟨bs, rfl, hbl, SO⟩ ⟨rfl, kk, v, q, hk, rfl, hq⟩
        obtain ⟨t, c, sd, rfl, r⟩ := R.rb.all kk (List.mem_map.mpr ⟨(kk, v), List.mem_of_getElem? hk, rfl⟩)
        have hqD : q ≠ D := fun z => by rw [z, upd_same] at hq; cases hq
        have hqd : q ≠ d := fun z => by rw [z, upd_ne hDd, upd_same] at hq; cases hq
        have hq2 : H2 q = some (.tup (st3 t c sd)) := by rw [upd_ne hqD, upd_ne hqd] at hq; exact hq
        have hq' : SqT K (upd (upd H2 d (.frz od (.dT kvs))) D (.lst (bs.map V.ref))) q (st3 t c sd) := SqT.of hq
        have haD : a ≠ D := ne_of_none ga nD
        have ga' : upd (upd H2 d (.frz od (.dT kvs))) D (.lst (bs.map V.ref)) a = some (.ins C dx2 (wF w ls lw2 lm2)) := by rw [upd_ne haD]; exact ga
        have tk : (kvs.take (j + 1)).map (·.1) = (kvs.take j).map (·.1) ++ [key t c sd] := by
          rw [List.take_add_one, hk, List.map_append]
          rfl
        have no : ¬ (t = i ∧ c ≠ w.mark) → ∃ bs' : List Addr, upd (upd H2 d (.frz od (.dT kvs))) D (.lst (bs.map V.ref)) = upd (upd H2 d (.frz od (.dT kvs))) D (.lst (bs'.map V.ref)) ∧ bs'.length ≤ j + 1 ∧ Some_ w i H2 ((kvs.take (j + 1)).map (·.1)) bs' := fun hn => by
          refine ⟨bs, rfl, by omega, ?_⟩
          rw [tk]
          refine ⟨fun b hb => ?_, fun c' s' hc' h' => ?_⟩
          · obtain ⟨c', s', h1, h2, h3⟩ := SO.tup b hb
            exact ⟨c', s', h1, h2, List.mem_append_left _ h3⟩
          · rcases List.mem_append.mp h' with h' | h'
            · exact SO.cov c' s' hc' h'
            · obtain ⟨e1, e2, e3⟩ := key_inj (List.mem_singleton.mp h')
              exact absurd ⟨e1.symm, by rw [← e2]; exact hc'⟩ hn
        refine ⟨rfl, ?_⟩
        refine ⟨_, rfl, q, _, _, _, rfl, rfl, hq', atI_nat (j := 0) rfl, _, rfl, rfl, _, rfl, ?_⟩
        by_cases ct : t = i
        · refine if_true_of (by rw [int_ne]; exact decide_eq_true (by omega)) ?_
          refine ⟨_, rfl, q, _, _, _, rfl, rfl, hq', atI_nat (j := 1) rfl, _, rfl, a, C, dx2, _, _, rfl, ga', T.cl, T.n_mark, wF_mark .., rfl, _, rfl, ?_⟩
          by_cases cc : c = w.mark
          · refine if_false_of (by rw [cc]; simp) ?_
            exact no (fun z => z.2 cc)
          · refine if_true_of (by simp only [V.int.injEq, Bool.not_eq_true', decide_eq_false_iff_not]; omega) ?_
            refine ⟨_, rfl, _, upd_same, ?_, bs ++ [q], ?_, ?_, ?_⟩
            · rw [List.length_map, sizeLine_eq]
              omega
            · rw [upd_upd, List.map_append]
              rfl
            · rw [List.length_append, List.length_singleton]
              omega
            · subst ct
              rw [tk]
              refine ⟨fun b hb => ?_, fun c' s' hc' h' => ?_⟩
              · rcases List.mem_append.mp hb with hb | hb
                · obtain ⟨c', s', h1, h2, h3⟩ := SO.tup b hb
                  exact ⟨c', s', h1, h2, List.mem_append_left _ h3⟩
                · rw [List.mem_singleton.mp hb]
                  exact ⟨c, sd, hq2, cc, List.mem_append_right _ (List.mem_singleton.mpr rfl)⟩
              · rcases List.mem_append.mp h' with h' | h'
                · obtain ⟨b, hb, h1⟩ := SO.cov c' s' hc' h'
                  exact ⟨b, List.mem_append_left _ hb, h1⟩
                · obtain ⟨_, rfl, rfl⟩ := key_inj (List.mem_singleton.mp h')
                  exact ⟨q, List.mem_append_right _ (List.mem_singleton.mpr rfl), hq2⟩
        · refine if_false_of (by rw [int_ne]; exact decide_eq_false (by omega)) ?_
          exact iteF (no (fun z => ct z.1))
      · rintro H' ⟨bs, rfl, hbl, SO⟩
        rw [List.take_length] at SO
        refine ⟨by rw [upd_ne hDd]; exact upd_same, ?_⟩
        -- the heap ahead of the loops
        obtain ⟨H3, hH3⟩ : ∃ H3, H3 = upd (upd (upd H2 d (.frz od (.dT kvs))) D (.lst (bs.map V.ref))) d (.dT kvs) := ⟨_, rfl⟩
        have h3d : H3 d = some (.dT kvs) := by rw [hH3]; exact upd_same
        have h3D : H3 D = some (.lst (bs.map V.ref)) := by rw [hH3, upd_ne (Ne.symm hDd)]; exact upd_same
        have h3 : ∀ b o, H2 b = some o → b ≠ d → H3 b = some o := fun b o e hb => by
          rw [hH3, upd_ne hb, upd_ne (ne_of_none e nD2), upd_ne hb]
          exact e
        rw [← hH3]
        have S3 : Same H H3 := fun b o e => h3 b o (S2 b o e) (ne_of_none e hd)
        refine ⟨_, rfl, D, rfl, ⟨_, SqL.of h3D⟩, for_list (K := K) (a := D) (xs := bs.map V.ref) (fun j σ H' => ∃ (kvs' : Kvs) (v2 v3 v5 v6 : Option V), σ = [some (.ref a), some (.ref d), v2, v3, some (.ref D), v5, v6] ∧ (∀ b o, H3 b = some o → b ≠ d → H' b = some o) ∧ H' d = some (.dT kvs') ∧ Mid w i kvs kvs' ∧
          ∀ j', j' < j → ∀ b c s, bs[j']? = some b → H3 b = some (.tup (st3 i c s)) → ∀ h, h < 8 → Done w kvs' i c s h) ?_ ?_ ?_ ?_⟩
        · exact ⟨kvs, _, _, _, _, rfl, fun b o e _ => e, h3d, Mid.refl R.rb, fun j' hj => absurd hj (Nat.not_lt_zero _)⟩
        · rintro j σ H' hj ⟨kvs', v2, v3, v5, v6, rfl, hS, hd', _⟩
          exact SqL.of (hS _ _ h3D (Ne.symm hDd))
        · rintro j x σ H' hj ⟨kvs', v2, v3, v5, v6, rfl, hS, hd', M, DN⟩
          obtain ⟨b, hb, rfl⟩ : ∃ b, bs[j]? = some b ∧ x = V.ref b := by
            rw [List.getElem?_map] at hj
            cases e : bs[j]? with
            | none => rw [e] at hj; cases hj
            | some b => rw [e] at hj; exact ⟨b, rfl, (Option.some.inj hj).symm⟩
          obtain ⟨c, sd, hbt, hcm, hck⟩ := SO.tup b (List.mem_of_getElem? hb)
          have hb3 : H3 b = some (.tup (st3 i c sd)) := h3 b _ hbt (ne_of hbt hd2 (fun z => nomatch z))
          have hbd : b ≠ d := ne_of hbt hd2 (fun z => nomatch z)
          have rc : Reach w i c sd := by
            obtain ⟨t', c', s', e, r⟩ := R.rb.all _ hck
            obtain ⟨rfl, rfl, rfl⟩ := key_inj e
            exact r
          -- the headings
          refine ⟨_, rfl, (by decide), (by decide), for_range (lo := 0) (n := 8) (fun h σ H4 => ∃ (kvs4 : Kvs) (v2 v5 v6 : Option V), σ = [some (.ref a), some (.ref d), v2, some (.ref b), some (.ref D), v5, v6] ∧ (∀ b o, H3 b = some o → b ≠ d → H4 b = some o) ∧ H4 d = some (.dT kvs4) ∧ Mid w i kvs kvs4 ∧
            (∀ j', j' < j → ∀ b c s, bs[j']? = some b → H3 b = some (.tup (st3 i c s)) → ∀ h, h < 8 → Done w kvs4 i c s h) ∧ ∀ h', h' < h → Done w kvs4 i c sd h') ?_ ?_ ?_⟩
          · exact ⟨kvs', _, _, _, rfl, hS, hd', M, DN, fun h' hh => absurd hh (Nat.not_lt_zero _)⟩
          · rintro h σ H4 hh ⟨kvs4, v2, v5, v6, rfl, hS4, hd4, M4, DN4, DH⟩
            have W3 : WatAt C H3 a ls w := W.same S3
            have W4 : WatAt C H4 a ls w := W3.but h3d ⟨fun xs z => (nomatch z), fun _ _ _ z => (nomatch z)⟩ hS4
            obtain ⟨dx4, lw4, lm4, g4, _⟩ := id W4
            have hint : V.int ((0 : Int) + (h : Int)) = V.int ((h : Nat) : Int) := by rw [Int.zero_add]
            refine ⟨_, rfl, a, dx4, _, rfl, g4, wF_no_step .., _, rfl, _, rfl, a, ls, b, w, i, c, sd, h, by rw [← hint]; rfl, W4, ok, hh, hS4 b _ hb3 hbd, fun H5 q s5 hq => ?_⟩
            have hd5 := s5 _ _ hd4
            have hS5 : ∀ b o, H3 b = some o → b ≠ d → H5 b = some o := fun b o e hb => s5 _ _ (hS4 b o e hb)
            refine ⟨_, rfl, by decide, fun e0 he0 => ?_⟩
            have s6 : Same H5 (upd H5 e0 (.tup [])) := same_new _ he0
            have hS6 : ∀ b o, H3 b = some o → b ≠ d → upd H5 e0 (.tup []) b = some o := fun b o e hb => s6 _ _ (hS5 b o e hb)
            have hd6 := s6 _ _ hd5
            have hq6 := s6 _ _ hq
            refine rNe_tup (ns := encI (stepS w i c sd h)) (by rw [← enc_iv]; exact SqT.of hq6) (SqT.of upd_same) ⟨_, rfl, ?_⟩
            rw [encI_empty]
            -- the heading leads nowhere, or too late
            have skip : Done w kvs4 i c sd h → ∃ (kvs4' : Kvs) (v2' v5' v6' : Option V), [some (V.ref a), some (V.ref d), v2, some (V.ref b), some (V.ref D), some (V.int (0 + (h : Int))), some (V.ref q)] = [some (V.ref a), some (V.ref d), v2', some (V.ref b), some (V.ref D), v5', v6'] ∧ (∀ b o, H3 b = some o → b ≠ d → upd H5 e0 (.tup []) b = some o) ∧ upd H5 e0 (.tup []) d = some (.dT kvs4') ∧ Mid w i kvs kvs4' ∧
                (∀ j', j' < j → ∀ b c s, bs[j']? = some b → H3 b = some (.tup (st3 i c s)) → ∀ h, h < 8 → Done w kvs4' i c s h) ∧ ∀ h', h' < h + 1 → Done w kvs4' i c sd h' := fun hd' =>
              ⟨kvs4, _, _, _, rfl, hS6, hd6, M4, DN4, fun h' hlt => by
                by_cases e : h' = h
                · rw [e]; exact hd'
                · exact DH h' (by omega)⟩
            cases es : stepS w i c sd h with
            | none =>
              refine iteF (iteF (skip ?_))
              intro t' c' s' e
              rw [es] at e
              cases e
            | some r =>
              obtain ⟨t', c', s'⟩ := r
              refine iteT ?_
              rw [es] at hq6
              refine ⟨_, rfl, q, _, _, _, rfl, rfl, SqT.of hq6, atI_nat (j := 0) rfl, _, _, rfl, rfl, _, rfl, ?_⟩
              by_cases ct : t' ≤ 40
              · refine if_true_of (decide_eq_true (by omega)) ?_
                have hl4 := M4.rb.len ok
                refine ⟨_, rfl, _, rfl, d, _, rfl, DPut.t (k := key t' c' s') hd6 hq6 (by rw [sizeLine_eq]; omega), ?_⟩
                have hst := stepS_lt ok (rc.ok ok).2.2 es
                have r' : Reach w t' c' s' := .step rc hcm es ct
                refine ⟨_, _, _, _, rfl, fun b o e hb => ?_, upd_same, M4.put r' hst.1 _, fun j' hj' b c s h1 h2 h h8 => (DN4 j' hj' b c s h1 h2 h h8).put _ _, fun h' hlt => ?_⟩
                · rw [upd_ne hb]
                  exact hS6 b o e hb
                · by_cases e : h' = h
                  · intro t2 c2 s2 e2 _
                    rw [e, es] at e2
                    cases e2
                    exact (put_mem _ _ _ _).mpr (.inl rfl)
                  · exact (DH h' (by omega)).put _ _
              · refine if_false_of (decide_eq_false (by omega)) (skip ?_)
                intro t2 c2 s2 e2 h2
                rw [es] at e2
                cases e2
                exact absurd h2 ct
          · rintro σ H4 ⟨kvs4, v2, v5, v6, rfl, hS4, hd4, M4, DN4, DH⟩
            refine ⟨kvs4, _, _, _, _, rfl, hS4, hd4, M4, fun j' hj' b' c' s' h1 h2 h h8 => ?_⟩
            by_cases e : j' = j
            · rw [e, hb] at h1
              cases h1
              rw [hb3] at h2
              have e2 : st3 i c sd = st3 i c' s' := HO.tup.inj (Option.some.inj h2)
              have e3 : c = c' ∧ sd = s' := by
                unfold st3 at e2
                simp only [List.cons.injEq, V.int.injEq, and_true, true_and] at e2
                omega
              obtain ⟨rfl, rfl⟩ := e3
              exact DH h h8
            · exact DN4 j' (by omega) b' c' s' h1 h2 h h8
        · rintro σ H' ⟨kvs', v2, v3, v5, v6, rfl, hS, hd', M, DN⟩
          refine ⟨kvs', _, _, _, _, _, rfl, fun b o e => hS b o (S3 b o e) (ne_of_none e hd), hd', R.next ok M fun c s hc hk h h8 => ?_⟩
          obtain ⟨b, hb, hbt⟩ := SO.cov c s hc hk
          obtain ⟨j', hj', hbj⟩ := List.mem_iff_getElem.mp hb
          refine DN j' (by rw [List.length_map]; exact hj') b c s (by rw [List.getElem?_eq_getElem hj', hbj]) (h3 b _ hbt (ne_of hbt hd2 (fun z => nomatch z))) h h8
    · rintro σ H' ⟨kvs, v2, v3, v4, v5, v6, rfl, S2, hd2, R⟩
      have hlen := R.rb.len ok
      exact ⟨_, rfl, k H' d kvs S2 hd hd2 (R.rk ok) (by omega)⟩
end
end Bw
namespace Bw
open PySem PySem.Spec PyProof.Rows L2
open Uw28 (Water)
section
variable {P : Program} {wd : World} {K : PySem.W.Frag} {mg : Str → Option Value} {base : Heap} {C : Addr}
/-! ### soonest_minute -/
theorem scSoonMin : FnScope ["water", "minutes", "state"] ["water"] (defScope sSoonMin) := ⟨rfl, rfl, rfl, by decide +kernel, rfl, by decide +kernel, by decide +kernel⟩
theorem okf_soonMin {f : Addr} {fd : FuncData} (F : Fun K "soonest_minute" "soonest_minute" sSoonMin f fd) (T : Txt K mg C) (GR : DefOk P wd K mg base 4 "reached" ["water"] (spReached C)) :
    FnOk P wd K mg base CX0 5 f fd ["water"] (spSoonMin C) := by
  refine F.ok scSoonMin (fun vs H Q E h => ?_) (fun cdv A outer s H vs Q E hr h => ?_)
  · obtain ⟨a, ls, w, rfl, _⟩ := h
    rfl
  · obtain ⟨a, ls, w, rfl, W, ok, k⟩ := h
    refine ⟨_, pss_cons (ps_setLc (i := 1) (own := [("state", 2)]) (g := gName 2) (tt := tTest (tOp rEq (tOp (rIxT K) (tVar 2) (tC (.int 1))) (tFld K (tVar 0) "mark"))) (te := tOp (rIxT K) (tVar 2) (tC (.int 0))) rfl scSoonMin.nd rfl rfl (sw_true rfl rfl rfl (by decide +kernel))
        (pi_keys (pe_freeze (pe_def GR hr rfl (pa_cons (pv 0) pa_nil)))) (blkOk_by (N := ["water", "minutes", "state"]) (sc := defScope sSoonMin) (by decide +kernel))
        (fun _ _ _ _ _ => pg_name (i := 2) scSoonMin.nd rfl (Or.inl rfl))
        (fun _ _ _ _ _ => by exact (pts_one (pt_cmpR op_eq (pe_ix ix_tup (pv 2) pe_int (fun _ _ => rfl)) (pe_fld (pv 0) rfl) (nomark _))))
        (fun _ _ _ _ _ => by exact (pe_ix ix_tup (pv 2) pe_int (fun _ _ => rfl))))
      (pss_one (ps_ret (pe_ifExp (pt_cmpR (op_neD hr.units) (pv 1) (pe_lst pa_nil) (nomark _)) (pe_callB (cr_min rfl) (by rfl) T.b_min (by decide +kernel) (pa_cons (pv 1) pa_nil)) (pe_un un_neg pe_int)))), ?_⟩
    refine ⟨_, rfl, a, ls, w, rfl, W, ok, fun H1 d kvs S1 hd hd1 R hlen => ?_⟩
    refine ⟨d, .dT kvs, rfl, hd1, trivial, fun od => ⟨d, od, rfl, .inr ⟨kvs, upd_same, ?_⟩⟩⟩
    intro D nD
    have hDd : d ≠ D := ne_of_none (upd_same (H := H1) (a := d) (o := .frz od (.dT kvs))) nD
    have S2 : Same H (upd H1 d (.frz od (.dT kvs))) := fun b o e => by
      rw [upd_ne (ne_of_none e hd)]
      exact S1 b o e
    obtain ⟨dx, lw, lm, g1, _⟩ := W.same S2
    have SD : ∀ ms : List Nat, Same H (upd (upd H1 d (.frz od (.dT kvs))) D (.lst (nv ms))) := fun ms => S2.trans (same_new _ nD)
    refine lc_it walk_keysT (fun j H' => ∃ ms : List Nat, H' = upd (upd H1 d (.frz od (.dT kvs))) D (.lst (nv ms)) ∧ ms.length ≤ j ∧ (∀ m ∈ ms, ∃ s, Reach w m w.mark s) ∧ ∀ t s, key t w.mark s ∈ (kvs.take j).map (·.1) → t ∈ ms) ⟨[], rfl, Nat.le_refl _, fun m hm => by simp at hm, fun t s h => by simp at h⟩ ?_ ?_ ?_
    · rintro j H' hj ⟨ms, rfl, _⟩
      rw [upd_ne hDd]
      exact upd_same
    · rintro j x H' H'' hj ⟨ms, rfl, hml, hA, hB⟩ ⟨rfl, kk, v, q, hk, rfl, hq⟩
      obtain ⟨t, c, sd, e, r⟩ := R.all (kk, v) (List.mem_of_getElem? hk)
      have e : kk = key t c sd := e
      subst e
      have hq' : SqT K (upd (upd H1 d (.frz od (.dT kvs))) D (.lst (nv ms))) q (st3 t c sd) := SqT.of hq
      have ga' : upd (upd H1 d (.frz od (.dT kvs))) D (.lst (nv ms)) a = some (.ins C dx (wF w ls lw lm)) := by
        rw [upd_ne (ne_of_none g1 nD)]
        exact g1
      have tk : (kvs.take (j + 1)).map (·.1) = (kvs.take j).map (·.1) ++ [key t c sd] := by
        rw [List.take_add_one, hk, List.map_append]
        rfl
      refine ⟨rfl, ?_⟩
      refine ⟨_, rfl, q, _, _, _, rfl, rfl, hq', atI_nat (j := 1) rfl, _, rfl, a, C, dx, _, _, rfl, ga', T.cl, T.n_mark, wF_mark .., rfl, _, rfl, ?_⟩
      by_cases cc : c = w.mark
      · refine if_true_of (by rw [cc]; simp) ?_
        refine ⟨_, rfl, q, _, _, _, rfl, rfl, hq', atI_nat (j := 0) rfl, _, upd_same, ?_, ms ++ [t], ?_, ?_, ?_, ?_⟩
        · rw [nv_length, sizeLine_eq]
          omega
        · rw [upd_upd]
          unfold nv
          rw [List.map_append]
          rfl
        · rw [List.length_append, List.length_singleton]
          omega
        · intro m hm
          rcases List.mem_append.mp hm with hm | hm
          · exact hA m hm
          · rw [List.mem_singleton.mp hm]
            exact ⟨sd, by rw [← cc]; exact r⟩
        · intro t' s' h'
          rw [tk] at h'
          rcases List.mem_append.mp h' with h' | h'
          · exact List.mem_append_left _ (hB t' s' h')
          · obtain ⟨e1, _, _⟩ := key_inj (List.mem_singleton.mp h')
            exact List.mem_append_right _ (List.mem_singleton.mpr e1)
      · refine if_false_of (by rw [int_ne]; exact decide_eq_false (by omega)) ?_
        refine ⟨ms, rfl, by omega, hA, fun t' s' h' => ?_⟩
        rw [tk] at h'
        rcases List.mem_append.mp h' with h' | h'
        · exact hB t' s' h'
        · obtain ⟨_, e2, _⟩ := key_inj (List.mem_singleton.mp h')
          exact absurd e2.symm cc
    · rintro H' ⟨ms, rfl, hml, hA, hB⟩
      rw [List.take_length] at hB
      have cov : ∀ t s, Reach w t w.mark s → t ∈ ms := fun t s r => by
        obtain ⟨v, hv⟩ := R.has t w.mark s r
        exact hB t s (List.mem_map.mpr ⟨_, hv, rfl⟩)
      refine ⟨_, rfl, by decide, fun l hl => ?_⟩
      have hDl : upd (upd (upd H1 d (.frz od (.dT kvs))) D (.lst (nv ms))) l (.lst []) D = some (.lst (nv ms)) := by
        rw [upd_ne (ne_of_none upd_same hl)]
        exact upd_same
      have SF := (SD ms).trans (same_new (.lst []) hl)
      have hDs : SqL K (upd (upd (upd H1 d (.frz od (.dT kvs))) D (.lst (nv ms))) l (.lst [])) D (iv (ms.map fun (n : Nat) => (n : Int))) := by
        rw [← nv_iv]
        exact SqL.of hDl
      refine rNe_list hDs (SqL.of upd_same) ⟨_, rfl, ?_⟩
      by_cases em : ms = []
      · refine if_false_of (by rw [em]; rfl) ⟨_, rfl, k _ (-1) SF (.inl ⟨rfl, fun t s r => ?_⟩)⟩
        have := cov t s r
        rw [em] at this
        simp at this
      · refine if_true_of (by simpa using em) ?_
        refine ⟨_, rfl, D, _, rfl, hDs, by rw [List.length_map]; exact List.length_pos_iff.mpr em, fun m hm hle => ?_⟩
        obtain ⟨n, hn, rfl⟩ := List.mem_map.mp hm
        obtain ⟨s', r⟩ := hA n hn
        refine k _ _ SF (.inr ⟨n, s', rfl, r, fun t s r' => ?_⟩)
        have := hle _ (List.mem_map.mpr ⟨t, cov t s r', rfl⟩)
        exact Int.ofNat_le.mp this
/-! ### first_good -/
theorem scFirst : FnScope ["water", "found", "state", "heading", "behind"] ["water", "found", "state"] (defScope sFirst) := ⟨rfl, rfl, rfl, by decide +kernel, rfl, by decide +kernel, by decide +kernel⟩
theorem okf_first {f : Addr} {fd : FuncData} (F : Fun K "first_good" "first_good" sFirst f fd) (T : Txt K mg C) (GT : MethOk P wd K mg base C 3 "step" ["self", "state", "heading"] (spStep C)) :
    FnOk P wd K mg base CX0 4 f fd ["water", "found", "state"] (spFirst C) := by
  refine F.ok scFirst (fun vs H Q E h => ?_) (fun cdv A outer s H vs Q E hr h => ?_)
  · obtain ⟨a, ls, d, q, w, kvs, t, c, s, rfl, _⟩ := h
    rfl
  · obtain ⟨a, ls, d, q, w, kvs, t, c, sd, rfl, W, ok, hd, hq, k⟩ := h
    have hu := hu_of hr
    refine ⟨_, pss_cons (ps_for PassesOwn.never rfl (pi_range1 rfl T.b_range (pa_cons (pe_gi rfl T.g_HEADINGS) pa_nil)) (pg_name (i := 3) scFirst.nd rfl (Or.inl rfl))
        (pss_cons (ps_set (i := 4) scFirst.nd rfl (Or.inl rfl) (pe_mth GT hr (pv 0) (pa_cons (pv 2) (pa_cons (pv 3) pa_nil))))
        (pss_one (ps_if (PW.pt (pw_and (pt_cmpR (op_neD hr.units) (pv 4) (pe_tup pa_nil) (nomark _)) (pw_and1 (pt_cmp (pc_din hu (pv 4) (pv 1)))))) (pss_one (ps_ret (pv 3))) pss_nil))))
      (pss_one (ps_ret (pe_un un_neg pe_int))), ?_⟩
    refine ⟨_, rfl, (by decide), (by decide), for_range (lo := 0) (n := 8) (fun h σ H' => ∃ v3 v4 : Option V, σ = [some (.ref a), some (.ref d), some (.ref q), v3, v4] ∧ Same H H' ∧ ∀ h', h' < h → ∀ t' c' s', stepS w t c sd h' = some (t', c', s') → valV kvs (key t' c' s') = none) ?_ ?_ ?_⟩
    · exact ⟨_, _, rfl, Same.refl H, fun h' hh => absurd hh (Nat.not_lt_zero _)⟩
    · rintro h σ H1 hh ⟨v3, v4, rfl, S1, NO⟩
      have W1 := W.same S1
      obtain ⟨dx1, lw1, lm1, g1, _⟩ := id W1
      have hint : V.int ((0 : Int) + (h : Int)) = V.int ((h : Nat) : Int) := by rw [Int.zero_add]
      refine ⟨_, rfl, a, dx1, _, rfl, g1, wF_no_step .., _, rfl, _, rfl, a, ls, q, w, t, c, sd, h, by rw [← hint]; rfl, W1, ok, hh, S1 _ _ hq, fun H2 p s2 hp => ?_⟩
      refine ⟨_, rfl, by decide, fun e0 he0 => ?_⟩
      have s3 : Same H2 (upd H2 e0 (.tup [])) := same_new _ he0
      have S3 : Same H (upd H2 e0 (.tup [])) := (S1.trans s2).trans s3
      have hp3 := s3 _ _ hp
      refine rNe_tup (ns := encI (stepS w t c sd h)) (by rw [← enc_iv]; exact SqT.of hp3) (SqT.of upd_same) ⟨_, rfl, ?_⟩
      rw [encI_empty]
      have skip : (∀ t' c' s', stepS w t c sd h = some (t', c', s') → valV kvs (key t' c' s') = none) → ∀ h', h' < h + 1 → ∀ t' c' s', stepS w t c sd h' = some (t', c', s') → valV kvs (key t' c' s') = none := fun hn h' hlt => by
        by_cases e : h' = h
        · rw [e]; exact hn
        · exact NO h' (by omega)
      cases es : stepS w t c sd h with
      | none =>
        refine iteF (iteF ⟨_, _, rfl, S3, skip fun t' c' s' e => ?_⟩)
        rw [es] at e
        cases e
      | some r =>
        obtain ⟨t', c', s'⟩ := r
        refine iteT ?_
        rw [es] at hp3
        refine ⟨_, rfl, _, rfl, d, _, rfl, DGet.t (k := key t' c' s') (S3 _ _ hd) hp3, _, rfl, ?_⟩
        cases ev : valV kvs (key t' c' s') with
        | none =>
          refine iteF ⟨_, _, rfl, S3, skip fun t2 c2 s2 e => ?_⟩
          rw [es] at e
          cases e
          exact ev
        | some x =>
          refine iteT ⟨_, rfl, ?_⟩
          rw [hint]
          exact k _ _ S3 (.inr ⟨h, rfl, ⟨t', c', s', x, es, ev⟩, NO⟩)
    · rintro σ H1 ⟨v3, v4, rfl, S1, NO⟩
      exact ⟨_, rfl, k _ _ S1 (.inl ⟨rfl, NO⟩)⟩
end
end Bw
namespace Bw
open PySem PySem.Spec PyProof.Rows L2
open Uw28 (Water)
/-! ### the good states, plainly -/
structure GB (w : Water) (v : Nat) (kvs : Kvs) : Prop where
  nd : (kvs.map (·.1)).Nodup
  bnd : ∀ k ∈ kvs.map (·.1), ∃ t c s, k = key t c s ∧ t ≤ v ∧ c < w.cells ∧ s < 3
  tell : ∀ t c s x, valV kvs (key t c s) = some x → Arr w v t c s ∧ ((c = w.mark ∧ x = .int (-1)) ∨ (c ≠ w.mark ∧ ∃ h : Nat, x = .int (h : Int) ∧ FirstH w v t c s h))
theorem GB.len {w : Water} {v : Nat} {kvs : Kvs} (h : GB w v kvs) (ok : Ok w) (hv : v ≤ 40) : kvs.length ≤ 3075 := by
  have := len_sub (l := kvs.map (·.1)) (m := allKeys) h.nd fun k hk => by
    obtain ⟨t, c, s, rfl, h1, h2, h3⟩ := h.bnd k hk
    have := ok.cells25
    exact mem_allKeys (by omega) (by omega) h3
  rw [List.length_map, allKeys_len] at this
  exact this
theorem gb_nil (w : Water) (v : Nat) : GB w v [] := ⟨List.nodup_nil, fun k hk => by simp at hk, fun t c s x h => by simp [valV] at h⟩
theorem GB.put {w : Water} {v : Nat} {kvs : Kvs} (g : GB w v kvs) {t c s : Nat} {x : V} (ht : t ≤ v) (hc : c < w.cells) (hs : s < 3)
    (h : Arr w v t c s ∧ ((c = w.mark ∧ x = .int (-1)) ∨ (c ≠ w.mark ∧ ∃ h : Nat, x = .int (h : Int) ∧ FirstH w v t c s h))) : GB w v (putK kvs (key t c s) x) := by
  refine ⟨put_nd _ _ g.nd, fun k hk => ?_, fun t' c' s' x' e => ?_⟩
  · rcases (put_mem _ _ _ _).mp hk with rfl | hk
    · exact ⟨t, c, s, rfl, ht, hc, hs⟩
    · exact g.bnd k hk
  · rw [valV_put] at e
    by_cases hk : key t' c' s' = key t c s
    · obtain ⟨rfl, rfl, rfl⟩ := key_inj hk
      rw [if_pos rfl] at e
      cases e
      exact h
    · rw [if_neg hk] at e
      exact g.tell _ _ _ _ e
theorem put_has {kvs : Kvs} {k j : List Key} {x : V} (h : ∃ y, valV kvs j = some y) : ∃ y, valV (putK kvs k x) j = some y := by
  rw [valV_put]
  by_cases e : j = k
  · exact ⟨x, if_pos e⟩
  · rw [if_neg e]
    exact h
theorem put_at (kvs : Kvs) (k : List Key) (x : V) : ∃ y, valV (putK kvs k x) k = some y := ⟨x, by rw [valV_put, if_pos rfl]⟩
/-- the minutes within n of the last are whole -/
def Whole (w : Water) (v n : Nat) (kvs : Kvs) : Prop := ∀ t c s, t ≤ v → v - t < n → c < w.cells → s < 3 → Arr w v t c s → ∃ x, valV kvs (key t c s) = some x
theorem Whole.put {w : Water} {v n : Nat} {kvs : Kvs} (h : Whole w v n kvs) (k : List Key) (x : V) : Whole w v n (putK kvs k x) := fun t c s h1 h2 h3 h4 a => put_has (h t c s h1 h2 h3 h4 a)
theorem arr_last {w : Water} (ok : Ok w) {v c s : Nat} (hs : s < 3) (a : Arr w v v c s) : c = w.mark := by
  refine Classical.byContradiction fun hc => ?_
  obtain ⟨h, t', c', s', e, a'⟩ := a.cases hc
  have q := stepS_lt ok hs e
  have := a'.le ok q.2.2.1
  omega
/-- what first_good tells, where all later minutes are whole -/
theorem fg_tells {w : Water} (ok : Ok w) {v n t c s : Nat} {kvs : Kvs} {r : Int} (g : GB w v kvs) (hw : Whole w v n kvs) (hs : s < 3) (ht : v - t ≤ n) (hf : FG w kvs t c s r) (hc : c ≠ w.mark) :
    (r < 0 → ¬ Arr w v t c s) ∧ (0 ≤ r → ∃ h : Nat, r = (h : Int) ∧ Arr w v t c s ∧ FirstH w v t c s h) := by
  have key_arr : ∀ h t' c' s', stepS w t c s h = some (t', c', s') → valV kvs (key t' c' s') = none → ¬ Arr w v t' c' s' := fun h t' c' s' e hn a => by
    have q := stepS_lt ok hs e
    have hle := a.le ok q.2.2.1
    obtain ⟨x, hx⟩ := hw t' c' s' hle (by omega) q.2.1 q.2.2.1 a
    rw [hn] at hx
    cases hx
  rcases hf with ⟨rfl, hn⟩ | ⟨h, rfl, ⟨t', c', s', x, e, hx⟩, hno⟩
  · refine ⟨fun _ a => ?_, fun h => absurd h (by decide)⟩
    obtain ⟨h, t', c', s', e, a'⟩ := a.cases hc
    exact key_arr h t' c' s' e (hn h (stepS_lt ok hs e).2.2.2 t' c' s' e) a'
  · have a' := (g.tell t' c' s' x hx).1
    refine ⟨fun h => absurd h (by omega), fun _ => ⟨h, rfl, .step hc e a', ⟨⟨t', c', s', e, a'⟩, fun h' hlt t2 c2 s2 e2 => key_arr h' t2 c2 s2 e2 (hno h' hlt t2 c2 s2 e2)⟩⟩⟩
section
variable {P : Program} {wd : World} {K : PySem.W.Frag} {mg : Str → Option Value} {base : Heap} {C : Addr}
/-! ### good_states -/
theorem scGood : FnScope ["water", "last", "found", "side", "back", "cell", "state", "heading"] ["water", "last"] (defScope sGood) := ⟨rfl, rfl, rfl, by decide +kernel, rfl, by decide +kernel, by decide +kernel⟩
theorem okf_good {f : Addr} {fd : FuncData} (F : Fun K "good_states" "good_states" sGood f fd) (T : Txt K mg C) (GC : MethOk P wd K mg base C 1 "cells" ["self"] (spCells C)) (GF : DefOk P wd K mg base 4 "first_good" ["water", "found", "state"] (spFirst C)) :
    FnOk P wd K mg base CX0 5 f fd ["water", "last"] (spGood C) := by
  refine F.ok scGood (fun vs H Q E h => ?_) (fun cdv A outer s H vs Q E hr h => ?_)
  · obtain ⟨a, ls, w, v, rfl, _⟩ := h
    rfl
  · obtain ⟨a, ls, w, v, rfl, W, ok, hv, k⟩ := h
    have hu := hu_of hr
    have hr1 : Room 1 _ := hr.mono (by decide)
    refine ⟨_, pss_cons (ps_set (i := 2) scGood.nd rfl (Or.inl rfl) pe_dnewT)
      (pss_cons (ps_for PassesOwn.never rfl (pi_range1 rfl T.b_range (pa_cons (pe_gi rfl T.g_SIDES) pa_nil)) (pg_name (i := 3) scGood.nd rfl (Or.inl rfl))
        (pss_one (ps_dput hu (pv 2) (pe_tup (pa_cons (pv 1) (pa_cons (pe_fld (pv 0) rfl) (pa_cons (pv 3) pa_nil)))) (pe_un un_neg pe_int) rfl)))
      (pss_cons (ps_for PassesOwn.never rfl (pi_range2 rfl T.b_range (pa_cons pe_int (pa_cons (pe_op op_add (pv 1) pe_int) pa_nil))) (pg_name (i := 4) scGood.nd rfl (Or.inl rfl))
        (pss_one (ps_for PassesOwn.never rfl (pi_range1 rfl T.b_range (pa_cons (pe_mth0 GC hr1 (pv 0)) pa_nil)) (pg_name (i := 5) scGood.nd rfl (Or.inl rfl))
          (pss_one (ps_for PassesOwn.never rfl (pi_range1 rfl T.b_range (pa_cons (pe_gi rfl T.g_SIDES) pa_nil)) (pg_name (i := 3) scGood.nd rfl (Or.inl rfl))
            (pss_cons (ps_set (i := 6) scGood.nd rfl (Or.inl rfl) (pe_tup (pa_cons (pe_op op_sub (pv 1) (pv 4)) (pa_cons (pv 5) (pa_cons (pv 3) pa_nil)))))
            (pss_cons (ps_set (i := 7) scGood.nd rfl (Or.inl rfl) (pe_def GF hr rfl (pa_cons (pv 0) (pa_cons (pv 2) (pa_cons (pv 6) pa_nil)))))
            (pss_one (ps_if (PW.pt (pw_and (pt_cmpR op_ne (pv 5) (pe_fld (pv 0) rfl) (nomark _)) (pw_and1 (pt_cmpR op_ge (pv 7) pe_int (nomark _))))) (pss_one (ps_dput hu (pv 2) (pv 6) (pv 7) rfl)) pss_nil)))))))))
      (pss_one (ps_ret (pv 2))))), ?_⟩
    -- found = {}
    intro d hd
    have notw : (∀ xs, (HO.dT ([] : Kvs)) ≠ .lst xs) := fun xs z => nomatch z
    -- what stays: all that stood, and d's dict
    have wat : ∀ H' : Hp, Same H H' → WatAt C H' a ls w := fun H' S => W.same S
    -- the last minute's three
    refine ⟨(3 : Int), rfl, (by decide), (by decide), for_range (lo := 0) (n := 3) (fun j σ H' => ∃ (kvs : Kvs) (v3 : Option V), σ = [some (.ref a), some (.int (v : Int)), some (.ref d), v3, none, none, none, none] ∧ Same H H' ∧ H' d = some (.dT kvs) ∧ GB w v kvs ∧ ∀ s', s' < j → ∃ x, valV kvs (key v w.mark s') = some x) ?_ ?_ ?_⟩
    · exact ⟨[], none, rfl, same_new _ hd, upd_same, gb_nil w v, fun s' h => absurd h (Nat.not_lt_zero _)⟩
    · rintro j σ H1 hj ⟨kvs, v3, rfl, S1, hd1, G, hs⟩
      obtain ⟨dx, lw, lm, g1, _⟩ := wat H1 S1
      have hint : V.int ((0 : Int) + (j : Int)) = V.int ((j : Nat) : Int) := by rw [Int.zero_add]
      refine ⟨_, rfl, _, rfl, _, rfl, _, rfl, a, C, dx, _, _, rfl, g1, T.cl, T.n_mark, wF_mark .., _, rfl, (by show 3 ≤ sizeLine; decide), fun q hq => ?_⟩
      have s2 := same_new (H := H1) (.tup [.int (v : Int), .int (w.mark : Int), .int ((0 : Int) + (j : Int))]) hq
      have hl := G.len ok hv
      have hqt : upd H1 q (.tup [.int (v : Int), .int (w.mark : Int), .int ((0 : Int) + (j : Int))]) q = some (.tup ((key v w.mark j).map kV)) := by
        rw [upd_same, hint]
        rfl
      refine ⟨d, _, rfl, DPut.t (k := key v w.mark j) (s2 _ _ hd1) hqt (by rw [sizeLine_eq]; omega), ?_⟩
      refine ⟨_, _, rfl, fun b o e => ?_, upd_same, G.put (Nat.le_refl v) ok.mc hj ⟨.here j, .inl ⟨rfl, rfl⟩⟩, fun s' hs' => ?_⟩
      · rw [upd_ne (ne_of_none e hd)]
        exact s2 _ _ (S1 b o e)
      · by_cases e : s' = j
        · rw [e]
          exact put_at _ _ _
        · exact put_has (hs s' (by omega))
    · rintro σ H1 ⟨kvs, v3, rfl, S1, hd1, G, hs⟩
      have hW : Whole w v 1 kvs := fun t c s' h1 h2 h3 h4 ar => by
        obtain rfl : t = v := by omega
        rw [arr_last ok h4 ar]
        exact hs s' h4
      -- backwards
      refine ⟨_, rfl, _, _, rfl, rfl, (1 : Int), (v : Int) + 1, rfl, ⟨by decide, by decide, by omega, by omega⟩, for_range (lo := 1) (n := ((v : Int) + 1 - 1).toNat) (fun i σ H' => ∃ (kvs : Kvs) (v3 v4 v5 v6 v7 : Option V), σ = [some (.ref a), some (.int (v : Int)), some (.ref d), v3, v4, v5, v6, v7] ∧ Same H H' ∧ H' d = some (.dT kvs) ∧ GB w v kvs ∧ Whole w v (i + 1) kvs) ?_ ?_ ?_⟩
      · exact ⟨kvs, _, _, _, _, _, rfl, S1, hd1, G, hW⟩
      · rintro i σ H2 hi ⟨kvs2, v3, v4, v5, v6, v7, rfl, S2, hd2, G2, hW2⟩
        have hiv : i + 1 ≤ v := by omega
        obtain ⟨dx2, lw2, lm2, g2, _⟩ := wat H2 S2
        have c25 := ok.cells25
        refine ⟨_, rfl, a, dx2, _, rfl, g2, wF_no_cells .., a, ls, w, rfl, wat H2 S2, ok, (w.cells : Int), rfl, by omega, by omega, for_range (lo := 0) (n := ((w.cells : Int)).toNat) (fun j σ H' => ∃ (kvs : Kvs) (v3 v5 v6 v7 : Option V), σ = [some (.ref a), some (.int (v : Int)), some (.ref d), v3, some (.int (1 + (i : Int))), v5, v6, v7] ∧ Same H H' ∧ H' d = some (.dT kvs) ∧ GB w v kvs ∧ Whole w v (i + 1) kvs ∧
          ∀ c s', c < j → s' < 3 → Arr w v (v - (i + 1)) c s' → ∃ x, valV kvs (key (v - (i + 1)) c s') = some x) ?_ ?_ ?_⟩
        · exact ⟨kvs2, _, _, _, _, rfl, S2, hd2, G2, hW2, fun c s' hc => absurd hc (Nat.not_lt_zero _)⟩
        · rintro j σ H3 hj ⟨kvs3, v3, v5, v6, v7, rfl, S3, hd3, G3, hW3, hC3⟩
          have hjc : j < w.cells := by omega
          refine ⟨(3 : Int), rfl, (by decide), (by decide), for_range (lo := 0) (n := 3) (fun m σ H' => ∃ (kvs : Kvs) (v3 v6 v7 : Option V), σ = [some (.ref a), some (.int (v : Int)), some (.ref d), v3, some (.int (1 + (i : Int))), some (.int (0 + (j : Int))), v6, v7] ∧ Same H H' ∧ H' d = some (.dT kvs) ∧ GB w v kvs ∧ Whole w v (i + 1) kvs ∧
            (∀ c s', c < j → s' < 3 → Arr w v (v - (i + 1)) c s' → ∃ x, valV kvs (key (v - (i + 1)) c s') = some x) ∧ ∀ s', s' < m → Arr w v (v - (i + 1)) j s' → ∃ x, valV kvs (key (v - (i + 1)) j s') = some x) ?_ ?_ ?_⟩
          · exact ⟨kvs3, _, _, _, rfl, S3, hd3, G3, hW3, hC3, fun s' h => absurd h (Nat.not_lt_zero _)⟩
          · rintro m σ H4 hm ⟨kvs4, v3, v6, v7, rfl, S4, hd4, G4, hW4, hC4, hS4⟩
            refine ⟨_, rfl, _, rfl, _, _, rfl, rfl, _, rfl, _, rfl, (by show 3 ≤ sizeLine; decide), fun q hq => ?_⟩
            have hst : [V.int ((v : Int) - (1 + (i : Int))), V.int (0 + (j : Int)), V.int (0 + (m : Int))] = st3 (v - (i + 1)) j m := by
              unfold st3
              rw [Int.zero_add, Int.zero_add, show (v : Int) - (1 + (i : Int)) = ((v - (i + 1) : Nat) : Int) by omega]
            have s5 : Same H4 (upd H4 q (.tup [V.int ((v : Int) - (1 + (i : Int))), V.int (0 + (j : Int)), V.int (0 + (m : Int))])) := same_new _ hq
            have S5 := S4.trans s5
            have hq5 : upd H4 q (.tup [V.int ((v : Int) - (1 + (i : Int))), V.int (0 + (j : Int)), V.int (0 + (m : Int))]) q = some (.tup (st3 (v - (i + 1)) j m)) := by
              rw [upd_same, hst]
            refine ⟨_, rfl, _, rfl, _, rfl, a, ls, d, q, w, kvs4, v - (i + 1), j, m, rfl, wat _ S5, ok, s5 _ _ hd4, hq5, fun H6 r s6 hf => ?_⟩
            have S6 := S5.trans s6
            have hd6 := s6 _ _ (s5 _ _ hd4)
            have hq6 := s6 _ _ hq5
            obtain ⟨dx6, lw6, lm6, g6, _⟩ := wat _ S6
            -- nothing is stored
            have skip : ¬ Arr w v (v - (i + 1)) j m → ∃ (kvs : Kvs) (v3' v6' v7' : Option V), [some (V.ref a), some (V.int (v : Int)), some (V.ref d), some (V.int (0 + (m : Int))), some (V.int (1 + (i : Int))), some (V.int (0 + (j : Int))), some (V.ref q), some (V.int r)] = [some (V.ref a), some (V.int (v : Int)), some (V.ref d), v3', some (V.int (1 + (i : Int))), some (V.int (0 + (j : Int))), v6', v7'] ∧ Same H H6 ∧ H6 d = some (.dT kvs) ∧ GB w v kvs ∧ Whole w v (i + 1) kvs ∧
                (∀ c s', c < j → s' < 3 → Arr w v (v - (i + 1)) c s' → ∃ x, valV kvs (key (v - (i + 1)) c s') = some x) ∧ ∀ s', s' < m + 1 → Arr w v (v - (i + 1)) j s' → ∃ x, valV kvs (key (v - (i + 1)) j s') = some x := fun hn =>
              ⟨kvs4, _, _, _, rfl, S6, hd6, G4, hW4, hC4, fun s' hs' ar => by
                by_cases e : s' = m
                · rw [e] at ar
                  exact absurd ar hn
                · exact hS4 s' (by omega) ar⟩
            refine ⟨_, rfl, _, rfl, a, C, dx6, _, _, rfl, g6, T.cl, T.n_mark, wF_mark .., rfl, _, rfl, ?_⟩
            by_cases cm : j = w.mark
            · refine if_false_of (by rw [int_ne, decide_eq_true (by omega)]; rfl) (iteF (skip fun ar => ?_))
              rw [cm] at ar
              have := ar.at_mark
              omega
            · refine if_true_of (by rw [int_ne, decide_eq_false (by omega)]; rfl) ?_
              obtain ⟨fn, fy⟩ := fg_tells ok G4 hW4 hm (by omega) hf cm
              refine ⟨_, rfl, _, _, rfl, rfl, _, rfl, ?_⟩
              by_cases cr : (0 : Int) ≤ r
              · refine if_true_of (decide_eq_true cr) ?_
                obtain ⟨h, rfl, ar, fh⟩ := fy cr
                have hl := G4.len ok hv
                refine ⟨_, rfl, _, rfl, _, rfl, d, _, rfl, DPut.t (k := key (v - (i + 1)) j m) hd6 hq6 (by rw [sizeLine_eq]; omega), ?_⟩
                refine ⟨_, _, _, _, rfl, fun b o e => ?_, upd_same, G4.put (by omega) hjc hm ⟨ar, .inr ⟨cm, h, rfl, fh⟩⟩, hW4.put _ _, fun c s' hc hs' ar' => put_has (hC4 c s' hc hs' ar'), fun s' hs' ar' => ?_⟩
                · rw [upd_ne (ne_of_none e hd)]
                  exact S6 b o e
                · by_cases e : s' = m
                  · rw [e]
                    exact put_at _ _ _
                  · exact put_has (hS4 s' (by omega) ar')
              · refine if_false_of (decide_eq_false cr) (skip (fn (by omega)))
          · rintro σ H4 ⟨kvs4, v3, v6, v7, rfl, S4, hd4, G4, hW4, hC4, hS4⟩
            refine ⟨kvs4, _, _, _, _, rfl, S4, hd4, G4, hW4, fun c s' hc hs' ar => ?_⟩
            by_cases e : c = j
            · rw [e] at ar ⊢
              exact hS4 s' hs' ar
            · exact hC4 c s' (by omega) hs' ar
        · rintro σ H3 ⟨kvs3, v3, v5, v6, v7, rfl, S3, hd3, G3, hW3, hC3⟩
          refine ⟨kvs3, _, _, _, _, _, rfl, S3, hd3, G3, fun t c s' h1 h2 h3 h4 ar => ?_⟩
          by_cases e : v - t < i + 1
          · exact hW3 t c s' h1 e h3 h4 ar
          · obtain rfl : t = v - (i + 1) := by omega
            exact hC3 c s' (by omega) h4 ar
      · rintro σ H2 ⟨kvs2, v3, v4, v5, v6, v7, rfl, S2, hd2, G2, hW2⟩
        refine ⟨_, rfl, k H2 d kvs2 S2 hd2 ⟨fun t c s' x _ h => G2.tell t c s' x h, fun t c s' h1 h2 h3 ar => hW2 t c s' h1 (by omega) h2 h3 ar⟩⟩
/-! ### soonest_way -/
theorem scWay : FnScope ["water", "last", "good", "state", "found"] ["water", "last"] (defScope sWay) := ⟨rfl, rfl, rfl, by decide +kernel, rfl, by decide +kernel, by decide +kernel⟩
theorem okf_way {f : Addr} {fd : FuncData} (F : Fun K "soonest_way" "soonest_way" sWay f fd) (T : Txt K mg C) (GS : MethOk P wd K mg base C 1 "start" ["self"] (spStart C)) (GT : MethOk P wd K mg base C 3 "step" ["self", "state", "heading"] (spStep C)) (GG : DefOk P wd K mg base 5 "good_states" ["water", "last"] (spGood C)) :
    FnOk P wd K mg base CX0 6 f fd ["water", "last"] (spWay C) := by
  refine F.ok scWay (fun vs H Q E h => ?_) (fun cdv A outer s H vs Q E hr h => ?_)
  · obtain ⟨a, ls, w, v, rfl, _⟩ := h
    rfl
  · obtain ⟨a, ls, w, v, rfl, W, ok, SO, k⟩ := h
    have hu := hu_of hr
    have hr1 : Room 1 _ := hr.mono (by decide)
    have hr3 : Room 3 _ := hr.mono (by decide)
    refine ⟨_, pss_cons (ps_set (i := 2) scWay.nd rfl (Or.inl rfl) (pe_def GG hr rfl (pa_cons (pv 0) (pa_cons (pv 1) pa_nil))))
      (pss_cons (ps_set (i := 3) scWay.nd rfl (Or.inl rfl) (pe_mth0 GS hr1 (pv 0)))
      (pss_cons (ps_set (i := 4) scWay.nd rfl (Or.inl rfl) (pe_lst pa_nil))
      (pss_cons (ps_while PassesOwn.never (pt_cmpR op_ge (pe_dget hu (pv 2) (pv 3) (fun _ _ => rfl)) pe_int (nomark _))
        (pss_cons (ps_expr (pe_bm PySem.F.plainAttrs_list PySem.F.slot_list_append PySem.F.type_list_append mt_append (pv 4) (pa_cons (pe_dget hu (pv 2) (pv 3) (fun _ _ => rfl)) pa_nil)))
        (pss_one (ps_set (i := 3) scWay.nd rfl (Or.inl rfl) (pe_mth GT hr3 (pv 0) (pa_cons (pv 3) (pa_cons (pe_dget hu (pv 2) (pv 3) (fun _ _ => rfl)) pa_nil)))))))
      (pss_one (ps_ret (pv 4)))))), ?_⟩
    refine ⟨_, rfl, _, rfl, a, ls, w, v, rfl, W, ok, SO.le, fun H1 d kvs S1 hd1 G => ?_⟩
    have W1 := W.same S1
    obtain ⟨dx1, lw1, lm1, g1, _⟩ := id W1
    refine ⟨_, rfl, a, dx1, _, rfl, g1, wF_no_start .., a, ls, w, rfl, W1, fun H2 q0 s2 hq0 => ?_⟩
    refine ⟨by decide, fun p hp => ?_⟩
    have S2 := S1.trans s2
    have S3 : Same H2 (upd H2 p (.lst [])) := same_new _ hp
    have hpH : H p = none := S2.free hp
    -- W: the invariant
    refine ⟨fun m σ H' => ∃ (q : Addr) (t c sd fu : Nat) (done : List Nat), σ = [some (.ref a), some (.int (v : Int)), some (.ref d), some (.ref q), some (.ref p)] ∧ (∀ b o, H2 b = some o → b ≠ p → H' b = some o) ∧ H' q = some (.tup (st3 t c sd)) ∧ H' p = some (.lst (nv done)) ∧ Reach w t c sd ∧ Arr w v t c sd ∧
      done ++ w.way (w.tables 40) v fu t c sd = w.way (w.tables 40) v 40 0 w.boat 0 ∧ fu + done.length = 40 ∧ done.length ≤ t ∧ m = v - t, ⟨_, q0, 0, w.boat, 0, 40, [], rfl, fun b o e hb => by rw [upd_ne hb]; exact e, S3 _ _ hq0, upd_same, .start, SO.arr, rfl, rfl, Nat.le_refl _, rfl⟩, ?_⟩
    rintro m σ H' ⟨q, t, c, sd, fu, done, rfl, hS, hq, hpl, re, ar, hway, hfu, hdl, rfl⟩
    have hdp : d ≠ p := ne_of_none (s2 _ _ hd1) hp
    have hd' : H' d = some (.dT kvs) := hS d _ (s2 _ _ hd1) hdp
    obtain ⟨r1, r2, r3⟩ := re.ok ok
    have htv := ar.le ok r3
    obtain ⟨x, hx⟩ := G.has t c sd htv r2 r3 ar
    have hget : DGet H' d (.ref q) (some x) := by
      have := DGet.t (k := key t c sd) hd' hq
      rw [hx] at this
      exact this
    obtain ⟨_, hcase⟩ := G.tell t c sd x r3 hx
    rcases hcase with ⟨hc, rfl⟩ | ⟨hc, h, rfl, fh⟩
    · -- the mark
      refine ⟨_, rfl, _, rfl, d, _, rfl, hget, _, _, rfl, rfl, _, rfl, ?_⟩
      refine if_false_of (by decide) ⟨_, rfl, k H' p (fun b o e => hS b o (S2 b o e) (ne_of_none e hpH)) hpH ?_⟩
      rw [← hway, hc, way_mark, List.append_nil]
      exact hpl
    · obtain ⟨t', c', s', es, ar'⟩ := fh.to
      have hst := stepS_lt ok r3 es
      have ht' := ar'.le ok hst.2.2.1
      have hv40 := SO.le
      obtain ⟨fu', rfl⟩ : ∃ fu', fu = fu' + 1 := ⟨fu - 1, by omega⟩
      refine ⟨_, rfl, _, rfl, d, _, rfl, hget, _, _, rfl, rfl, _, rfl, ?_⟩
      refine if_true_of (decide_eq_true (by omega)) ⟨fun σ' H'' => ∃ m', m' < v - t ∧ ∃ (q : Addr) (t c sd fu : Nat) (done : List Nat), σ' = [some (.ref a), some (.int (v : Int)), some (.ref d), some (.ref q), some (.ref p)] ∧ (∀ b o, H2 b = some o → b ≠ p → H'' b = some o) ∧ H'' q = some (.tup (st3 t c sd)) ∧ H'' p = some (.lst (nv done)) ∧ Reach w t c sd ∧ Arr w v t c sd ∧
        done ++ w.way (w.tables 40) v fu t c sd = w.way (w.tables 40) v 40 0 w.boat 0 ∧ fu + done.length = 40 ∧ done.length ≤ t ∧ m' = v - t, fun σ' H'' z => z, ?_⟩
      have hqp : q ≠ p := ne_of hq hpl (fun z => nomatch z)
      refine ⟨_, rfl, .inl ⟨rfl, _, SqL.of hpl⟩, _, rfl, _, rfl, d, _, rfl, hget, p, _, _, rfl, rfl, hpl, by rw [nv_length, sizeLine_eq]; omega, ?_⟩
      -- behind the append
      obtain ⟨H4, hH4⟩ : ∃ H4, H4 = upd H' p (.lst (nv done ++ [V.int (h : Int)])) := ⟨_, rfl⟩
      have h4 : ∀ b o, H' b = some o → b ≠ p → H4 b = some o := fun b o e hb => by rw [hH4, upd_ne hb]; exact e
      have h4p : H4 p = some (.lst (nv (done ++ [h]))) := by
        rw [hH4, upd_same]
        unfold nv
        rw [List.map_append]
        rfl
      rw [← hH4]
      have W4 : WatAt C H4 a ls w := by
        obtain ⟨dx, lw, lm, k1, k2, k3, k4, k5⟩ := W.same S2
        have np : ∀ b o, H2 b = some o → b ≠ p := fun b o e => ne_of_none e hp
        exact ⟨dx, lw, lm, h4 _ _ (hS _ _ k1 (np _ _ k1)) (np _ _ k1), h4 _ _ (hS _ _ k2 (np _ _ k2)) (np _ _ k2), h4 _ _ (hS _ _ k3 (np _ _ k3)) (np _ _ k3), h4 _ _ (hS _ _ k4 (np _ _ k4)) (np _ _ k4), k5⟩
      obtain ⟨dx4, lw4, lm4, g4, _⟩ := id W4
      have hq4 := h4 _ _ hq hqp
      have hd4 := h4 _ _ hd' hdp
      have hget4 : DGet H4 d (.ref q) (some (.int (h : Int))) := by
        have := DGet.t (k := key t c sd) hd4 hq4
        rw [hx] at this
        exact this
      refine ⟨_, rfl, a, dx4, _, rfl, g4, wF_no_step .., _, rfl, _, rfl, _, rfl, d, _, rfl, hget4, a, ls, q, w, t, c, sd, h, rfl, W4, ok, hst.2.2.2, hq4, fun H5 q5 s5 hq5 => ?_⟩
      rw [es] at hq5
      refine ⟨v - t', by omega, q5, t', c', s', fu', done ++ [h], rfl, fun b o e hb => s5 _ _ (h4 _ _ (hS b o e hb) hb), hq5, s5 _ _ h4p, .step re hc es (by omega), ar', ?_, by rw [List.length_append, List.length_singleton]; omega, by rw [List.length_append, List.length_singleton]; omega, rfl⟩
      rw [← hway, way_step ok SO re hc fh es, List.append_assoc]
      rfl
end
end Bw
namespace Bw
open PySem PySem.Spec PyProof.Rows L2
open Uw28 (Water)
theorem wat_get {C : Addr} {H : Hp} {a ls : Addr} {w : Water} (W : WatAt C H a ls w) : ∃ o, H a = some o := by
  obtain ⟨dx, lw, lm, h1, _⟩ := W
  exact ⟨_, h1⟩
theorem same_at {H H' : Hp} {a : Addr} (S : Same H H') (h : ∃ o, H a = some o) : H' a = H a := by
  obtain ⟨o, h⟩ := h
  rw [h]
  exact S a o h
theorem does_mono {N N' : Addr → Prop} {C : Addr} {H H1 : Hp} {Q : VK} {a ls : Addr} {w : Water} {c : Uw28.Call} (D : DoesN N C H Q a ls w c) (W : WatAt C H a ls w) (S : Same H H1) (hN : ∀ nf, N nf → N' nf) : DoesN N' C H1 Q a ls w c := fun H' p W' fr hA hp hp' =>
  D H' p W' (fun b o e h1 h2 => fr b o (S b o e) h1 h2) (fun nf hn aw => hA nf (hN nf hn) (aw.keep (same_at S (wat_get W)))) (S.free hp) hp'
/-- a call that leaves the water -/
theorem does_plain {N : Addr → Prop} {C : Addr} {H H1 : Hp} {Q : VK} {a ls : Addr} {w : Water} {c : Uw28.Call} (D : DoesN N C H Q a ls w c) (W : WatAt C H a ls w) (S : Same H H1) (e : (Uw28.step w c).1 = w) {xs : List V} (ex : outV w c = xs) : ∀ p, H1 p = none → Q (.ref p) (upd H1 p (.lst xs)) := fun p hp =>
  D _ p (by rw [e]; exact W.same (S.trans (same_new _ hp))) (fun b o q _ _ => (S.trans (same_new _ hp)) b o q) (fun nf _ aw => aw.keep (same_at (S.trans (same_new _ hp)) (wat_get W))) (S.free hp) (by rw [ex]; exact upd_same)
/-- a call that changed the water, from H to H1, and then answers a new list -/
theorem does_done {N : Addr → Prop} {C : Addr} {H H1 : Hp} {Q : VK} {a ls : Addr} {w : Water} {c : Uw28.Call} (D : DoesN N C H Q a ls w c) (W : WatAt C H1 a ls (Uw28.step w c).1) (fr : ∀ b o, H b = some o → b ≠ a → b ≠ ls → H1 b = some o) (hA : ∀ nf, N nf → Away C H a nf → Away C H1 a nf) (h0 : ∀ p, H1 p = none → H p = none) {xs : List V} (ex : outV w c = xs) : ∀ p, H1 p = none → Q (.ref p) (upd H1 p (.lst xs)) := fun p hp =>
  D _ p (W.same (same_new _ hp)) (fun b o q h1 h2 => (same_new _ hp) b o (fr b o q h1 h2)) (fun nf hn aw => (hA nf hn aw).keep (same_at (same_new _ hp) (wat_get W))) (h0 p hp) (by rw [ex]; exact upd_same)
section
variable {P : Program} {wd : World} {K : PySem.W.Frag} {mg : Str → Option Value} {base : Heap} {C : Addr}
/-! ### is_size -/
theorem scSize : FnScope ["number"] ["number"] (defScope sIsSize) := ⟨rfl, rfl, rfl, by decide +kernel, rfl, by decide +kernel, by decide +kernel⟩
theorem okf_size {f : Addr} {fd : FuncData} (F : Fun K "is_size" "is_size" sIsSize f fd) (T : Txt K mg C) : FnOk P wd K mg base CX0 1 f fd ["number"] spIsSize := by
  refine F.ok scSize (fun vs H Q E h => ?_) (fun cdv A outer s H vs Q E hr h => ?_)
  · obtain ⟨n, rfl, _⟩ := h
    rfl
  · obtain ⟨n, rfl, k⟩ := h
    refine ⟨_, pss_one (ps_ret (pe_chain op_le op_le (pe_gi rfl T.g_LEAST_SIZE) (pv 0) (pe_gi rfl T.g_MOST_SIZE))), ?_⟩
    refine ⟨_, rfl, _, _, rfl, rfl, _, rfl, ?_⟩
    by_cases c1 : 2 ≤ n
    · refine if_true_of (decide_eq_true (by omega)) ⟨_, _, rfl, rfl, ?_⟩
      show Q (.bl (decide ((n : Int) ≤ 5))) H
      have e : decide ((n : Int) ≤ 5) = decide (2 ≤ n ∧ n ≤ 5) := by
        rw [Bool.eq_iff_iff]
        simp only [decide_eq_true_eq]
        omega
      rw [e]
      exact k
    · refine if_false_of (decide_eq_false (by omega)) ?_
      have e : false = decide (2 ≤ n ∧ n ≤ 5) := by
        symm
        exact decide_eq_false (by omega)
      show Q (.bl false) H
      rw [e]
      exact k
/-! ### begins -/
theorem scBegins : FnScope ["water", "wide", "high"] ["water", "wide", "high"] (defScope sBegins) := ⟨rfl, rfl, rfl, by decide +kernel, rfl, by decide +kernel, by decide +kernel⟩
theorem okf_begins {f : Addr} {fd : FuncData} (F : Fun K "begins" "begins" sBegins f fd) (T : Txt K mg C) (GZ : DefOk P wd K mg base 1 "is_size" ["number"] spIsSize) (GM : MakeOk P wd K mg base C 1 "Water" ["self", "wide", "high"] (spInit C)) : FnOk P wd K mg base CX0 3 f fd ["water", "wide", "high"] (spBegins C) := by
  refine F.ok scBegins (fun vs H Q E h => ?_) (fun cdv A outer s H vs Q E hr h => ?_)
  · obtain ⟨a, ls, w, x, y, rfl, _⟩ := h
    rfl
  · obtain ⟨a, ls, w, x, y, rfl, W, k⟩ := h
    have hr1 : Room 1 _ := hr.mono (by decide)
    refine ⟨_, pss_cons (ps_if (PW.pt (pw_or (pt_not (pt_val (pe_def GZ hr1 rfl (pa_cons (pv 1) pa_nil)))) (pw_or1 (pt_not (pt_val (pe_def GZ hr1 rfl (pa_cons (pv 2) pa_nil))))))) (pss_one (ps_ret (pe_tup (pa_cons (pv 0) (pa_cons (pe_lst (pa_cons (pe_gi rfl T.g_OUT) pa_nil)) pa_nil))))) pss_nil)
      (pss_one (ps_ret (pe_tup (pa_cons (pe_mkk GM hr rfl (pa_cons (pv 1) (pa_cons (pv 2) pa_nil))) (pa_cons (pe_lst (pa_cons pe_int pa_nil)) pa_nil))))), ?_⟩
    have hls : ∃ o, H ls = some o := by
      obtain ⟨dx, lw, lm, h1, h2, _⟩ := W
      exact ⟨_, h2⟩
    -- refused
    have bad : (x < 2 ∨ Uw28.SIDE < x ∨ y < 2 ∨ Uw28.SIDE < y) → (tTup (tCons (tVar 0) (tCons (tLst (tCons (tC (.int (-1))) tNil)) tNil))) [some (V.ref a), some (V.int (x : Int)), some (V.int (y : Int))] H Q := fun hb => by
      have es : Uw28.step w (.begins x y) = (w, Uw28.ok (-1)) := by
        show (if x < 2 ∨ Uw28.SIDE < x ∨ y < 2 ∨ Uw28.SIDE < y then (w, Uw28.ok (-1)) else _) = _
        rw [if_pos hb]
      refine ⟨_, rfl, by show 1 ≤ sizeLine; decide, fun p hp => ⟨by show 2 ≤ sizeLine; decide, fun q hq => ?_⟩⟩
      have s1 : Same H (upd H p (.lst [.int (-1)])) := same_new _ hp
      have s2 : Same (upd H p (.lst [.int (-1)])) (upd (upd H p (.lst [.int (-1)])) q (.tup [.ref a, .ref p])) := same_new _ hq
      refine k _ q p a ls (s1.trans s2) upd_same hp ?_ ?_ (.inl ⟨rfl, rfl⟩) ?_ (fun nf _ aw => aw.keep (same_at (s1.trans s2) (wat_get W)))
      · unfold outV
        rw [es]
        exact s2 _ _ upd_same
      · rw [es]
        exact W.same (s1.trans s2)
      · obtain ⟨o, ho⟩ := hls
        exact Ne.symm (ne_of_none ho hp)
    refine ⟨_, rfl, x, rfl, _, rfl, ?_⟩
    by_cases c1 : 2 ≤ x ∧ x ≤ 5
    · refine if_false_of (by rw [decide_eq_true c1]; rfl) ?_
      refine ⟨_, rfl, y, rfl, _, rfl, ?_⟩
      by_cases c2 : 2 ≤ y ∧ y ≤ 5
      · refine if_false_of (by rw [decide_eq_true c2]; rfl) ?_
        refine ⟨_, rfl, _, rfl, ?_⟩
        intro p dx np nd ne
        have hmul : 2 * 2 ≤ x * y := Nat.mul_le_mul c1.1 c2.1
        refine ⟨p, dx, x, y, rfl, c1.2, by omega, upd_same, fun H1 ls' nls W1 kp aw1 => ⟨rfl, ?_⟩⟩
        have s1 : Same H H1 := Same.made np nd kp
        refine ⟨by show 1 ≤ sizeLine; decide, fun l hl => ⟨by show 2 ≤ sizeLine; decide, fun q hq => ?_⟩⟩
        have s2 : Same H1 (upd H1 l (.lst [.int 0])) := same_new _ hl
        have s3 : Same (upd H1 l (.lst [.int 0])) (upd (upd H1 l (.lst [.int 0])) q (.tup [.ref p, .ref l])) := same_new _ hq
        have es : Uw28.step w (.begins x y) = (⟨x, y, [], [], [1, 1, 1, 1], 0, 0, x * y - 1⟩, Uw28.ok 0) := by
          show (if x < 2 ∨ Uw28.SIDE < x ∨ y < 2 ∨ Uw28.SIDE < y then (w, Uw28.ok (-1)) else _) = _
          rw [if_neg (by show ¬ (x < 2 ∨ 5 < x ∨ y < 2 ∨ 5 < y); omega)]
        have nx : ls' ≠ p := fun z => by rw [z, upd_same] at nls; cases nls
        have ndx : ls' ≠ dx := fun z => by rw [z, upd_ne ne, upd_same] at nls; cases nls
        refine k _ q l p ls' ((s1.trans s2).trans s3) upd_same (s1.free hl) ?_ ?_ (.inr ⟨np, ?_⟩) ?_ (fun nf hn _ => (aw1 nf fun z => ?_).keep (same_at (s2.trans s3) (wat_get W1)))
        · unfold outV
          rw [es]
          exact s3 _ _ upd_same
        · rw [es]
          exact W1.same (s2.trans s3)
        · rw [upd_ne nx, upd_ne ndx] at nls
          exact nls
        · obtain ⟨_, _, _, _, h2, _⟩ := W1
          exact Ne.symm (ne_of_none h2 hl)
        · rw [upd_ne (fun z2 => hn (by rw [z2]; exact np)), upd_ne (fun z2 => hn (by rw [z2]; exact nd))] at z
          exact hn z
      · refine if_true_of (by rw [decide_eq_false c2]; rfl) ?_
        exact bad (by show x < 2 ∨ 5 < x ∨ y < 2 ∨ 5 < y; omega)
    · refine if_true_of (by rw [decide_eq_false c1]; rfl) (iteT ?_)
      exact bad (by show x < 2 ∨ 5 < x ∨ y < 2 ∨ 5 < y; omega)
/-! ### shoal -/
theorem scShoal : FnScope ["water", "cell"] ["water", "cell"] (defScope sShoal) := ⟨rfl, rfl, rfl, by decide +kernel, rfl, by decide +kernel, by decide +kernel⟩
theorem okf_shoal {f : Addr} {fd : FuncData} (F : Fun K "shoal" "shoal" sShoal f fd) (T : Txt K mg C) (GC : MethOk P wd K mg base C 1 "cells" ["self"] (spCells C)) (GA : MethOk P wd K mg base C 1 "add_shoal" ["self", "cell"] (spAddShoal C)) : FnOk P wd K mg base CX0 2 f fd ["water", "cell"] (spShoal C) := by
  refine F.ok scShoal (fun vs H Q E h => ?_) (fun cdv A outer s H vs Q E hr h => ?_)
  · obtain ⟨a, ls, w, c, rfl, _⟩ := h
    rfl
  · obtain ⟨a, ls, w, c, rfl, W, ok, hl, k⟩ := h
    refine ⟨_, pss_cons (ps_if (pt_cmpR op_ge (pv 1) (pe_mth0 GC hr (pv 0)) (nomark _)) (pss_one (ps_ret (pe_lst (pa_cons (pe_gi rfl T.g_NO_CELL) pa_nil)))) pss_nil)
      (pss_cons (ps_if (pt_cmpR op_in_seq (pv 1) (pe_tup (pa_cons (pe_fld (pv 0) rfl) (pa_cons (pe_fld (pv 0) rfl) pa_nil))) (by rfl)) (pss_one (ps_ret (pe_lst (pa_cons (pe_gi rfl T.g_IN_THE_WAY) pa_nil)))) pss_nil)
      (pss_cons (ps_if (pt_cmpR op_in_seq (pv 1) (pe_fld (pv 0) rfl) (by rfl)) (pss_one (ps_ret (pe_lst (pa_cons (pe_gi rfl T.g_IS_SHOAL) pa_nil)))) pss_nil)
      (pss_cons (ps_expr (pe_mth GA hr (pv 0) (pa_cons (pv 1) pa_nil)))
      (pss_one (ps_ret (pe_lst (pa_cons (pe_callB call_len_seq (by rfl) T.b_len PySem.boot_len (pa_cons (pe_fld (pv 0) rfl) pa_nil)) pa_nil))))))), ?_⟩
    obtain ⟨dx, lw, lm, h1, h2, h3, h4, n1, n2⟩ := id W
    refine ⟨_, rfl, _, rfl, a, dx, _, rfl, h1, wF_no_cells .., a, ls, w, rfl, W, ok, _, _, rfl, rfl, _, rfl, ?_⟩
    by_cases c1 : w.cells ≤ c
    · refine if_true_of (decide_eq_true (by omega)) ⟨by show 1 ≤ sizeLine; decide, ?_⟩
      have es : Uw28.step w (.shoal c) = (w, Uw28.ok (-2)) := by
        show (if w.cells ≤ c then (w, Uw28.ok (-2)) else _) = _
        rw [if_pos c1]
      exact does_plain k W (Same.refl H) (by rw [es]) (by unfold outV; rw [es]; rfl)
    refine if_false_of (decide_eq_false (by omega)) ?_
    refine ⟨_, rfl, _, rfl, a, C, dx, _, _, rfl, h1, T.cl, T.n_boat, wF_boat .., _, rfl, a, C, dx, _, _, rfl, h1, T.cl, T.n_mark, wF_mark .., by show 2 ≤ sizeLine; decide, fun p hp => ⟨p, _, rfl, .inr (SqT.of upd_same), rfl, rfl, _, rfl, ?_⟩⟩
    have s1 : Same H (upd H p (.tup [.int (w.boat : Nat), .int (w.mark : Nat)])) := same_new _ hp
    have hin : inV (.int (c : Int)) [.int ((w.boat : Nat) : Int), .int ((w.mark : Nat) : Int)] = decide (c = w.boat ∨ c = w.mark) := by
      have := inV_nv c [w.boat, w.mark]
      refine Eq.trans this ?_
      rw [Bool.eq_iff_iff]
      simp
    show if inV (.int (c : Int)) [.int ((w.boat : Nat) : Int), .int ((w.mark : Nat) : Int)] = true then _ else _
    rw [hin]
    by_cases c2 : c = w.boat ∨ c = w.mark
    · refine if_true_of (decide_eq_true c2) ⟨by show 1 ≤ sizeLine; decide, ?_⟩
      have es : Uw28.step w (.shoal c) = (w, Uw28.ok (-3)) := by
        show (if w.cells ≤ c then (w, Uw28.ok (-2)) else if c = w.boat ∨ c = w.mark then (w, Uw28.ok (-3)) else _) = _
        rw [if_neg c1, if_pos c2]
      exact does_plain k W s1 (by rw [es]) (by unfold outV; rw [es]; rfl)
    refine if_false_of (decide_eq_false c2) ?_
    refine ⟨_, rfl, _, rfl, a, C, dx, _, _, rfl, s1 _ _ h1, T.cl, T.n_shoals, wF_shoals .., ls, _, rfl, .inl (SqL.of (s1 _ _ h2)), rfl, nv_flat _, _, rfl, ?_⟩
    show if inV (.int (c : Int)) (nv w.shoals) = true then _ else _
    rw [inV_nv]
    by_cases c3 : w.shoals.contains c = true
    · refine if_true_of c3 ⟨by show 1 ≤ sizeLine; decide, ?_⟩
      have es : Uw28.step w (.shoal c) = (w, Uw28.ok (-4)) := by
        show (if w.cells ≤ c then (w, Uw28.ok (-2)) else if c = w.boat ∨ c = w.mark then (w, Uw28.ok (-3)) else if w.shoals.contains c = true then (w, Uw28.ok (-4)) else _) = _
        rw [if_neg c1, if_neg c2, if_pos c3]
      exact does_plain k W s1 (by rw [es]) (by unfold outV; rw [es]; rfl)
    refine if_false_of (by simpa using c3) ?_
    have es : Uw28.step w (.shoal c) = ({ w with shoals := w.shoals ++ [c] }, Uw28.ok (w.shoals.length + 1 : Nat)) := by
      show (if w.cells ≤ c then (w, Uw28.ok (-2)) else if c = w.boat ∨ c = w.mark then (w, Uw28.ok (-3)) else if w.shoals.contains c = true then (w, Uw28.ok (-4)) else _) = _
      rw [if_neg c1, if_neg c2, if_neg c3]
    have W1 := W.same s1
    refine ⟨_, rfl, a, dx, _, rfl, s1 _ _ h1, wF_no_add_shoal .., _, rfl, a, ls, w, c, rfl, W1, hl, fun H2 W2 fr => ?_⟩
    obtain ⟨dx2, lw2, lm2, g1, g2, _⟩ := id W2
    refine ⟨_, rfl, a, C, dx2, _, _, rfl, g1, T.cl, T.n_shoals, wF_shoals .., ls, _, rfl, .inl (SqL.of g2), by show 1 ≤ sizeLine; decide, ?_⟩
    refine does_done k (by rw [es]; exact W2) (fun b o e _ hb => fr b o (s1 b o e) hb) (fun nf _ aw => aw.keep ((fr _ _ (s1 _ _ h1) (ne_of h1 h2 (fun z => nomatch z))).trans h1.symm)) (fun q hq => ?_) ?_
    · cases e : H q with
      | none => rfl
      | some o =>
        by_cases hb : q = ls
        · rw [hb, g2] at hq; cases hq
        · rw [fr q o (s1 q o e) hb] at hq; cases hq
    · unfold outV
      rw [es, nv_length]
      show [V.int ((w.shoals.length + 1 : Nat) : Int)] = [V.int (((w.shoals ++ [c]).length : Nat) : Int)]
      rw [List.length_append]
      rfl
/-! ### are_headings -/
theorem scHeads : FnScope ["row", "most", "heading"] ["row", "most"] (defScope sHeads) := ⟨rfl, rfl, rfl, by decide +kernel, rfl, by decide +kernel, by decide +kernel⟩
theorem filt_more {l : List Nat} {i n : Nat} (q : Nat → Bool) (h : l[i]? = some n) : (l.take (i + 1)).filter q = (l.take i).filter q ++ (if q n = true then [n] else []) := by
  rw [List.take_add_one, h, List.filter_append]
  congr 1
  show [n].filter q = _
  rw [List.filter_cons, List.filter_nil]
theorem nv_at {l : List Nat} {i : Nat} {x : V} (h : (nv l)[i]? = some x) : ∃ n, l[i]? = some n ∧ x = V.int (n : Int) := by
  unfold nv at h
  rw [List.getElem?_map] at h
  cases e : l[i]? with
  | none => rw [e] at h; cases h
  | some n => rw [e] at h; exact ⟨n, rfl, (Option.some.inj h).symm⟩
theorem nv_snoc (l : List Nat) (n : Nat) : nv l ++ [V.int (n : Int)] = nv (l ++ [n]) := by
  unfold nv
  rw [List.map_append]
  rfl
theorem okf_heads {f : Addr} {fd : FuncData} (F : Fun K "are_headings" "are_headings" sHeads f fd) (T : Txt K mg C) : FnOk P wd K mg base CX0 1 f fd ["row", "most"] (spHeads K) := by
  refine F.ok scHeads (fun vs H Q E h => ?_) (fun cdv A outer s H vs Q E hr h => ?_)
  · obtain ⟨r, row, m, rfl, _⟩ := h
    rfl
  · obtain ⟨r, row, m, rfl, hq, hlen, k⟩ := h
    refine ⟨_, pss_one (ps_ret (pe_and (pe_cmpR op_le (pe_callB call_len_seq (by rfl) T.b_len PySem.boot_len (pa_cons (pv 0) pa_nil)) (pv 1) (nomark _))
      (pe_one (pe_cmpR (op_eqD hr.units) (pe_lc (own := [("heading", 2)]) (g := gName 2) (tt := tTest (tOp (rI0 fun i j => .bl (decide (j ≤ i))) (tVar 2) (tC (.int 8)))) (te := tVar 2) rfl scHeads.nd (pi_tup (pv 0)) (blkOk_by (N := ["row", "most", "heading"]) (sc := defScope sHeads) (by decide +kernel))
        (fun _ _ _ _ _ => pg_name (i := 2) scHeads.nd rfl (Or.inl rfl))
        (fun _ _ _ _ _ => by exact (pts_one (pt_cmpR op_ge (pv 2) (pe_gi rfl T.g_HEADINGS) (nomark _))))
        (fun _ _ _ _ _ => by exact (pv 2))) (pe_lst pa_nil) (nomark _))))), ?_⟩
    refine ⟨_, rfl, r, _, rfl, .inr hq, _, rfl, _, _, rfl, rfl, _, rfl, ?_⟩
    by_cases c1 : row.length ≤ m
    · refine if_true_of (by rw [nv_length]; exact decide_eq_true (by omega)) ?_
      refine ⟨_, rfl, r, rfl, ⟨_, hq⟩, ?_⟩
      intro D nD
      have sD : ∀ xs : List V, Same H (upd H D (.lst xs)) := fun xs => same_new _ nD
      refine lc_tup (K := K) (a := r) (xs := nv row) (fun j H' => H' = upd H D (.lst (nv ((row.take j).filter fun n => decide (8 ≤ n))))) rfl (fun j H' _ e => by rw [e]; exact same_sqT (sD _) hq) ?_ ?_
      · rintro j x H' hx rfl
        obtain ⟨n, hn, rfl⟩ := nv_at hx
        have more := filt_more (fun n => decide (8 ≤ n)) hn
        refine ⟨rfl, ?_⟩
        refine ⟨_, rfl, _, _, rfl, rfl, _, rfl, ?_⟩
        by_cases c2 : 8 ≤ n
        · refine if_true_of (decide_eq_true (by omega)) ⟨_, rfl, _, upd_same, ?_, ?_⟩
          · rw [nv_length, sizeLine_eq]
            have h1 := List.length_filter_le (fun n => decide (8 ≤ n)) (row.take j)
            have h2 := List.length_take_le j row
            have h3 : (row.take j).length ≤ row.length := by rw [List.length_take]; omega
            omega
          · rw [upd_upd, nv_snoc, more, if_pos (decide_eq_true c2)]
        · refine if_false_of (decide_eq_false (by omega)) ?_
          rw [more, if_neg (by simpa using c2), List.append_nil]
      · rintro H' rfl
        rw [nv_length, List.take_length]
        refine ⟨by decide, fun l hl => ?_⟩
        have s2 : Same (upd H D (.lst (nv (row.filter fun n => decide (8 ≤ n))))) (upd (upd H D (.lst (nv (row.filter fun n => decide (8 ≤ n))))) l (.lst [])) := same_new _ hl
        have hD := s2 _ _ (upd_same (H := H) (a := D) (o := .lst (nv (row.filter fun n => decide (8 ≤ n)))))
        refine rEq_list (ns := (row.filter fun n => decide (8 ≤ n)).map fun (n : Nat) => (n : Int)) (by rw [← nv_iv]; exact SqL.of hD) (SqL.of upd_same) ?_
        have e : ((row.filter fun n => decide (8 ≤ n)).map fun (n : Nat) => (n : Int)).isEmpty = (decide (row.length ≤ m) && row.all fun d => decide (d ≤ 7)) := by
          rw [decide_eq_true c1, Bool.true_and, List.isEmpty_map, Bool.eq_iff_iff, List.isEmpty_iff, List.filter_eq_nil_iff, List.all_eq_true]
          constructor
          · intro h x hx
            have := h x hx
            simp only [decide_eq_true_eq] at this ⊢
            omega
          · intro h x hx
            have := h x hx
            simp only [decide_eq_true_eq] at this ⊢
            omega
        rw [e]
        exact k _ ((sD _).trans s2)
    · refine if_false_of (by rw [nv_length]; exact decide_eq_false (by omega)) ?_
      have := k H (Same.refl H)
      rw [decide_eq_false c1] at this
      exact this
end
end Bw
namespace Bw
open PySem PySem.Spec PyProof.Rows L2
open Uw28 (Water)
theorem walk_enumT {K : PySem.W.Frag} {a : Addr} {xs : List V} : Walk (IteT K a) xs.length (fun H => SqT K H a xs) (YPair (fun i => some (.int (i : Nat))) (fun i => xs[i]?)) := by
  refine ⟨fun i _ hi q => ⟨xs, xs[i], q, by simp [hi]⟩, fun _ q => ⟨xs, q, rfl⟩, fun i H v H' _ q y => ?_⟩
  obtain ⟨pr, x, e1, e2, e3, e4⟩ := y
  exact ⟨pr, .int (i : Nat), x, e1, e2, e3, rfl, e4 xs q⟩
theorem sails_step {w : Water} {i t c s h t' c' s' : Nat} {l : List Nat} (e : stepS w t c s h = some (t', c', s')) : w.sails i t c s (h :: l) = w.sails (i + 1) t' c' s' l := by
  obtain ⟨k, h1, h2, rfl, rfl⟩ := stepS_some e
  rw [Water.sails, h1, h2]
theorem sails_stop {w : Water} {i t c s h : Nat} {l : List Nat} (e : stepS w t c s h = none) : w.sails i t c s (h :: l) = .error i := by
  rw [Water.sails]
  unfold stepS at e
  cases h1 : w.next c h with
  | none => rfl
  | some d =>
    cases h2 : w.step_ t s h with
    | none => rfl
    | some k => rw [h1, h2] at e; cases e
section
variable {P : Program} {wd : World} {K : PySem.W.Frag} {mg : Str → Option Value} {base : Heap} {C : Addr}
/-! ### winds -/
theorem scWinds : FnScope ["water", "row"] ["water", "row"] (defScope sWinds) := ⟨rfl, rfl, rfl, by decide +kernel, rfl, by decide +kernel, by decide +kernel⟩
theorem okf_winds {f : Addr} {fd : FuncData} (F : Fun K "winds" "winds" sWinds f fd) (T : Txt K mg C) (GH : DefOk P wd K mg base 1 "are_headings" ["row", "most"] (spHeads K)) (GW : MethOk P wd K mg base C 1 "set_winds" ["self", "row"] (spSetWinds C)) : FnOk P wd K mg base CX0 2 f fd ["water", "row"] (spWinds K C) := by
  refine F.ok scWinds (fun vs H Q E h => ?_) (fun cdv A outer s H vs Q E hr h => ?_)
  · obtain ⟨a, ls, r, w, row, rfl, _⟩ := h
    rfl
  · obtain ⟨a, ls, r, w, row, rfl, W, hq, hlen, k⟩ := h
    refine ⟨_, pss_cons (ps_if (pt_not (pt_val (pe_def GH hr rfl (pa_cons (pv 1) (pa_cons (pe_gi rfl T.g_MOST_WINDS) pa_nil))))) (pss_one (ps_ret (pe_lst (pa_cons (pe_gi rfl T.g_OUT) pa_nil)))) pss_nil)
      (pss_cons (ps_expr (pe_mth GW hr (pv 0) (pa_cons (pe_callTy call_list_of (by rfl) T.b_list (by decide +kernel) (pa_cons (pv 1) pa_nil)) pa_nil)))
      (pss_one (ps_ret (pe_lst (pa_cons (pe_callB call_len_seq (by rfl) T.b_len PySem.boot_len (pa_cons (pv 1) pa_nil)) pa_nil))))), ?_⟩
    refine ⟨_, rfl, r, row, 12, rfl, hq, hlen, fun H1 s1 => ⟨_, rfl, ?_⟩⟩
    by_cases c : Uw28.WINDS < row.length ∨ (row.all fun d => decide (d ≤ 7)) = false
    · have es : Uw28.step w (.winds row) = (w, Uw28.ok (-1)) := by
        show (if Uw28.WINDS < row.length ∨ (row.all fun d => decide (d ≤ 7)) = false then (w, Uw28.ok (-1)) else _) = _
        rw [if_pos c]
      refine if_true_of ?_ ⟨by show 1 ≤ sizeLine; decide, does_plain k W s1 (by rw [es]) (by unfold outV; rw [es]; rfl)⟩
      rcases c with c | c
      · have c : 12 < row.length := c
        rw [decide_eq_false (by omega)]
        rfl
      · rw [c, Bool.and_false]
        rfl
    · have es : Uw28.step w (.winds row) = ({ w with winds := row }, Uw28.ok (row.length : Nat)) := by
        show (if Uw28.WINDS < row.length ∨ (row.all fun d => decide (d ≤ 7)) = false then (w, Uw28.ok (-1)) else _) = _
        rw [if_neg c]
      have c1 : row.length ≤ 12 := Nat.le_of_not_lt fun z => c (.inl z)
      have c2 : (row.all fun d => decide (d ≤ 7)) = true := by
        cases e : (row.all fun d => decide (d ≤ 7)) with
        | true => rfl
        | false => exact absurd (.inr e) c
      refine if_false_of (by rw [decide_eq_true c1, c2]; rfl) ?_
      have W1 := W.same s1
      obtain ⟨dx, lw, lm, h1, h2, h3, h4, n1, n2⟩ := id W1
      refine ⟨_, rfl, a, dx, _, rfl, h1, wF_no_set_winds .., _, rfl, r, _, rfl, .inr (same_sqT s1 hq), fun l hl => ?_⟩
      have s2 : Same H1 (upd H1 l (.lst (nv row))) := same_new _ hl
      refine ⟨a, ls, l, w, row, rfl, W1.same s2, upd_same, ne_of_none h2 hl, fun H3 W3 fr aw3 => ?_⟩
      have hq3 : SqT K H3 r (nv row) := by
        rcases same_sqT (s1.trans s2) hq with (e | ⟨o, e⟩) | e
        · exact .inl (.inl (fr _ _ e (ne_of e (s2 _ _ h1) (fun z => nomatch z))))
        · exact .inl (.inr ⟨o, fr _ _ e (ne_of e (s2 _ _ h1) (fun z => nomatch z))⟩)
        · exact .inr e
      refine ⟨_, rfl, r, _, rfl, .inr hq3, by show 1 ≤ sizeLine; decide, ?_⟩
      obtain ⟨_, _, _, ga, _⟩ := id W3
      refine does_done k (by rw [es]; exact W3) (fun b o e hb _ => fr b o (s2 _ _ (s1 b o e)) hb) (fun nf hn aw => aw3 nf (fun z => hn (s1.free (by rw [z]; exact hl))) (aw.keep (same_at (s1.trans s2) (wat_get W)))) (fun q hq => ?_) ?_
      · cases e : H q with
        | none => rfl
        | some o =>
          by_cases hb : q = a
          · rw [hb, ga] at hq; cases hq
          · rw [fr q o (s2 _ _ (s1 q o e)) hb] at hq; cases hq
      · unfold outV
        rw [es, nv_length]
        rfl
/-! ### boat -/
theorem scBoat : FnScope ["water", "minutes", "turn", "one"] ["water", "minutes", "turn"] (defScope sBoat) := ⟨rfl, rfl, rfl, by decide +kernel, rfl, by decide +kernel, by decide +kernel⟩
def badN (n : Nat) : Bool := !(decide (1 ≤ n) && decide (n ≤ 9))
theorem okf_boat {f : Addr} {fd : FuncData} (F : Fun K "boat" "boat" sBoat f fd) (T : Txt K mg C) (GB' : MethOk P wd K mg base C 1 "set_boat" ["self", "minutes", "turn"] (spSetBoat C)) : FnOk P wd K mg base CX0 2 f fd ["water", "minutes", "turn"] (spBoat C) := by
  refine F.ok scBoat (fun vs H Q E h => ?_) (fun cdv A outer s H vs Q E hr h => ?_)
  · obtain ⟨a, ls, l, w, x, y, z, u, k, rfl, _⟩ := h
    rfl
  · obtain ⟨a, ls, l, w, x, y, z, u, kk, rfl, W, hl, hne, k⟩ := h
    refine ⟨_, pss_cons (ps_if (PW.pt (pw_or (pt_cmpR (op_neD hr.units) (pe_lc (own := [("one", 3)]) (g := gName 3) (tt := tNot (tTest (tChain (rI0 fun i j => .bl (decide (i ≤ j))) (rI0 fun i j => .bl (decide (i ≤ j))) (tC (.int 1)) (tVar 3) (tC (.int 9))))) (te := tVar 3) rfl scBoat.nd (pi_list (pv 1)) (blkOk_by (N := ["water", "minutes", "turn", "one"]) (sc := defScope sBoat) (by decide +kernel))
          (fun _ _ _ _ _ => pg_name (i := 3) scBoat.nd rfl (Or.inl rfl))
          (fun _ _ _ _ _ => by exact (pts_one (pt_not (pt_chain op_le op_le pe_int (pv 3) (pe_gi rfl T.g_MOST_TAKEN)))))
          (fun _ _ _ _ _ => by exact (pv 3))) (pe_lst pa_nil) (nomark _)) (pw_or1 (pt_cmpR op_gt (pv 2) (pe_gi rfl T.g_MOST_TAKEN) (nomark _))))) (pss_one (ps_ret (pe_lst (pa_cons (pe_gi rfl T.g_OUT) pa_nil)))) pss_nil)
      (pss_cons (ps_expr (pe_mth GB' hr (pv 0) (pa_cons (pv 1) (pa_cons (pv 2) pa_nil))))
      (pss_one (ps_ret (pe_lst (pa_cons pe_int pa_nil))))), ?_⟩
    refine ⟨_, rfl, l, rfl, ⟨_, SqL.of hl⟩, ?_⟩
    intro D nD
    have sD : ∀ xs : List V, Same H (upd H D (.lst xs)) := fun xs => same_new _ nD
    refine lc_list (K := K) (a := l) (xs := nv [x, y, z, u]) (fun j H' => H' = upd H D (.lst (nv (([x, y, z, u].take j).filter badN)))) rfl (fun j H' _ e => by rw [e]; exact SqL.of (sD _ _ _ hl)) ?_ ?_
    · rintro j v H' hx rfl
      obtain ⟨n, hn, rfl⟩ := nv_at hx
      have more := filt_more badN hn
      have add : badN n = true → ∃ acc, upd H D (.lst (nv (([x, y, z, u].take j).filter badN))) D = some (.lst acc) ∧ acc.length < sizeLine ∧ upd (upd H D (.lst (nv (([x, y, z, u].take j).filter badN)))) D (.lst (acc ++ [V.int (n : Int)])) = upd H D (.lst (nv (([x, y, z, u].take (j + 1)).filter badN))) := fun hb => by
        refine ⟨_, upd_same, ?_, ?_⟩
        · rw [nv_length, sizeLine_eq]
          have h1 := List.length_filter_le badN ([x, y, z, u].take j)
          have h3 : ([x, y, z, u].take j).length ≤ 4 := by rw [List.length_take]; exact Nat.min_le_right _ _
          omega
        · rw [upd_upd, nv_snoc, more, if_pos hb]
      refine ⟨rfl, ?_⟩
      refine ⟨_, rfl, _, _, rfl, rfl, _, rfl, ?_⟩
      by_cases c1 : 1 ≤ n
      · refine if_true_of (decide_eq_true (by omega)) ⟨_, _, rfl, rfl, _, rfl, ?_⟩
        by_cases c2 : n ≤ 9
        · refine if_false_of (by rw [decide_eq_true (by omega)]; rfl) ?_
          rw [more, if_neg (by unfold badN; rw [decide_eq_true c1, decide_eq_true c2]; decide), List.append_nil]
        · refine if_true_of (by rw [decide_eq_false (by omega)]; rfl) ⟨_, rfl, add ?_⟩
          unfold badN
          rw [decide_eq_false c2, Bool.and_false]
          rfl
      · refine if_false_of (decide_eq_false (by omega)) ⟨_, rfl, ?_⟩
        refine if_true_of rfl ⟨_, rfl, add ?_⟩
        unfold badN
        rw [decide_eq_false c1]
        rfl
    · rintro H' rfl
      refine ⟨by decide, fun e0 he0 => ?_⟩
      have s2 : Same (upd H D (.lst (nv (([x, y, z, u].take (nv [x, y, z, u]).length).filter badN)))) (upd (upd H D (.lst (nv (([x, y, z, u].take (nv [x, y, z, u]).length).filter badN)))) e0 (.lst [])) := same_new _ he0
      have hD := s2 _ _ (upd_same (H := H) (a := D) (o := .lst (nv (([x, y, z, u].take (nv [x, y, z, u]).length).filter badN))))
      have S2 := (sD (nv (([x, y, z, u].take (nv [x, y, z, u]).length).filter badN))).trans s2
      refine rNe_list (ns := (([x, y, z, u].take (nv [x, y, z, u]).length).filter badN).map fun (n : Nat) => (n : Int)) (by rw [← nv_iv]; exact SqL.of hD) (SqL.of upd_same) ⟨_, rfl, ?_⟩
      have e : (!((([x, y, z, u].take (nv [x, y, z, u]).length).filter badN).map fun (n : Nat) => (n : Int)).isEmpty) = !([x, y, z, u].all fun n => decide (1 ≤ n) && decide (n ≤ Uw28.SLOW)) := by
        congr 1
        have e4 : [x, y, z, u].take (nv [x, y, z, u]).length = [x, y, z, u] := rfl
        rw [e4, List.isEmpty_map, Bool.eq_iff_iff, List.isEmpty_iff, List.filter_eq_nil_iff, List.all_eq_true]
        constructor
        · intro h n hn
          have := h n hn
          unfold badN at this
          show (decide (1 ≤ n) && decide (n ≤ 9)) = true
          cases q : (decide (1 ≤ n) && decide (n ≤ 9)) with
          | true => rfl
          | false => rw [q] at this; exact absurd rfl this
        · intro h n hn
          have := h n hn
          have this : (decide (1 ≤ n) && decide (n ≤ 9)) = true := this
          unfold badN
          rw [this]
          decide
      rw [e]
      have bad : (([x, y, z, u].all fun n => decide (1 ≤ n) && decide (n ≤ Uw28.SLOW)) = false ∨ Uw28.SLOW < kk) → ∀ p, (upd (upd H D (.lst (nv (([x, y, z, u].take (nv [x, y, z, u]).length).filter badN)))) e0 (.lst [])) p = none → Q (.ref p) (upd (upd (upd H D (.lst (nv (([x, y, z, u].take (nv [x, y, z, u]).length).filter badN)))) e0 (.lst [])) p (.lst [.int (-1)])) := fun hb => by
        have es : Uw28.step w (.boat x y z u kk) = (w, Uw28.ok (-1)) := by
          show (if ([x, y, z, u].all fun n => decide (1 ≤ n) && decide (n ≤ Uw28.SLOW)) = false ∨ Uw28.SLOW < kk then (w, Uw28.ok (-1)) else _) = _
          rw [if_pos hb]
        exact does_plain k W S2 (by rw [es]) (by unfold outV; rw [es]; rfl)
      cases ca : ([x, y, z, u].all fun n => decide (1 ≤ n) && decide (n ≤ Uw28.SLOW)) with
      | false => exact iteT (iteT ⟨by show 1 ≤ sizeLine; decide, bad (.inl ca)⟩)
      | true =>
        refine iteF ⟨_, rfl, _, _, rfl, rfl, _, rfl, ?_⟩
        by_cases c2 : Uw28.SLOW < kk
        · refine if_true_of (decide_eq_true (by have : 9 < kk := c2; omega)) ⟨by show 1 ≤ sizeLine; decide, bad (.inr c2)⟩
        · refine if_false_of (decide_eq_false (by have : ¬ 9 < kk := c2; omega)) ?_
          have es : Uw28.step w (.boat x y z u kk) = ({ w with takes := [x, y, z, u], turn := kk }, Uw28.ok 0) := by
            show (if ([x, y, z, u].all fun n => decide (1 ≤ n) && decide (n ≤ Uw28.SLOW)) = false ∨ Uw28.SLOW < kk then (w, Uw28.ok (-1)) else _) = _
            rw [if_neg (by rintro (z | z); (rw [ca] at z; cases z); exact c2 z)]
          have W2 := W.same S2
          obtain ⟨dx, lw, lm, h1, _⟩ := id W2
          refine ⟨_, rfl, a, dx, _, rfl, h1, wF_no_set_boat .., _, rfl, _, rfl, a, ls, l, w, [x, y, z, u], kk, rfl, W2, S2 _ _ hl, hne, fun H3 W3 fr aw3 => ?_⟩
          obtain ⟨_, _, _, ga, _⟩ := id W3
          refine ⟨by show 1 ≤ sizeLine; decide, ?_⟩
          refine does_done k (by rw [es]; exact W3) (fun b o e hb _ => fr b o (S2 b o e) hb) (fun nf hn aw => aw3 nf hn.2 (aw.keep (same_at S2 (wat_get W)))) (fun q hq => ?_) (by unfold outV; rw [es]; rfl)
          cases e : H q with
          | none => rfl
          | some o =>
            by_cases hb : q = a
            · rw [hb, ga] at hq; cases hq
            · rw [fr q o (S2 q o e) hb] at hq; cases hq
/-! ### places -/
theorem scPlaces : FnScope ["water", "own", "mark"] ["water", "own", "mark"] (defScope sPlaces) := ⟨rfl, rfl, rfl, by decide +kernel, rfl, by decide +kernel, by decide +kernel⟩
theorem okf_places {f : Addr} {fd : FuncData} (F : Fun K "places" "places" sPlaces f fd) (T : Txt K mg C) (GC : MethOk P wd K mg base C 1 "cells" ["self"] (spCells C)) (GP : MethOk P wd K mg base C 1 "set_places" ["self", "boat", "mark"] (spSetPlaces C)) : FnOk P wd K mg base CX0 2 f fd ["water", "own", "mark"] (spPlaces C) := by
  refine F.ok scPlaces (fun vs H Q E h => ?_) (fun cdv A outer s H vs Q E hr h => ?_)
  · obtain ⟨a, ls, w, b, m, rfl, _⟩ := h
    rfl
  · obtain ⟨a, ls, w, b, m, rfl, W, ok, k⟩ := h
    refine ⟨_, pss_cons (ps_if (pt_cmpR op_ge (pe_callB (call_max2 rfl) (by rfl) T.b_max (by decide +kernel) (pa_cons (pv 1) (pa_cons (pv 2) pa_nil))) (pe_mth0 GC hr (pv 0)) (nomark _)) (pss_one (ps_ret (pe_lst (pa_cons (pe_gi rfl T.g_NO_CELL) pa_nil)))) pss_nil)
      (pss_cons (ps_if (PW.pt (pw_or (pt_cmpR op_in_seq (pv 1) (pe_fld (pv 0) rfl) (by rfl)) (pw_or1 (pt_cmpR op_in_seq (pv 2) (pe_fld (pv 0) rfl) (by rfl))))) (pss_one (ps_ret (pe_lst (pa_cons (pe_gi rfl T.g_IN_THE_WAY) pa_nil)))) pss_nil)
      (pss_cons (ps_expr (pe_mth GP hr (pv 0) (pa_cons (pv 1) (pa_cons (pv 2) pa_nil))))
      (pss_one (ps_ret (pe_lst (pa_cons pe_int pa_nil)))))), ?_⟩
    obtain ⟨dx, lw, lm, h1, h2, h3, h4, n1, n2⟩ := id W
    refine ⟨_, rfl, _, rfl, _, _, rfl, _, rfl, a, dx, _, rfl, h1, wF_no_cells .., a, ls, w, rfl, W, ok, _, _, rfl, rfl, _, rfl, ?_⟩
    by_cases c1 : w.cells ≤ b ∨ w.cells ≤ m
    · refine if_true_of (decide_eq_true ?_) ⟨by show 1 ≤ sizeLine; decide, ?_⟩
      · by_cases cc : (m : Int) > (b : Int)
        · rw [if_pos cc]; omega
        · rw [if_neg cc]; omega
      · have es : Uw28.step w (.places b m) = (w, Uw28.ok (-2)) := by
          show (if w.cells ≤ b ∨ w.cells ≤ m then (w, Uw28.ok (-2)) else _) = _
          rw [if_pos c1]
        exact does_plain k W (Same.refl H) (by rw [es]) (by unfold outV; rw [es]; rfl)
    refine if_false_of (decide_eq_false ?_) ?_
    · by_cases cc : (m : Int) > (b : Int)
      · rw [if_pos cc]; omega
      · rw [if_neg cc]; omega
    have bad : (w.shoals.contains b = true ∨ w.shoals.contains m = true) → ∀ p, H p = none → Q (.ref p) (upd H p (.lst [.int (-3)])) := fun hb => by
      have es : Uw28.step w (.places b m) = (w, Uw28.ok (-3)) := by
        show (if w.cells ≤ b ∨ w.cells ≤ m then (w, Uw28.ok (-2)) else if w.shoals.contains b = true ∨ w.shoals.contains m = true then (w, Uw28.ok (-3)) else _) = _
        rw [if_neg c1, if_pos hb]
      exact does_plain k W (Same.refl H) (by rw [es]) (by unfold outV; rw [es]; rfl)
    refine ⟨_, rfl, _, rfl, a, C, dx, _, _, rfl, h1, T.cl, T.n_shoals, wF_shoals .., ls, _, rfl, .inl (SqL.of h2), rfl, nv_flat _, _, rfl, ?_⟩
    show if inV (.int (b : Int)) (nv w.shoals) = true then _ else _
    rw [inV_nv]
    by_cases c2 : w.shoals.contains b = true
    · refine if_true_of c2 (iteT ⟨by show 1 ≤ sizeLine; decide, bad (.inl c2)⟩)
    refine if_false_of (by simpa using c2) ?_
    refine ⟨_, rfl, _, rfl, a, C, dx, _, _, rfl, h1, T.cl, T.n_shoals, wF_shoals .., ls, _, rfl, .inl (SqL.of h2), rfl, nv_flat _, _, rfl, ?_⟩
    show if inV (.int (m : Int)) (nv w.shoals) = true then _ else _
    rw [inV_nv]
    by_cases c3 : w.shoals.contains m = true
    · refine if_true_of c3 ⟨by show 1 ≤ sizeLine; decide, bad (.inr c3)⟩
    refine if_false_of (by simpa using c3) ?_
    have es : Uw28.step w (.places b m) = ({ w with boat := b, mark := m }, Uw28.ok 0) := by
      show (if w.cells ≤ b ∨ w.cells ≤ m then (w, Uw28.ok (-2)) else if w.shoals.contains b = true ∨ w.shoals.contains m = true then (w, Uw28.ok (-3)) else _) = _
      rw [if_neg c1, if_neg (by rintro (z | z); exact c2 z; exact c3 z)]
    refine ⟨_, rfl, a, dx, _, rfl, h1, wF_no_set_places .., _, rfl, _, rfl, a, ls, w, b, m, rfl, W, fun H3 W3 fr aw3 => ?_⟩
    obtain ⟨_, _, _, ga, _⟩ := id W3
    refine ⟨by show 1 ≤ sizeLine; decide, ?_⟩
    refine does_done k (by rw [es]; exact W3) (fun b o e hb _ => fr b o e hb) (fun nf _ aw => aw3 nf aw) (fun q hq => ?_) (by unfold outV; rw [es]; rfl)
    cases e : H q with
    | none => rfl
    | some o =>
      by_cases hb : q = a
      · rw [hb, ga] at hq; cases hq
      · rw [fr q o e hb] at hq; cases hq
/-! ### soonest -/
theorem scSoonest : FnScope ["water", "minute"] ["water"] (defScope sSoonest) := ⟨rfl, rfl, rfl, by decide +kernel, rfl, by decide +kernel, by decide +kernel⟩
theorem okf_soonest {f : Addr} {fd : FuncData} (F : Fun K "soonest" "soonest" sSoonest f fd) (T : Txt K mg C) (GM : DefOk P wd K mg base 5 "soonest_minute" ["water"] (spSoonMin C)) (GY : DefOk P wd K mg base 6 "soonest_way" ["water", "last"] (spWay C)) : FnOk P wd K mg base CX0 7 f fd ["water"] (spSoonest C) := by
  refine F.ok scSoonest (fun vs H Q E h => ?_) (fun cdv A outer s H vs Q E hr h => ?_)
  · obtain ⟨a, ls, w, rfl, _⟩ := h
    rfl
  · obtain ⟨a, ls, w, rfl, W, ok, k⟩ := h
    have hr5 : Room 5 _ := hr.mono (by decide)
    refine ⟨_, pss_cons (ps_set (i := 1) scSoonest.nd rfl (Or.inl rfl) (pe_def GM hr5 rfl (pa_cons (pv 0) pa_nil)))
      (pss_one (ps_ret (pe_ifExp (pt_cmpR op_lt (pv 1) pe_int (nomark _)) (pe_lst (pa_cons (pe_gi rfl T.g_NO_WAY) pa_nil)) (pe_op op_cat (pe_lst (pa_cons (pv 1) pa_nil)) (pe_def GY hr rfl (pa_cons (pv 0) (pa_cons (pv 1) pa_nil))))))), ?_⟩
    refine ⟨_, rfl, a, ls, w, rfl, W, ok, fun H1 r s1 sm => ?_⟩
    refine ⟨_, rfl, _, _, rfl, rfl, _, rfl, ?_⟩
    rcases sm with ⟨rfl, hn⟩ | ⟨v, sd, rfl, re, hm⟩
    · refine if_true_of (by decide) ⟨by show 1 ≤ sizeLine; decide, ?_⟩
      have ex : outV w .soonest = [V.int (-6)] := by
        unfold outV
        show iv (Uw28Neutral.out (match ((w.tables Uw28.LONG).getD 0 []).getD (3 * w.boat) none with
          | none => Uw28.ok (-6)
          | some v => ⟨(v : Nat), w.way (w.tables Uw28.LONG) v Uw28.LONG 0 w.boat 0⟩)) = _
        rw [soon_none ok hn]
        rfl
      exact does_plain k W s1 rfl ex
    · refine if_false_of (decide_eq_false (by omega)) ?_
      refine ⟨_, rfl, by show 1 ≤ sizeLine; decide, fun l hl => ?_⟩
      have s2 : Same H1 (upd H1 l (.lst [.int (v : Int)])) := same_new _ hl
      have S2 := s1.trans s2
      refine ⟨_, rfl, _, rfl, a, ls, w, v, rfl, W.same S2, ok, soon_of ok re hm, fun H3 p s3 hp hp3 => ?_⟩
      have hl3 := s3 _ _ (upd_same (H := H1) (a := l) (o := .lst [.int (v : Int)]))
      have wl := way_len w (w.tables 40) v 40 0 w.boat 0
      refine ⟨l, p, _, _, rfl, rfl, hl3, hp3, by rw [nv_length, sizeLine_eq, List.length_singleton]; omega, ?_⟩
      have ex : outV w .soonest = [V.int (v : Int)] ++ nv (w.way (w.tables 40) v 40 0 w.boat 0) := by
        unfold outV
        show iv (Uw28Neutral.out (match ((w.tables Uw28.LONG).getD 0 []).getD (3 * w.boat) none with
          | none => Uw28.ok (-6)
          | some v => ⟨(v : Nat), w.way (w.tables Uw28.LONG) v Uw28.LONG 0 w.boat 0⟩)) = _
        rw [soon_some ok re hm]
        show iv ((v : Int) :: (w.way (w.tables 40) v 40 0 w.boat 0).map fun (n : Nat) => (n : Int)) = _
        rw [nv_iv]
        rfl
      exact does_plain k W (S2.trans s3) rfl ex
/-! ### check -/
theorem scCheck : FnScope ["water", "way", "state", "at", "heading"] ["water", "way"] (defScope sCheck) := ⟨rfl, rfl, rfl, by decide +kernel, rfl, by decide +kernel, by decide +kernel⟩
theorem okf_check {f : Addr} {fd : FuncData} (F : Fun K "check" "check" sCheck f fd) (T : Txt K mg C) (GH : DefOk P wd K mg base 1 "are_headings" ["row", "most"] (spHeads K)) (GS : MethOk P wd K mg base C 1 "start" ["self"] (spStart C)) (GT : MethOk P wd K mg base C 3 "step" ["self", "state", "heading"] (spStep C)) : FnOk P wd K mg base CX0 4 f fd ["water", "way"] (spCheck K C) := by
  refine F.ok scCheck (fun vs H Q E h => ?_) (fun cdv A outer s H vs Q E hr h => ?_)
  · obtain ⟨a, ls, r, w, row, rfl, _⟩ := h
    rfl
  · obtain ⟨a, ls, r, w, row, rfl, W, ok, hq, hlen, k⟩ := h
    have hr1 : Room 1 _ := hr.mono (by decide)
    refine ⟨_, pss_cons (ps_if (pt_not (pt_val (pe_def GH hr1 rfl (pa_cons (pv 1) (pa_cons (pe_gi rfl T.g_MOST_STEPS) pa_nil))))) (pss_one (ps_ret (pe_lst (pa_cons (pe_gi rfl T.g_OUT) pa_nil)))) pss_nil)
      (pss_cons (ps_set (i := 2) scCheck.nd rfl (Or.inl rfl) (pe_mth0 GS hr1 (pv 0)))
      (pss_cons (ps_for PassesOwn.never rfl (pi_enumT (by rfl) T.b_enumerate (pa_cons (pv 1) pa_nil)) (pg_tup rfl (pgs_cons (pg_name (i := 3) scCheck.nd rfl (.inl rfl)) (pgs_cons (pg_name (i := 4) scCheck.nd rfl (.inl rfl)) pgs_nil)))
        (pss_cons (ps_set (i := 2) scCheck.nd rfl (Or.inl rfl) (pe_mth GT hr (pv 0) (pa_cons (pv 2) (pa_cons (pv 4) pa_nil))))
        (pss_one (ps_if (pt_cmpR (op_eqD hr.units) (pv 2) (pe_tup pa_nil) (nomark _)) (pss_one (ps_ret (pe_lst (pa_cons (pe_gi rfl T.g_NO_WAY) (pa_cons (pv 3) pa_nil))))) pss_nil))))
      (pss_one (ps_ret (pe_callTy call_list_of (by rfl) T.b_list (by decide +kernel) (pa_cons (pv 2) pa_nil)))))), ?_⟩
    refine ⟨_, rfl, r, row, 40, rfl, hq, hlen, fun H1 s1 => ⟨_, rfl, ?_⟩⟩
    have ew : (Uw28.step w (.check row)).1 = w := by
      show (if Uw28.MOVES < row.length ∨ (row.all fun d => decide (d ≤ 7)) = false then (w, Uw28.ok (-1)) else (w, _)).1 = w
      split <;> rfl
    by_cases c : Uw28.MOVES < row.length ∨ (row.all fun d => decide (d ≤ 7)) = false
    · have es : Uw28.step w (.check row) = (w, Uw28.ok (-1)) := by
        show (if Uw28.MOVES < row.length ∨ (row.all fun d => decide (d ≤ 7)) = false then (w, Uw28.ok (-1)) else _) = _
        rw [if_pos c]
      refine if_true_of ?_ ⟨by show 1 ≤ sizeLine; decide, does_plain k W s1 ew (by unfold outV; rw [es]; rfl)⟩
      rcases c with c | c
      · have c : 40 < row.length := c
        rw [decide_eq_false (by omega)]
        rfl
      · rw [c, Bool.and_false]
        rfl
    · have c1 : row.length ≤ 40 := Nat.le_of_not_lt fun z => c (.inl z)
      have c2 : (row.all fun d => decide (d ≤ 7)) = true := by
        cases e : (row.all fun d => decide (d ≤ 7)) with
        | true => rfl
        | false => exact absurd (.inr e) c
      have h7 : ∀ n ∈ row, n < 8 := fun n hn => by
        have := List.all_eq_true.mp c2 n hn
        simp only [decide_eq_true_eq] at this
        omega
      have eo : outV w (.check row) = iv (Uw28Neutral.out (match w.sails 0 0 w.boat 0 row with
          | .error i => ⟨-6, [i]⟩
          | .ok x => ⟨(x.1 : Nat), [x.2.1, x.2.2]⟩)) := by
        unfold outV
        show iv (Uw28Neutral.out (if Uw28.MOVES < row.length ∨ (row.all fun d => decide (d ≤ 7)) = false then (w, Uw28.ok (-1)) else (w, match w.sails 0 0 w.boat 0 row with
          | .error i => ⟨-6, [i]⟩
          | .ok x => ⟨(x.1 : Nat), [x.2.1, x.2.2]⟩)).2) = _
        rw [if_neg c]
      refine if_false_of (by rw [decide_eq_true c1, c2]; rfl) ?_
      have W1 := W.same s1
      obtain ⟨dx, lw, lm, h1, _⟩ := id W1
      refine ⟨_, rfl, a, dx, _, rfl, h1, wF_no_start .., a, ls, w, rfl, W1, fun H2 q0 s2 hq0 => ?_⟩
      have S2 := s1.trans s2
      refine ⟨_, rfl, r, _, rfl, same_sqT S2 hq, for_it (walk_enumT (xs := nv row)) (fun j σ H' => ∃ (q : Addr) (t cc sd : Nat) (v3 v4 : Option V), σ = [some (.ref a), some (.ref r), some (.ref q), v3, v4] ∧ Same H H' ∧ H' q = some (.tup (st3 t cc sd)) ∧ w.sails 0 0 w.boat 0 row = w.sails j t cc sd (row.drop j)) ?_ ?_ ?_ ?_⟩
      · exact ⟨q0, 0, w.boat, 0, _, _, rfl, S2, hq0, rfl⟩
      · rintro j σ H' _ ⟨q, t, cc, sd, v3, v4, rfl, S3, _⟩
        exact same_sqT S3 hq
      · rintro j x σ H3 H4 hj ⟨q, t, cc, sd, v3, v4, rfl, S3, hq3, hs⟩ ⟨Tp, xi, xh, rfl, hT, rfl, hi, hh⟩
        have ei : V.int (j : Int) = xi := Option.some.inj hi
        subst ei
        obtain ⟨n, hn, rfl⟩ := nv_at hh
        have s4 : Same H3 (upd H3 Tp (.tup [V.int (j : Int), V.int (n : Int)])) := same_new _ hT
        have S4 := S3.trans s4
        have n8 := h7 n (List.mem_of_getElem? hn)
        refine ⟨Tp, _, rfl, SqT.of upd_same, rfl, _, _, rfl, _, _, rfl, rfl, ?_⟩
        have W4 := W.same S4
        obtain ⟨dx4, lw4, lm4, g4, _⟩ := id W4
        refine ⟨_, rfl, a, dx4, _, rfl, g4, wF_no_step .., _, rfl, _, rfl, a, ls, q, w, t, cc, sd, n, rfl, W4, ok, n8, s4 _ _ hq3, fun H5 p5 s5 hp5 => ?_⟩
        refine ⟨_, rfl, by decide, fun e0 he0 => ?_⟩
        have s6 : Same H5 (upd H5 e0 (.tup [])) := same_new _ he0
        have S6 := (S4.trans s5).trans s6
        have hp6 := s6 _ _ hp5
        refine rEq_tup (ns := encI (stepS w t cc sd n)) (by rw [← enc_iv]; exact SqT.of hp6) (SqT.of upd_same) ⟨_, rfl, ?_⟩
        rw [encI_empty]
        have hdrop : row.drop j = n :: row.drop (j + 1) := by
          obtain ⟨hl, e⟩ := List.getElem?_eq_some_iff.mp hn
          rw [← e]
          exact List.drop_eq_getElem_cons hl
        rw [hdrop] at hs
        cases es : stepS w t cc sd n with
        | none =>
          refine iteT ⟨_, rfl, by show 2 ≤ sizeLine; decide, ?_⟩
          rw [sails_stop es] at hs
          refine does_plain k W S6 ew ?_
          rw [eo, hs]
          rfl
        | some x =>
          obtain ⟨t', c', s'⟩ := x
          rw [es] at hp6
          rw [sails_step es] at hs
          exact iteF ⟨p5, t', c', s', _, _, rfl, S6, hp6, hs⟩
      · rintro σ H3 ⟨q, t, cc, sd, v3, v4, rfl, S3, hq3, hs⟩
        rw [nv_length, List.drop_length] at hs
        refine ⟨_, rfl, q, _, rfl, .inr (SqT.of hq3), ?_⟩
        refine does_plain k W S3 ew ?_
        rw [eo, hs]
        rfl
/-! ### answer -/
theorem scAnswer : FnScope ["water", "number", "given", "row"] ["water", "number", "given", "row"] (defScope sAnswer) := ⟨rfl, rfl, rfl, by decide +kernel, rfl, by decide +kernel, by decide +kernel⟩
theorem okf_answer {f : Addr} {fd : FuncData} (F : Fun K "answer" "answer" sAnswer f fd) (T : Txt K mg C) (G1 : DefOk P wd K mg base 2 "shoal" ["water", "cell"] (spShoal C)) (G2 : DefOk P wd K mg base 2 "winds" ["water", "row"] (spWinds K C)) (G3 : DefOk P wd K mg base 2 "boat" ["water", "minutes", "turn"] (spBoat C))
    (G4 : DefOk P wd K mg base 2 "places" ["water", "own", "mark"] (spPlaces C)) (G5 : DefOk P wd K mg base 7 "soonest" ["water"] (spSoonest C)) (G6 : DefOk P wd K mg base 4 "check" ["water", "way"] (spCheck K C)) : FnOk P wd K mg base CX0 8 f fd ["water", "number", "given", "row"] (spAnswer K C) := by
  refine F.ok scAnswer (fun vs H Q E h => ?_) (fun cdv A outer s H vs Q E hr h => ?_)
  · obtain ⟨a, ls, g, r, w, c, n, given, row, rfl, _⟩ := h
    rfl
  · obtain ⟨a, ls, g, r, w, c, n, given, row, rfl, W, ok, hl, hg, hne, hq, hlen, ar, k⟩ := h
    have hr2 : Room 2 _ := hr.mono (by decide)
    have hr4 : Room 4 _ := hr.mono (by decide)
    refine ⟨_, pss_cons (ps_if (pt_cmpR op_eq (pv 1) pe_int (nomark _)) (pss_one (ps_ret (pe_def G1 hr2 rfl (pa_cons (pv 0) (pa_cons (pe_ix ix_list (pv 2) pe_int (fun _ _ => rfl)) pa_nil))))) pss_nil)
      (pss_cons (ps_if (pt_cmpR op_eq (pv 1) pe_int (nomark _)) (pss_one (ps_ret (pe_def G2 hr2 rfl (pa_cons (pv 0) (pa_cons (pv 3) pa_nil))))) pss_nil)
      (pss_cons (ps_if (pt_cmpR op_eq (pv 1) pe_int (nomark _)) (pss_one (ps_ret (pe_def G3 hr2 rfl (pa_cons (pv 0) (pa_cons (pe_slice sl_list (pv 2) po_none (po_some pe_int)) (pa_cons (pe_ix ix_list (pv 2) pe_int (fun _ _ => rfl)) pa_nil)))))) pss_nil)
      (pss_cons (ps_if (pt_cmpR op_eq (pv 1) pe_int (nomark _)) (pss_one (ps_ret (pe_def G4 hr2 rfl (pa_cons (pv 0) (pa_cons (pe_ix ix_list (pv 2) pe_int (fun _ _ => rfl)) (pa_cons (pe_ix ix_list (pv 2) pe_int (fun _ _ => rfl)) pa_nil)))))) pss_nil)
      (pss_one (ps_ret (pe_ifExp (pt_cmpR op_eq (pv 1) pe_int (nomark _)) (pe_def G5 hr rfl (pa_cons (pv 0) pa_nil)) (pe_def G6 hr4 rfl (pa_cons (pv 0) (pa_cons (pv 3) pa_nil))))))))), ?_⟩
    cases ar with
    | shoal c row =>
      refine ⟨_, rfl, rfl, _, rfl, if_true_of (by decide) ?_⟩
      exact ⟨_, rfl, _, rfl, g, _, _, _, rfl, rfl, SqL.of hg, atI_nat (j := 0) rfl, a, ls, w, c, rfl, W, ok, hl, k⟩
    | winds row gg =>
      refine ⟨_, rfl, rfl, _, rfl, if_false_of (by decide) ⟨_, rfl, rfl, _, rfl, if_true_of (by decide) ?_⟩⟩
      exact ⟨_, rfl, _, rfl, a, ls, r, w, row, rfl, W, hq, hlen, k⟩
    | boat x y z u kk row =>
      refine ⟨_, rfl, rfl, _, rfl, if_false_of (by decide) ⟨_, rfl, rfl, _, rfl, if_false_of (by decide) ⟨_, rfl, rfl, _, rfl, if_true_of (by decide) ?_⟩⟩⟩
      refine ⟨_, rfl, _, rfl, 4, rfl, g, _, rfl, SqL.of hg, fun p hp => ?_⟩
      have s1 : Same H (upd H p (.lst (cutV (nv [x, y, z, u, kk]) none (some 4)))) := same_new _ hp
      refine ⟨_, rfl, g, _, _, _, rfl, rfl, SqL.of (s1 _ _ hg), atI_nat (j := 4) rfl, a, ls, p, w, x, y, z, u, kk, rfl, W.same s1, upd_same, ?_, does_mono k W s1 (fun nf hn => ⟨fun z => hn (s1.free z), fun z => hn (by rw [z]; exact hp)⟩)⟩
      obtain ⟨_, _, _, _, h2, _⟩ := W
      exact ne_of_none h2 hp
    | places b m row =>
      refine ⟨_, rfl, rfl, _, rfl, if_false_of (by decide) ⟨_, rfl, rfl, _, rfl, if_false_of (by decide) ⟨_, rfl, rfl, _, rfl, if_false_of (by decide) ⟨_, rfl, rfl, _, rfl, if_true_of (by decide) ?_⟩⟩⟩⟩
      exact ⟨_, rfl, _, rfl, g, _, _, _, rfl, rfl, SqL.of hg, atI_nat (j := 0) rfl, _, rfl, g, _, _, _, rfl, rfl, SqL.of hg, atI_nat (j := 1) rfl, a, ls, w, b, m, rfl, W, ok, k⟩
    | soonest gg row =>
      refine ⟨_, rfl, rfl, _, rfl, if_false_of (by decide) ⟨_, rfl, rfl, _, rfl, if_false_of (by decide) ⟨_, rfl, rfl, _, rfl, if_false_of (by decide) ⟨_, rfl, rfl, _, rfl, if_false_of (by decide) ⟨_, rfl, rfl, _, rfl, if_true_of (by decide) ?_⟩⟩⟩⟩⟩
      exact ⟨_, rfl, a, ls, w, rfl, W, ok, k⟩
    | check row gg =>
      refine ⟨_, rfl, rfl, _, rfl, if_false_of (by decide) ⟨_, rfl, rfl, _, rfl, if_false_of (by decide) ⟨_, rfl, rfl, _, rfl, if_false_of (by decide) ⟨_, rfl, rfl, _, rfl, if_false_of (by decide) ⟨_, rfl, rfl, _, rfl, if_false_of (by decide) ?_⟩⟩⟩⟩⟩
      exact ⟨_, rfl, _, rfl, a, ls, r, w, row, rfl, W, ok, hq, hlen, k⟩
end
end Bw
namespace Bw
open PySem PySem.Spec PyProof.Rows L2
open Uw28 (Water)
theorem cut_iv {ns : List Int} {i j : Nat} {x y : Int} (ex : x = (i : Int)) (ey : y = (j : Int)) (h1 : i ≤ j) (h2 : j ≤ ns.length) : cutV (iv ns) (some x) (some y) = iv ((ns.drop i).take (j - i)) := by
  subst ex ey
  unfold cutV
  rw [HT.sIx_nat, HT.sIx_nat, iv_length, Nat.min_eq_left h2, Nat.min_eq_left (show i ≤ ns.length by omega)]
  unfold iv
  rw [List.map_take, List.map_drop]
theorem iv_get {l : List Int} {i : Nat} {n : Int} (h : l[i]? = some n) : (iv l)[i]? = some (V.int n) := by
  unfold iv
  rw [List.getElem?_map, h]
  rfl
theorem iv_cI (l : List Nat) : iv (cI l) = nv l := (nv_iv l).symm
theorem cI_length (l : List Nat) : (cI l).length = l.length := List.length_map ..
theorem drop_get {ns l : List Int} {i : Nat} (h : ns.drop i = l) (j : Nat) : ns[i + j]? = l[j]? := by
  rw [← h, List.getElem?_drop]
/-- found.append(len(one)); found.extend(one); at = end -/
def rLen (K : PySem.W.Frag) : List V → Hp → VK → Prop := fun xs H Q => ∃ p ys, xs = [.ref p] ∧ (SqL K H p ys ∨ SqT K H p ys) ∧ Q (.int ys.length) H
def tTail (K : PySem.W.Frag) : TS := tSeq (tDrop (tBM K "list" rAppend (tVar 2) (tCons (tCB (rLen K) (tCons (tVar 7) tNil)) tNil))) (tSeq (tDrop (tBM K "list" rExtend (tVar 2) (tCons (tVar 7) tNil))) (tAsg (tVar 5) (gName 3)))
theorem tail_ok {K : PySem.W.Frag} {D : Ends} {σ : L2.St} {H : Hp} {pf p : Addr} {e : V} {acc out : List Int} (h2 : σ[2]? = some (some (.ref pf))) (h7 : σ[7]? = some (some (.ref p))) (h5 : σ[5]? = some (some e)) (hf : H pf = some (.lst (iv acc))) (hp : H p = some (.lst (iv out))) (ne : p ≠ pf)
    (hl : acc.length + 1 + out.length ≤ 1000000) (k : ∀ H', H' pf = some (.lst (iv (acc ++ ((out.length : Int) :: out)))) → (∀ b o, H b = some o → b ≠ pf → H' b = some o) → D.nx (σ.set 3 (some e)) H') : tTail K D σ H := by
  refine ⟨_, h2, .inl ⟨rfl, _, SqL.of hf⟩, _, h7, p, _, rfl, .inl (SqL.of hp), pf, _, _, rfl, rfl, hf, by rw [iv_length, sizeLine_eq]; omega, ?_⟩
  refine ⟨_, h2, .inl ⟨rfl, _, SqL.of upd_same⟩, _, h7, pf, p, _, _, rfl, rfl, upd_same, (upd_ne ne).trans hp, by rw [List.length_append, iv_length, iv_length, List.length_singleton, sizeLine_eq]; omega, _, h5, ?_⟩
  refine k _ ?_ fun b o e hb => by rw [upd_ne hb, upd_ne hb]; exact e
  rw [upd_same, iv_length]
  unfold iv
  rw [List.map_append, List.map_cons, List.append_assoc]
  rfl
section
variable {P : Program} {wd : World} {K : PySem.W.Frag} {mg : Str → Option Value} {base : Heap} {C : Addr}
theorem scAnswers : FnScope ["calls", "water", "found", "at", "number", "end", "row", "one"] ["calls"] (defScope sAnswers) := ⟨rfl, rfl, rfl, by decide +kernel, rfl, by decide +kernel, by decide +kernel⟩
theorem okf_answers {f : Addr} {fd : FuncData} (F : Fun K "answers" "answers" sAnswers f fd) (T : Txt K mg C) (GM : MakeOk P wd K mg base C 1 "Water" ["self", "wide", "high"] (spInit C)) (GB' : DefOk P wd K mg base 3 "begins" ["water", "wide", "high"] (spBegins C)) (GA : DefOk P wd K mg base 8 "answer" ["water", "number", "given", "row"] (spAnswer K C)) :
    FnOk P wd K mg base CX0 9 f fd ["calls"] (spAnswers K) := by
  refine F.ok scAnswers (fun vs H Q E h => ?_) (fun cdv A outer s H vs Q E hr h => ?_)
  · obtain ⟨a, ns, rfl, _⟩ := h
    rfl
  · obtain ⟨a0, ns, rfl, hS, hlen, hask, k⟩ := h
    obtain ⟨aN, gN, kN⟩ := T.g_NUMBERS
    obtain ⟨aL, gL, kL⟩ := T.g_WITH_LIST
    have hr2 : Room (1 + 1) _ := hr.mono (by decide)
    have hr3 : Room 3 _ := hr.mono (by decide)
    refine ⟨_, pss_cons (ps_set (i := 1) scAnswers.nd rfl (Or.inl rfl) (pe_mkk GM hr2 rfl (pa_cons pe_int (pa_cons pe_int pa_nil))))
      (pss_cons (ps_set (i := 2) scAnswers.nd rfl (Or.inl rfl) (pe_lst pa_nil))
      (pss_cons (ps_set (i := 3) scAnswers.nd rfl (Or.inl rfl) pe_int)
      (pss_cons (ps_while PassesOwn.never (pt_cmpR op_lt (pv 3) (pe_callB call_len_seq (by rfl) T.b_len PySem.boot_len (pa_cons (pv 0) pa_nil)) (nomark _))
        (pss_cons (ps_set (i := 4) scAnswers.nd rfl (Or.inl rfl) (pe_ix ix_list (pv 0) (pv 3) (fun _ _ => rfl)))
        (pss_cons (ps_set (i := 5) scAnswers.nd rfl (Or.inl rfl) (pe_op op_add (pe_op op_add (pv 3) pe_int) (pe_ix ix_tup (pe_glob (v := .ref aN) rfl gN rfl) (pv 4) (fun _ _ => rfl))))
        (pss_cons (ps_set (i := 6) scAnswers.nd rfl (Or.inl rfl) (pe_tup pa_nil))
        (pss_cons (ps_if (pt_cmpR op_in_seq (pv 4) (pe_glob (v := .ref aL) rfl gL rfl) (by rfl))
          (pss_cons (ps_set (i := 5) scAnswers.nd rfl (Or.inl rfl) (pe_op op_add (pe_op op_add (pv 3) pe_int) (pe_ix ix_list (pv 0) (pe_op op_add (pv 3) pe_int) (fun _ _ => rfl))))
          (pss_one (ps_set (i := 6) scAnswers.nd rfl (Or.inl rfl) (pe_callTy call_tuple_of (by rfl) T.b_tuple (by decide +kernel) (pa_cons (pe_slice sl_list (pv 0) (po_some (pe_op op_add (pv 3) pe_int)) (po_some (pv 5))) pa_nil))))) pss_nil)
        (pss_cons (ps_if (pt_cmpR op_eq (pv 4) (pe_gi rfl T.g_BEGINS) (nomark _))
          (pss_one (ps_asg (pe_def GB' hr3 rfl (pa_cons (pv 1) (pa_cons (pe_ix ix_list (pv 0) (pe_op op_add (pv 3) pe_int) (fun _ _ => rfl)) (pa_cons (pe_ix ix_list (pv 0) (pe_op op_add (pv 3) pe_int) (fun _ _ => rfl)) pa_nil))))
            (pg_tup rfl (pgs_cons (pg_name (i := 1) scAnswers.nd rfl (.inl rfl)) (pgs_cons (pg_name (i := 7) scAnswers.nd rfl (.inl rfl)) pgs_nil)))))
          (pss_one (ps_set (i := 7) scAnswers.nd rfl (Or.inl rfl) (pe_def GA hr rfl (pa_cons (pv 1) (pa_cons (pv 4) (pa_cons (pe_slice sl_list (pv 0) (po_some (pe_op op_add (pv 3) pe_int)) (po_some (pv 5))) (pa_cons (pv 6) pa_nil))))))))
        (pss_cons (ps_expr (pe_bm PySem.F.plainAttrs_list PySem.F.slot_list_append PySem.F.type_list_append mt_append (pv 2) (pa_cons (pe_callB call_len_seq (by rfl) T.b_len PySem.boot_len (pa_cons (pv 7) pa_nil)) pa_nil)))
        (pss_cons (ps_expr (pe_bm PySem.F.plainAttrs_list PySem.F.slot_list_extend PySem.F.type_list_extend mt_extend (pv 2) (pa_cons (pv 7) pa_nil)))
        (pss_one (ps_set (i := 3) scAnswers.nd rfl (Or.inl rfl) (pv 5)))))))))))
      (pss_one (ps_ret (pv 2)))))), ?_⟩
    -- water = Water(2, 2)
    intro a dx na nd ne
    refine ⟨a, dx, 2, 2, rfl, by decide, by decide, upd_same, fun H1 ls nls W1 kp _ => ⟨rfl, ?_⟩⟩
    have s1 : Same H H1 := Same.made na nd kp
    have nx : ls ≠ a := fun z => by rw [z, upd_same] at nls; cases nls
    have ndx : ls ≠ dx := fun z => by rw [z, upd_ne ne, upd_same] at nls; cases nls
    have nls0 : H ls = none := by rw [upd_ne nx, upd_ne ndx] at nls; exact nls
    -- found = []
    refine ⟨by decide, fun pf hpf => ?_⟩
    have s2 : Same H1 (upd H1 pf (.lst [])) := same_new _ hpf
    have hpf0 : H pf = none := s1.free hpf
    obtain ⟨raw0, hc0, hin0, hans⟩ := asked_start hask
    have hpl : pf ≠ ls := by
      obtain ⟨_, _, _, _, h2, _⟩ := W1
      exact Ne.symm (ne_of_none h2 hpf)
    have aw0 : Away C (upd H1 pf (.lst [])) a pf := by
      obtain ⟨_, _, _, h1, _, h3, h4, _⟩ := W1
      exact away_of (s2 _ _ h1) (Ne.symm (ne_of_none h3 hpf)) (Ne.symm (ne_of_none h4 hpf))
    -- the loop
    refine ⟨fun m σ H' => ∃ (at_ : Nat) (a ls : Addr) (w : Water) (acc : List Int) (raw : List (List (List Int))) (f : Nat) (v4 v5 v6 v7 : Option V), σ = [some (.ref a0), some (.ref a), some (.ref pf), some (.int (at_ : Int)), v4, v5, v6, v7] ∧ Same H H' ∧ H a = none ∧ H ls = none ∧ pf ≠ ls ∧ WatAt C H' a ls w ∧ Away C H' a pf ∧ H' pf = some (.lst (iv acc)) ∧ Ok w ∧ w.shoals.length ≤ at_ ∧ acc.length ≤ 42 * at_ ∧ at_ ≤ ns.length ∧
      PyFlat.calls PyUw28.shape f (ns.drop at_) = some raw ∧ PyInside.calls PyUw28.bound raw = true ∧ acc ++ toldOf w raw = PyUw28.answers ns ∧ m = ns.length - at_, ⟨_, 0, a, ls, Uw28.init, [], raw0, ns.length, _, _, _, _, rfl, s1.trans s2, na, nls0, hpl, W1.same s2, aw0, upd_same, Bw.ok_init, Nat.zero_le _, Nat.zero_le _, Nat.zero_le _, hc0, hin0, hans.symm, rfl⟩, ?_⟩
    rintro m σ H2 ⟨at_, a, ls, w, acc, raw, fu, v4, v5, v6, v7, rfl, S2, ha0, hl0, hpl, W, aw2, hpf2, ok, hsh, hacc, hat, hcs, hin, htold, rfl⟩
    have hS2 := S2.seq hS
    refine ⟨_, rfl, _, rfl, a0, _, rfl, .inl hS2, _, _, rfl, rfl, _, rfl, ?_⟩
    by_cases cw : at_ < ns.length
    · refine if_true_of (decide_eq_true (by rw [iv_length]; omega)) ?_
      cases hdr : ns.drop at_ with
      | nil =>
        have := List.length_drop (i := at_) (l := ns)
        rw [hdr, List.length_nil] at this
        omega
      | cons p r =>
      rw [hdr] at hcs
      obtain ⟨c, t, rc, raw', f', cut, eraw, hcs', hin', hstep⟩ := (next_of hcs hin).ex
      subst eraw
      rw [told_cons hstep] at htold
      have hout := out_len w c
      have hshoal := shoals_step w c
      have okc := ok_step ok c
      -- the next turn
      refine ⟨fun σ' H' => ∃ m', m' < ns.length - at_ ∧ ∃ (at_ : Nat) (a ls : Addr) (w : Water) (acc : List Int) (raw : List (List (List Int))) (f : Nat) (v4 v5 v6 v7 : Option V), σ' = [some (.ref a0), some (.ref a), some (.ref pf), some (.int (at_ : Int)), v4, v5, v6, v7] ∧ Same H H' ∧ H a = none ∧ H ls = none ∧ pf ≠ ls ∧ WatAt C H' a ls w ∧ Away C H' a pf ∧ H' pf = some (.lst (iv acc)) ∧ Ok w ∧ w.shoals.length ≤ at_ ∧ acc.length ≤ 42 * at_ ∧ at_ ≤ ns.length ∧
        PyFlat.calls PyUw28.shape f (ns.drop at_) = some raw ∧ PyInside.calls PyUw28.bound raw = true ∧ acc ++ toldOf w raw = PyUw28.answers ns ∧ m' = ns.length - at_, fun σ' H' z => z, ?_⟩
      -- behind a call: k1 numbers are taken
      have again : ∀ (k1 : Nat) (a' ls' p' : Addr) (H' : Hp) (e : Int) (u4 u6 : Option V), 1 ≤ k1 → at_ + k1 ≤ ns.length → ns.drop (at_ + k1) = t → e = ((at_ + k1 : Nat) : Int) → Same H H' → H a' = none → H ls' = none → pf ≠ ls' → WatAt C H' a' ls' (Uw28.step w c).1 → Away C H' a' pf → H' pf = some (.lst (iv acc)) → H' p' = some (.lst (outV w c)) → p' ≠ pf →
          tTail K { nx := fun σ' H' => ∃ m', m' < ns.length - at_ ∧ ∃ (at_ : Nat) (a ls : Addr) (w : Water) (acc : List Int) (raw : List (List (List Int))) (f : Nat) (v4 v5 v6 v7 : Option V), σ' = [some (.ref a0), some (.ref a), some (.ref pf), some (.int (at_ : Int)), v4, v5, v6, v7] ∧ Same H H' ∧ H a = none ∧ H ls = none ∧ pf ≠ ls ∧ WatAt C H' a ls w ∧ Away C H' a pf ∧ H' pf = some (.lst (iv acc)) ∧ Ok w ∧ w.shoals.length ≤ at_ ∧ acc.length ≤ 42 * at_ ∧ at_ ≤ ns.length ∧
            PyFlat.calls PyUw28.shape f (ns.drop at_) = some raw ∧ PyInside.calls PyUw28.bound raw = true ∧ acc ++ toldOf w raw = PyUw28.answers ns ∧ m' = ns.length - at_, rt := Q } [some (.ref a0), some (.ref a'), some (.ref pf), some (.int (at_ : Int)), u4, some (.int e), u6, some (.ref p')] H' := by
        intro k1 a' ls' p' H' e u4 u6 h1 h2 h3 h4 h5 h6 h7 h8 h9 haw h10 h11 h12
        refine tail_ok rfl rfl rfl h10 h11 h12 (by omega) fun H'' g1 g2 => ?_
        subst h4
        have hpa : pf ≠ a' := by
          obtain ⟨_, _, _, z, _⟩ := h9
          exact ne_of h10 z (fun z => nomatch z)
        refine ⟨ns.length - (at_ + k1), by omega, at_ + k1, a', ls', (Uw28.step w c).1, acc ++ (((Uw28Neutral.out (Uw28.step w c).2).length : Int) :: Uw28Neutral.out (Uw28.step w c).2), raw', f', _, _, _, _, rfl, fun b o q => g2 b o (h5 b o q) (ne_of_none q hpf0), h6, h7, h8, ?_, ?_, g1, okc, by omega, ?_, h2, by rw [h3]; exact hcs', hin', ?_, rfl⟩
        · obtain ⟨dx', lw', lm', q1, q2, q3, q4, q5⟩ := h9
          -- found is none of the water's lists
          have hnl : ∀ b xs, H' b = some (.lst xs) → b ≠ pf → H'' b = some (.lst xs) := fun b xs q hb => g2 b _ q hb
          exact ⟨dx', lw', lm', g2 _ _ q1 (Ne.symm hpa), hnl _ _ q2 (Ne.symm h8), hnl _ _ q3 (Ne.symm (haw _ _ _ _ _ q1).1), hnl _ _ q4 (Ne.symm (haw _ _ _ _ _ q1).2), q5⟩
        · obtain ⟨_, _, _, q1, _⟩ := h9
          exact haw.keep ((g2 _ _ q1 (Ne.symm hpa)).trans q1.symm)
        · rw [List.length_append, List.length_cons]
          omega
        · rw [← htold]
          simp only [List.append_assoc, List.cons_append]
      have hsz : ns.length = at_ + (p :: r).length := by
        have := List.length_drop (i := at_) (l := ns)
        rw [hdr] at this
        omega
      have hpfn : H2 pf ≠ none := by rw [hpf2]; exact fun z => nomatch z
      have g0 : ns[at_]? = some p := drop_get hdr 0
      cases cut with
      | begins x y ec =>
        subst ec
        have hdt : ns.drop (at_ + 3) = t := by rw [← List.drop_drop, hdr]; rfl
        refine ⟨_, rfl, _, rfl, a0, _, _, _, rfl, rfl, hS2, at_of rfl (iv_get g0), ?_⟩
        refine ⟨_, rfl, _, _, rfl, rfl, _, rfl, aN, _, _, _, rfl, rfl, kN H2, atI_nat (j := 0) rfl, _, _, rfl, rfl, ?_⟩
        refine ⟨by decide, fun e1 he1 => ?_⟩
        have s3 : Same H2 (upd H2 e1 (.tup [])) := same_new _ he1
        refine ⟨_, rfl, aL, _, rfl, .inr (kL _), rfl, rfl, _, rfl, if_false_of (by decide) ?_⟩
        refine ⟨_, rfl, rfl, _, rfl, if_true_of (by decide) ?_⟩
        have hS3 := s3.seq hS2
        refine ⟨_, rfl, _, rfl, _, rfl, _, _, rfl, rfl, a0, _, _, _, rfl, rfl, hS3, at_of (j := at_ + 1) (by omega) (iv_get (drop_get hdr 1)), _, rfl, _, rfl, _, _, rfl, rfl, a0, _, _, _, rfl, rfl, hS3, at_of (j := at_ + 2) (by omega) (iv_get (drop_get hdr 2)), a, ls, w, x, y, rfl, W.same s3, fun H4 q p4 a4 ls4 S4 hq4 np4 hp4 W4 alt pne aw4 => ?_⟩
        refine ⟨q, _, rfl, SqT.of hq4, rfl, _, _, rfl, _, _, rfl, rfl, ?_⟩
        have hsz' : ns.length = at_ + (t.length + 3) := hsz
        refine again 3 a4 ls4 p4 H4 _ _ _ (by decide) (by omega) hdt ?_ ((S2.trans s3).trans S4) ?_ ?_ ?_ W4 (aw4 pf (fun z => hpfn (s3.free z)) (aw2.keep (same_at s3 (wat_get W)))) (S4 _ _ (s3 _ _ hpf2)) hp4 ?_
        · show (at_ : Int) + 1 + ((2 : Nat) : Int) = ((at_ + 3 : Nat) : Int)
          omega
        · rcases alt with ⟨z, _⟩ | ⟨z, _⟩
          · rw [z]; exact ha0
          · exact (S2.trans s3).free z
        · rcases alt with ⟨_, z⟩ | ⟨_, z⟩
          · rw [z]; exact hl0
          · exact (S2.trans s3).free z
        · rcases alt with ⟨_, z⟩ | ⟨_, z⟩
          · rw [z]; exact hpl
          · exact ne_of_none (s3 _ _ hpf2) z
        · exact Ne.symm (ne_of_none (s3 _ _ hpf2) np4)
      | plain n given hca n0 n2 n6 hnum =>
        have hdt : ns.drop (at_ + (1 + given.length)) = t := by
          rw [← List.drop_drop, hdr, Nat.add_comm, List.drop_succ_cons, List.drop_append_of_le_length (by rw [cI_length]; exact Nat.le_refl _), List.drop_of_length_le (by rw [cI_length]; exact Nat.le_refl _)]
          rfl
        have hdg : ns.drop (at_ + 1) = cI given ++ t := by rw [← List.drop_drop, hdr]; rfl
        have hsz' : ns.length = at_ + (given.length + t.length + 1) := by
          rw [hsz, List.length_cons, List.length_append, cI_length]
        refine ⟨_, rfl, _, rfl, a0, _, _, _, rfl, rfl, hS2, at_of rfl (iv_get g0), ?_⟩
        refine ⟨_, rfl, _, _, rfl, rfl, _, rfl, aN, _, _, _, rfl, rfl, kN H2, atI_nat (nv_get hnum), _, _, rfl, rfl, ?_⟩
        refine ⟨by decide, fun e1 he1 => ?_⟩
        have s3 : Same H2 (upd H2 e1 (.tup [])) := same_new _ he1
        refine ⟨_, rfl, aL, _, rfl, .inr (kL _), rfl, rfl, _, rfl, if_false_of ?_ ?_⟩
        · show inV (.int (n : Int)) (nv [2, 6]) = false
          rw [inV_nv]
          simp [n2, n6]
        refine ⟨_, rfl, rfl, _, rfl, if_false_of (by rw [int_ne]; exact decide_eq_false (by omega)) ?_⟩
        have hS3 := s3.seq hS2
        refine ⟨_, rfl, _, rfl, _, rfl, _, rfl, _, _, rfl, rfl, _, rfl, _, rfl, _, rfl, a0, _, rfl, hS3, fun g hg => ?_⟩
        have ecut : cutV (iv ns) (some ((at_ : Int) + 1)) (some ((at_ : Int) + 1 + (given.length : Int))) = nv given := by
          rw [cut_iv (i := at_ + 1) (j := at_ + 1 + given.length) (by omega) (by omega) (by omega) (by omega), hdg, Nat.add_sub_cancel_left, List.take_append_of_le_length (by rw [cI_length]; exact Nat.le_refl _), List.take_of_length_le (by rw [cI_length]; exact Nat.le_refl _), iv_cI]
        have s4 : Same (upd H2 e1 (.tup [])) (upd (upd H2 e1 (.tup [])) g (.lst (cutV (iv ns) (some ((at_ : Int) + 1)) (some ((at_ : Int) + 1 + (given.length : Int)))))) := same_new _ hg
        have S4 := s3.trans s4
        have hls2 : ∃ o, H2 ls = some o := by
          obtain ⟨_, _, _, _, h2, _⟩ := W
          exact ⟨_, h2⟩
        refine ⟨_, rfl, a, ls, g, e1, w, c, n, given, [], rfl, W.same S4, ok, by omega, ?_, ?_, SqT.of (s4 _ _ upd_same), by decide, hca, fun H5 p5 W5 fr5 aw5 np5 hp5 => ?_⟩
        · rw [upd_same, ecut]
        · obtain ⟨o, ho⟩ := hls2
          exact ne_of_none (s3 _ _ ho) hg
        · have hpfa : pf ≠ a := by
            obtain ⟨_, _, _, z, _⟩ := W
            exact ne_of hpf2 z (fun z => nomatch z)
          refine again (1 + given.length) a ls p5 H5 _ _ _ (by omega) (by omega) hdt ?_ (fun b o q => fr5 b o (S4 _ _ (S2 b o q)) (ne_of_none q ha0) (ne_of_none q hl0)) ha0 hl0 hpl W5 (aw5 pf (fun z => hpfn (S4.free z)) (aw2.keep (same_at S4 (wat_get W)))) (fr5 _ _ (S4 _ _ hpf2) hpfa hpl) hp5 (Ne.symm (ne_of_none (S4 _ _ hpf2) np5))
          show (at_ : Int) + 1 + (given.length : Int) = ((at_ + (1 + given.length) : Nat) : Int)
          omega
      | list n row hca hn hrl =>
        have hdt : ns.drop (at_ + (2 + row.length)) = t := by
          rw [← List.drop_drop, hdr, Nat.add_comm, List.drop_succ_cons, List.drop_succ_cons, List.drop_append_of_le_length (by rw [cI_length]; exact Nat.le_refl _), List.drop_of_length_le (by rw [cI_length]; exact Nat.le_refl _)]
          rfl
        have hdg : ns.drop (at_ + 1) = (row.length : Int) :: (cI row ++ t) := by rw [← List.drop_drop, hdr]; rfl
        have hdr2 : ns.drop (at_ + 2) = cI row ++ t := by rw [← List.drop_drop, hdr]; rfl
        have hsz' : ns.length = at_ + (row.length + t.length + 1 + 1) := by
          rw [hsz, List.length_cons, List.length_cons, List.length_append, cI_length]
        have hnum : nums[n]? = some 0 := by rcases hn with rfl | rfl <;> rfl
        refine ⟨_, rfl, _, rfl, a0, _, _, _, rfl, rfl, hS2, at_of rfl (iv_get g0), ?_⟩
        refine ⟨_, rfl, _, _, rfl, rfl, _, rfl, aN, _, _, _, rfl, rfl, kN H2, atI_nat (nv_get hnum), _, _, rfl, rfl, ?_⟩
        refine ⟨by decide, fun e1 he1 => ?_⟩
        have s3 : Same H2 (upd H2 e1 (.tup [])) := same_new _ he1
        have hS3 := s3.seq hS2
        refine ⟨_, rfl, aL, _, rfl, .inr (kL _), rfl, rfl, _, rfl, if_true_of ?_ ?_⟩
        · show inV (.int (n : Int)) (nv [2, 6]) = true
          rw [inV_nv]
          rcases hn with rfl | rfl <;> decide
        refine ⟨_, rfl, _, _, rfl, rfl, _, rfl, _, rfl, _, _, rfl, rfl, a0, _, _, _, rfl, rfl, hS3, at_of (j := at_ + 1) (by omega) (iv_get (drop_get hdr 1)), _, _, rfl, rfl, ?_⟩
        refine ⟨_, rfl, _, rfl, _, _, rfl, rfl, _, rfl, _, rfl, _, rfl, a0, _, rfl, hS3, fun l hl => ?_⟩
        have ecut1 : cutV (iv ns) (some ((at_ : Int) + 2)) (some ((at_ : Int) + 2 + (row.length : Int))) = nv row := by
          rw [cut_iv (i := at_ + 2) (j := at_ + 2 + row.length) (by omega) (by omega) (by omega) (by omega), hdr2, Nat.add_sub_cancel_left, List.take_append_of_le_length (by rw [cI_length]; exact Nat.le_refl _), List.take_of_length_le (by rw [cI_length]; exact Nat.le_refl _), iv_cI]
        have s4 : Same (upd H2 e1 (.tup [])) (upd (upd H2 e1 (.tup [])) l (.lst (cutV (iv ns) (some ((at_ : Int) + 2)) (some ((at_ : Int) + 2 + (row.length : Int)))))) := same_new _ hl
        refine ⟨l, _, rfl, .inl ⟨SqL.of upd_same, fun tq htq => ?_⟩⟩
        have s5 := same_new (.tup (cutV (iv ns) (some ((at_ : Int) + 2)) (some ((at_ : Int) + 2 + (row.length : Int))))) htq
        have S5 := (s3.trans s4).trans s5
        have hS5 := S5.seq hS2
        refine ⟨_, rfl, rfl, _, rfl, if_false_of (by rw [int_ne]; exact decide_eq_false (by omega)) ?_⟩
        refine ⟨_, rfl, _, rfl, _, rfl, _, rfl, _, _, rfl, rfl, _, rfl, _, rfl, _, rfl, a0, _, rfl, hS5, fun g hg => ?_⟩
        have ecut2 : cutV (iv ns) (some ((at_ : Int) + 1)) (some ((at_ : Int) + 2 + (row.length : Int))) = nv (row.length :: row) := by
          rw [cut_iv (i := at_ + 1) (j := at_ + 1 + (1 + row.length)) (by omega) (by omega) (by omega) (by omega), hdg, Nat.add_sub_cancel_left, Nat.add_comm 1, List.take_succ_cons, List.take_append_of_le_length (by rw [cI_length]; exact Nat.le_refl _), List.take_of_length_le (by rw [cI_length]; exact Nat.le_refl _)]
          exact iv_cI (row.length :: row)
        have s6 := same_new (.lst (cutV (iv ns) (some ((at_ : Int) + 1)) (some ((at_ : Int) + 2 + (row.length : Int))))) hg
        have S6 := S5.trans s6
        have hls2 : ∃ o, H2 ls = some o := by
          obtain ⟨_, _, _, _, h2, _⟩ := W
          exact ⟨_, h2⟩
        refine ⟨_, rfl, a, ls, g, tq, w, c, n, row.length :: row, row, rfl, W.same S6, ok, by omega, ?_, ?_, ?_, by omega, hca _, fun H7 p7 W7 fr7 aw7 np7 hp7 => ?_⟩
        · rw [upd_same, ecut2]
        · obtain ⟨o, ho⟩ := hls2
          exact ne_of_none (S5 _ _ ho) hg
        · have := s6 _ _ (upd_same (a := tq) (o := .tup (cutV (iv ns) (some ((at_ : Int) + 2)) (some ((at_ : Int) + 2 + (row.length : Int))))))
          rw [ecut1] at this
          rw [ecut1]
          exact SqT.of this
        · have hpfa : pf ≠ a := by
            obtain ⟨_, _, _, z, _⟩ := W
            exact ne_of hpf2 z (fun z => nomatch z)
          refine again (2 + row.length) a ls p7 H7 _ _ _ (by omega) (by omega) hdt ?_ (fun b o q => fr7 b o (S6 _ _ (S2 b o q)) (ne_of_none q ha0) (ne_of_none q hl0)) ha0 hl0 hpl W7 (aw7 pf (fun z => hpfn (S6.free z)) (aw2.keep (same_at S6 (wat_get W)))) (fr7 _ _ (S6 _ _ hpf2) hpfa hpl) hp7 (Ne.symm (ne_of_none (S6 _ _ hpf2) np7))
          show (at_ : Int) + 2 + (row.length : Int) = ((at_ + (2 + row.length) : Nat) : Int)
          omega
    · refine if_false_of (decide_eq_false (by rw [iv_length]; omega)) ?_
      obtain rfl : at_ = ns.length := by omega
      rw [List.drop_length] at hcs
      have er : raw = [] := by
        cases fu <;> exact (Option.some.inj hcs).symm
      rw [er, told_nil, List.append_nil] at htold
      rw [htold] at hpf2
      exact ⟨_, rfl, k H2 pf hpf2⟩
end
end Bw
namespace Bw
open PySem PySem.Spec PyProof.Rows L2
open PySem.W (Codec)
open Uw28 (Water)
theorem all_mk {P : Program} {w : World} {K : PySem.W.Frag} {h : Heap} {mg : Str → Option Value}
    {fa C W U L q0 q1 q2 q3 q4 q5 q6 q7 f1 f2 f3 f4 f5 f6 f7 f8 f9 f10 f11 f12 f13 f14 f15 f16 f17 f18 f19 f20 f21 f22 f23 f24 f25 f26 f27 f28 f29 : Addr}
    {od1 an1 od2 an2 od3 an3 od4 an4 od5 an5 od6 an6 od7 an7 od8 an8 od9 an9 od10 an10 od11 an11 od12 an12 od13 an13 od14 an14 od15 an15 od16 an16 od17 an17 od18 an18 od19 an19 od20 an20 od21 an21 od22 an22 od23 an23 od24 an24 od25 an25 od26 an26 od27 an27 od28 an28 od29 an29 odW odU odL odq0 odq1 odq2 odq3 odq4 odq5 odq6 odq7 : Option Addr}
    {sl1 sl2 sl3 sl4 sl5 sl6 sl7 sl8 sl9 sl10 sl11 sl12 sl13 sl14 sl15 sl16 sl17 sl18 sl19 sl20 sl21 sl22 sl23 sl24 sl25 sl26 sl27 sl28 sl29 slW slU slL slq0 slq1 slq2 slq3 slq4 slq5 slq6 slq7 : Array (Option Value)}
    {oc1 kV1 dc1 pm1 cd1 ct1 oc2 kV2 dc2 pm2 cd2 ct2 oc3 kV3 dc3 pm3 cd3 ct3 oc4 kV4 dc4 pm4 cd4 ct4 oc5 kV5 dc5 pm5 cd5 ct5 oc6 kV6 dc6 pm6 cd6 ct6 oc7 kV7 dc7 pm7 cd7 ct7 oc8 kV8 dc8 pm8 cd8 ct8 oc9 kV9 dc9 pm9 cd9 ct9 oc10 kV10 dc10 pm10 cd10 ct10 oc11 kV11 dc11 pm11 cd11 ct11 oc12 kV12 dc12 pm12 cd12 ct12 oc13 kV13 dc13 pm13 cd13 ct13 oc14 kV14 dc14 pm14 cd14 ct14 oc15 kV15 dc15 pm15 cd15 ct15 oc16 kV16 dc16 pm16 cd16 ct16 oc17 kV17 dc17 pm17 cd17 ct17 oc18 kV18 dc18 pm18 cd18 ct18 oc19 kV19 dc19 pm19 cd19 ct19 oc20 kV20 dc20 pm20 cd20 ct20 oc21 kV21 dc21 pm21 cd21 ct21 oc22 kV22 dc22 pm22 cd22 ct22 oc23 kV23 dc23 pm23 cd23 ct23 oc24 kV24 dc24 pm24 cd24 ct24 oc25 kV25 dc25 pm25 cd25 ct25 oc26 kV26 dc26 pm26 cd26 ct26 oc27 kV27 dc27 pm27 cd27 ct27 oc28 kV28 dc28 pm28 cd28 ct28 oc29 kV29 dc29 pm29 cd29 ct29 : Value}
    {t_HEADINGS t_STRAIGHT t_NO_SIDE t_MOST_MINUTES t_SIDES t_OUT t_NO_CELL t_IN_THE_WAY t_IS_SHOAL t_NO_WAY t_LEAST_SIZE t_MOST_SIZE t_MOST_WINDS t_MOST_TAKEN t_MOST_STEPS t_BEGINS tx0 ty0 tx1 ty1 tx2 ty2 tx3 ty3 tx4 ty4 tx5 ty5 tx6 ty6 tx7 ty7 tu0 tu1 tu2 tu3 tu4 tu5 tu6 tl0 tl1 : Tok}
    {nW nU nL nq0 nq1 nq2 nq3 nq4 nq5 nq6 nq7 : Nat}
    (X : K.In h) (G : h.Ns mainGlobals mg) (hfa : mg "answers" = some (.ref fa))
    (aC : PySem.W.nsIn K mainGlobals "Water" = some (some (.ref C)))
    (a1 : PySem.W.findIn K (.ref C) "__init__" = some (some (.ref f1)))
    (i1 : PySem.W.isFn K (.ref f1) = true)
    (l1 : K.lookup f1 = some ⟨oc1, od1, .func (PySem.W.fnOf "__init__" "Water.__init__" (defArgs sInit) (defBody sInit) (defScope sInit) .none kV1 dc1 pm1 an1 cd1 ct1), sl1⟩)
    (c1 : PySem.W.codeIn K cd1 "Water.__init__" = true)
    (k1 : PySem.W.keepIn K (.ref f1) = true)
    (a2 : PySem.W.findIn K (.ref C) "cells" = some (some (.ref f2)))
    (i2 : PySem.W.isFn K (.ref f2) = true)
    (l2 : K.lookup f2 = some ⟨oc2, od2, .func (PySem.W.fnOf "cells" "Water.cells" (defArgs sCells) (defBody sCells) (defScope sCells) .none kV2 dc2 pm2 an2 cd2 ct2), sl2⟩)
    (c2 : PySem.W.codeIn K cd2 "Water.cells" = true)
    (k2 : PySem.W.keepIn K (.ref f2) = true)
    (a3 : PySem.W.findIn K (.ref C) "add_shoal" = some (some (.ref f3)))
    (i3 : PySem.W.isFn K (.ref f3) = true)
    (l3 : K.lookup f3 = some ⟨oc3, od3, .func (PySem.W.fnOf "add_shoal" "Water.add_shoal" (defArgs sAddShoal) (defBody sAddShoal) (defScope sAddShoal) .none kV3 dc3 pm3 an3 cd3 ct3), sl3⟩)
    (c3 : PySem.W.codeIn K cd3 "Water.add_shoal" = true)
    (k3 : PySem.W.keepIn K (.ref f3) = true)
    (a4 : PySem.W.findIn K (.ref C) "set_winds" = some (some (.ref f4)))
    (i4 : PySem.W.isFn K (.ref f4) = true)
    (l4 : K.lookup f4 = some ⟨oc4, od4, .func (PySem.W.fnOf "set_winds" "Water.set_winds" (defArgs sSetWinds) (defBody sSetWinds) (defScope sSetWinds) .none kV4 dc4 pm4 an4 cd4 ct4), sl4⟩)
    (c4 : PySem.W.codeIn K cd4 "Water.set_winds" = true)
    (k4 : PySem.W.keepIn K (.ref f4) = true)
    (a5 : PySem.W.findIn K (.ref C) "set_boat" = some (some (.ref f5)))
    (i5 : PySem.W.isFn K (.ref f5) = true)
    (l5 : K.lookup f5 = some ⟨oc5, od5, .func (PySem.W.fnOf "set_boat" "Water.set_boat" (defArgs sSetBoat) (defBody sSetBoat) (defScope sSetBoat) .none kV5 dc5 pm5 an5 cd5 ct5), sl5⟩)
    (c5 : PySem.W.codeIn K cd5 "Water.set_boat" = true)
    (k5 : PySem.W.keepIn K (.ref f5) = true)
    (a6 : PySem.W.findIn K (.ref C) "set_places" = some (some (.ref f6)))
    (i6 : PySem.W.isFn K (.ref f6) = true)
    (l6 : K.lookup f6 = some ⟨oc6, od6, .func (PySem.W.fnOf "set_places" "Water.set_places" (defArgs sSetPlaces) (defBody sSetPlaces) (defScope sSetPlaces) .none kV6 dc6 pm6 an6 cd6 ct6), sl6⟩)
    (c6 : PySem.W.codeIn K cd6 "Water.set_places" = true)
    (k6 : PySem.W.keepIn K (.ref f6) = true)
    (a7 : PySem.W.findIn K (.ref C) "wind" = some (some (.ref f7)))
    (i7 : PySem.W.isFn K (.ref f7) = true)
    (l7 : K.lookup f7 = some ⟨oc7, od7, .func (PySem.W.fnOf "wind" "Water.wind" (defArgs sWind) (defBody sWind) (defScope sWind) .none kV7 dc7 pm7 an7 cd7 ct7), sl7⟩)
    (c7 : PySem.W.codeIn K cd7 "Water.wind" = true)
    (k7 : PySem.W.keepIn K (.ref f7) = true)
    (a8 : PySem.W.findIn K (.ref C) "next_cell" = some (some (.ref f8)))
    (i8 : PySem.W.isFn K (.ref f8) = true)
    (l8 : K.lookup f8 = some ⟨oc8, od8, .func (PySem.W.fnOf "next_cell" "Water.next_cell" (defArgs sNextCell) (defBody sNextCell) (defScope sNextCell) .none kV8 dc8 pm8 an8 cd8 ct8), sl8⟩)
    (c8 : PySem.W.codeIn K cd8 "Water.next_cell" = true)
    (k8 : PySem.W.keepIn K (.ref f8) = true)
    (a9 : PySem.W.findIn K (.ref C) "off_wind" = some (some (.ref f9)))
    (i9 : PySem.W.isFn K (.ref f9) = true)
    (l9 : K.lookup f9 = some ⟨oc9, od9, .func (PySem.W.fnOf "off_wind" "Water.off_wind" (defArgs sOffWind) (defBody sOffWind) (defScope sOffWind) .none kV9 dc9 pm9 an9 cd9 ct9), sl9⟩)
    (c9 : PySem.W.codeIn K cd9 "Water.off_wind" = true)
    (k9 : PySem.W.keepIn K (.ref f9) = true)
    (a10 : PySem.W.findIn K (.ref C) "taken" = some (some (.ref f10)))
    (i10 : PySem.W.isFn K (.ref f10) = true)
    (l10 : K.lookup f10 = some ⟨oc10, od10, .func (PySem.W.fnOf "taken" "Water.taken" (defArgs sTaken) (defBody sTaken) (defScope sTaken) .none kV10 dc10 pm10 an10 cd10 ct10), sl10⟩)
    (c10 : PySem.W.codeIn K cd10 "Water.taken" = true)
    (k10 : PySem.W.keepIn K (.ref f10) = true)
    (a11 : PySem.W.findIn K (.ref C) "step" = some (some (.ref f11)))
    (i11 : PySem.W.isFn K (.ref f11) = true)
    (l11 : K.lookup f11 = some ⟨oc11, od11, .func (PySem.W.fnOf "step" "Water.step" (defArgs sStep) (defBody sStep) (defScope sStep) .none kV11 dc11 pm11 an11 cd11 ct11), sl11⟩)
    (c11 : PySem.W.codeIn K cd11 "Water.step" = true)
    (k11 : PySem.W.keepIn K (.ref f11) = true)
    (a12 : PySem.W.findIn K (.ref C) "start" = some (some (.ref f12)))
    (i12 : PySem.W.isFn K (.ref f12) = true)
    (l12 : K.lookup f12 = some ⟨oc12, od12, .func (PySem.W.fnOf "start" "Water.start" (defArgs sStart) (defBody sStart) (defScope sStart) .none kV12 dc12 pm12 an12 cd12 ct12), sl12⟩)
    (c12 : PySem.W.codeIn K cd12 "Water.start" = true)
    (k12 : PySem.W.keepIn K (.ref f12) = true)
    (a13 : PySem.W.nsIn K mainGlobals "side_of" = some (some (.ref f13)))
    (l13 : K.lookup f13 = some ⟨oc13, od13, .func (PySem.W.fnOf "side_of" "side_of" (defArgs sSideOf) (defBody sSideOf) (defScope sSideOf) .none kV13 dc13 pm13 an13 cd13 ct13), sl13⟩)
    (c13 : PySem.W.codeIn K cd13 "side_of" = true)
    (k13 : PySem.W.keepIn K (.ref f13) = true)
    (a14 : PySem.W.nsIn K mainGlobals "reached" = some (some (.ref f14)))
    (l14 : K.lookup f14 = some ⟨oc14, od14, .func (PySem.W.fnOf "reached" "reached" (defArgs sReached) (defBody sReached) (defScope sReached) .none kV14 dc14 pm14 an14 cd14 ct14), sl14⟩)
    (c14 : PySem.W.codeIn K cd14 "reached" = true)
    (k14 : PySem.W.keepIn K (.ref f14) = true)
    (a15 : PySem.W.nsIn K mainGlobals "soonest_minute" = some (some (.ref f15)))
    (l15 : K.lookup f15 = some ⟨oc15, od15, .func (PySem.W.fnOf "soonest_minute" "soonest_minute" (defArgs sSoonMin) (defBody sSoonMin) (defScope sSoonMin) .none kV15 dc15 pm15 an15 cd15 ct15), sl15⟩)
    (c15 : PySem.W.codeIn K cd15 "soonest_minute" = true)
    (k15 : PySem.W.keepIn K (.ref f15) = true)
    (a16 : PySem.W.nsIn K mainGlobals "good_states" = some (some (.ref f16)))
    (l16 : K.lookup f16 = some ⟨oc16, od16, .func (PySem.W.fnOf "good_states" "good_states" (defArgs sGood) (defBody sGood) (defScope sGood) .none kV16 dc16 pm16 an16 cd16 ct16), sl16⟩)
    (c16 : PySem.W.codeIn K cd16 "good_states" = true)
    (k16 : PySem.W.keepIn K (.ref f16) = true)
    (a17 : PySem.W.nsIn K mainGlobals "first_good" = some (some (.ref f17)))
    (l17 : K.lookup f17 = some ⟨oc17, od17, .func (PySem.W.fnOf "first_good" "first_good" (defArgs sFirst) (defBody sFirst) (defScope sFirst) .none kV17 dc17 pm17 an17 cd17 ct17), sl17⟩)
    (c17 : PySem.W.codeIn K cd17 "first_good" = true)
    (k17 : PySem.W.keepIn K (.ref f17) = true)
    (a18 : PySem.W.nsIn K mainGlobals "soonest_way" = some (some (.ref f18)))
    (l18 : K.lookup f18 = some ⟨oc18, od18, .func (PySem.W.fnOf "soonest_way" "soonest_way" (defArgs sWay) (defBody sWay) (defScope sWay) .none kV18 dc18 pm18 an18 cd18 ct18), sl18⟩)
    (c18 : PySem.W.codeIn K cd18 "soonest_way" = true)
    (k18 : PySem.W.keepIn K (.ref f18) = true)
    (a19 : PySem.W.nsIn K mainGlobals "is_size" = some (some (.ref f19)))
    (l19 : K.lookup f19 = some ⟨oc19, od19, .func (PySem.W.fnOf "is_size" "is_size" (defArgs sIsSize) (defBody sIsSize) (defScope sIsSize) .none kV19 dc19 pm19 an19 cd19 ct19), sl19⟩)
    (c19 : PySem.W.codeIn K cd19 "is_size" = true)
    (k19 : PySem.W.keepIn K (.ref f19) = true)
    (a20 : PySem.W.nsIn K mainGlobals "begins" = some (some (.ref f20)))
    (l20 : K.lookup f20 = some ⟨oc20, od20, .func (PySem.W.fnOf "begins" "begins" (defArgs sBegins) (defBody sBegins) (defScope sBegins) .none kV20 dc20 pm20 an20 cd20 ct20), sl20⟩)
    (c20 : PySem.W.codeIn K cd20 "begins" = true)
    (k20 : PySem.W.keepIn K (.ref f20) = true)
    (a21 : PySem.W.nsIn K mainGlobals "shoal" = some (some (.ref f21)))
    (l21 : K.lookup f21 = some ⟨oc21, od21, .func (PySem.W.fnOf "shoal" "shoal" (defArgs sShoal) (defBody sShoal) (defScope sShoal) .none kV21 dc21 pm21 an21 cd21 ct21), sl21⟩)
    (c21 : PySem.W.codeIn K cd21 "shoal" = true)
    (k21 : PySem.W.keepIn K (.ref f21) = true)
    (a22 : PySem.W.nsIn K mainGlobals "are_headings" = some (some (.ref f22)))
    (l22 : K.lookup f22 = some ⟨oc22, od22, .func (PySem.W.fnOf "are_headings" "are_headings" (defArgs sHeads) (defBody sHeads) (defScope sHeads) .none kV22 dc22 pm22 an22 cd22 ct22), sl22⟩)
    (c22 : PySem.W.codeIn K cd22 "are_headings" = true)
    (k22 : PySem.W.keepIn K (.ref f22) = true)
    (a23 : PySem.W.nsIn K mainGlobals "winds" = some (some (.ref f23)))
    (l23 : K.lookup f23 = some ⟨oc23, od23, .func (PySem.W.fnOf "winds" "winds" (defArgs sWinds) (defBody sWinds) (defScope sWinds) .none kV23 dc23 pm23 an23 cd23 ct23), sl23⟩)
    (c23 : PySem.W.codeIn K cd23 "winds" = true)
    (k23 : PySem.W.keepIn K (.ref f23) = true)
    (a24 : PySem.W.nsIn K mainGlobals "boat" = some (some (.ref f24)))
    (l24 : K.lookup f24 = some ⟨oc24, od24, .func (PySem.W.fnOf "boat" "boat" (defArgs sBoat) (defBody sBoat) (defScope sBoat) .none kV24 dc24 pm24 an24 cd24 ct24), sl24⟩)
    (c24 : PySem.W.codeIn K cd24 "boat" = true)
    (k24 : PySem.W.keepIn K (.ref f24) = true)
    (a25 : PySem.W.nsIn K mainGlobals "places" = some (some (.ref f25)))
    (l25 : K.lookup f25 = some ⟨oc25, od25, .func (PySem.W.fnOf "places" "places" (defArgs sPlaces) (defBody sPlaces) (defScope sPlaces) .none kV25 dc25 pm25 an25 cd25 ct25), sl25⟩)
    (c25 : PySem.W.codeIn K cd25 "places" = true)
    (k25 : PySem.W.keepIn K (.ref f25) = true)
    (a26 : PySem.W.nsIn K mainGlobals "soonest" = some (some (.ref f26)))
    (l26 : K.lookup f26 = some ⟨oc26, od26, .func (PySem.W.fnOf "soonest" "soonest" (defArgs sSoonest) (defBody sSoonest) (defScope sSoonest) .none kV26 dc26 pm26 an26 cd26 ct26), sl26⟩)
    (c26 : PySem.W.codeIn K cd26 "soonest" = true)
    (k26 : PySem.W.keepIn K (.ref f26) = true)
    (a27 : PySem.W.nsIn K mainGlobals "check" = some (some (.ref f27)))
    (l27 : K.lookup f27 = some ⟨oc27, od27, .func (PySem.W.fnOf "check" "check" (defArgs sCheck) (defBody sCheck) (defScope sCheck) .none kV27 dc27 pm27 an27 cd27 ct27), sl27⟩)
    (c27 : PySem.W.codeIn K cd27 "check" = true)
    (k27 : PySem.W.keepIn K (.ref f27) = true)
    (a28 : PySem.W.nsIn K mainGlobals "answer" = some (some (.ref f28)))
    (l28 : K.lookup f28 = some ⟨oc28, od28, .func (PySem.W.fnOf "answer" "answer" (defArgs sAnswer) (defBody sAnswer) (defScope sAnswer) .none kV28 dc28 pm28 an28 cd28 ct28), sl28⟩)
    (c28 : PySem.W.codeIn K cd28 "answer" = true)
    (k28 : PySem.W.keepIn K (.ref f28) = true)
    (a29 : PySem.W.nsIn K mainGlobals "answers" = some (some (.ref f29)))
    (l29 : K.lookup f29 = some ⟨oc29, od29, .func (PySem.W.fnOf "answers" "answers" (defArgs sAnswers) (defBody sAnswers) (defScope sAnswers) .none kV29 dc29 pm29 an29 cd29 ct29), sl29⟩)
    (c29 : PySem.W.codeIn K cd29 "answers" = true)
    (k29 : PySem.W.keepIn K (.ref f29) = true)
    (pg : PySem.W.plainGet K C Str.empty = true)
    (hd : PySem.W.hasDictIn K C = true)
    (po : PySem.W.plainOver K C = true)
    (sa : PySem.W.findIn K (.ref C) "__setattr__" = some (some (.builtin "object.__setattr__")))
    (mk : PySem.W.makesIn K C = true)
    (kc : PySem.W.keepIn K (.ref C) = true)
    (n_wide : PySem.W.findIn K (.ref C) "wide" = some none)
    (n_high : PySem.W.findIn K (.ref C) "high" = some none)
    (n_shoals : PySem.W.findIn K (.ref C) "shoals" = some none)
    (n_winds : PySem.W.findIn K (.ref C) "winds" = some none)
    (n_minutes : PySem.W.findIn K (.ref C) "minutes" = some none)
    (n_turn : PySem.W.findIn K (.ref C) "turn" = some none)
    (n_boat : PySem.W.findIn K (.ref C) "boat" = some none)
    (n_mark : PySem.W.findIn K (.ref C) "mark" = some none)
    (g_HEADINGS : PySem.W.nsIn K mainGlobals "HEADINGS" = some (some (.int (8) t_HEADINGS)))
    (g_STRAIGHT : PySem.W.nsIn K mainGlobals "STRAIGHT" = some (some (.int (4) t_STRAIGHT)))
    (g_NO_SIDE : PySem.W.nsIn K mainGlobals "NO_SIDE" = some (some (.int (0) t_NO_SIDE)))
    (g_MOST_MINUTES : PySem.W.nsIn K mainGlobals "MOST_MINUTES" = some (some (.int (40) t_MOST_MINUTES)))
    (g_SIDES : PySem.W.nsIn K mainGlobals "SIDES" = some (some (.int (3) t_SIDES)))
    (g_OUT : PySem.W.nsIn K mainGlobals "OUT" = some (some (.int (-1) t_OUT)))
    (g_NO_CELL : PySem.W.nsIn K mainGlobals "NO_CELL" = some (some (.int (-2) t_NO_CELL)))
    (g_IN_THE_WAY : PySem.W.nsIn K mainGlobals "IN_THE_WAY" = some (some (.int (-3) t_IN_THE_WAY)))
    (g_IS_SHOAL : PySem.W.nsIn K mainGlobals "IS_SHOAL" = some (some (.int (-4) t_IS_SHOAL)))
    (g_NO_WAY : PySem.W.nsIn K mainGlobals "NO_WAY" = some (some (.int (-6) t_NO_WAY)))
    (g_LEAST_SIZE : PySem.W.nsIn K mainGlobals "LEAST_SIZE" = some (some (.int (2) t_LEAST_SIZE)))
    (g_MOST_SIZE : PySem.W.nsIn K mainGlobals "MOST_SIZE" = some (some (.int (5) t_MOST_SIZE)))
    (g_MOST_WINDS : PySem.W.nsIn K mainGlobals "MOST_WINDS" = some (some (.int (12) t_MOST_WINDS)))
    (g_MOST_TAKEN : PySem.W.nsIn K mainGlobals "MOST_TAKEN" = some (some (.int (9) t_MOST_TAKEN)))
    (g_MOST_STEPS : PySem.W.nsIn K mainGlobals "MOST_STEPS" = some (some (.int (40) t_MOST_STEPS)))
    (g_BEGINS : PySem.W.nsIn K mainGlobals "BEGINS" = some (some (.int (0) t_BEGINS)))
    (b_len : PySem.W.nsIn K mainGlobals "len" = some none)
    (b_min : PySem.W.nsIn K mainGlobals "min" = some none)
    (b_max : PySem.W.nsIn K mainGlobals "max" = some none)
    (b_range : PySem.W.nsIn K mainGlobals "range" = some none)
    (b_list : PySem.W.nsIn K mainGlobals "list" = some none)
    (b_tuple : PySem.W.nsIn K mainGlobals "tuple" = some none)
    (b_enumerate : PySem.W.nsIn K mainGlobals "enumerate" = some none)
    (aW : PySem.W.nsIn K mainGlobals "WAYS" = some (some (.ref W)))
    (lW : K.lookup W = some ⟨.type "tuple", odW, .seq #[.ref q0, .ref q1, .ref q2, .ref q3, .ref q4, .ref q5, .ref q6, .ref q7] nW, slW⟩)
    (lq0 : K.lookup q0 = some ⟨.type "tuple", odq0, .seq #[.int (0) tx0, .int (-1) ty0] nq0, slq0⟩)
    (lq1 : K.lookup q1 = some ⟨.type "tuple", odq1, .seq #[.int (1) tx1, .int (-1) ty1] nq1, slq1⟩)
    (lq2 : K.lookup q2 = some ⟨.type "tuple", odq2, .seq #[.int (1) tx2, .int (0) ty2] nq2, slq2⟩)
    (lq3 : K.lookup q3 = some ⟨.type "tuple", odq3, .seq #[.int (1) tx3, .int (1) ty3] nq3, slq3⟩)
    (lq4 : K.lookup q4 = some ⟨.type "tuple", odq4, .seq #[.int (0) tx4, .int (1) ty4] nq4, slq4⟩)
    (lq5 : K.lookup q5 = some ⟨.type "tuple", odq5, .seq #[.int (-1) tx5, .int (1) ty5] nq5, slq5⟩)
    (lq6 : K.lookup q6 = some ⟨.type "tuple", odq6, .seq #[.int (-1) tx6, .int (0) ty6] nq6, slq6⟩)
    (lq7 : K.lookup q7 = some ⟨.type "tuple", odq7, .seq #[.int (-1) tx7, .int (-1) ty7] nq7, slq7⟩)
    (aU : PySem.W.nsIn K mainGlobals "NUMBERS" = some (some (.ref U)))
    (lU : K.lookup U = some ⟨.type "tuple", odU, .seq #[.int 2 tu0, .int 1 tu1, .int 0 tu2, .int 5 tu3, .int 2 tu4, .int 0 tu5, .int 0 tu6] nU, slU⟩)
    (aL : PySem.W.nsIn K mainGlobals "WITH_LIST" = some (some (.ref L)))
    (lL : K.lookup L = some ⟨.type "tuple", odL, .seq #[.int 2 tl0, .int 6 tl1] nL, slL⟩)
    : ∃ fd : FuncData, (∀ (s : Shared) (us : List Value), us.length = (["calls"] : List Str).length → BindsTo s fd ⟨us, []⟩ ((["calls"] : List Str).zip us)) ∧ ∀ base : Heap, K.In base → base.Ns mainGlobals mg → FnOk P w K mg base CX0 9 fa fd ["calls"] (spAnswers K) := by
  have e := hfa.symm.trans (PySem.W.mg_of X G a29)
  cases e
  have T : Txt K mg C := {
    cl := ⟨pg, hd, po, sa⟩
    gC := PySem.W.mg_of X G aC
    n_wide := n_wide
    n_high := n_high
    n_shoals := n_shoals
    n_winds := n_winds
    n_minutes := n_minutes
    n_turn := n_turn
    n_boat := n_boat
    n_mark := n_mark
    g_HEADINGS := ⟨_, PySem.W.mg_of X G g_HEADINGS⟩
    g_STRAIGHT := ⟨_, PySem.W.mg_of X G g_STRAIGHT⟩
    g_NO_SIDE := ⟨_, PySem.W.mg_of X G g_NO_SIDE⟩
    g_MOST_MINUTES := ⟨_, PySem.W.mg_of X G g_MOST_MINUTES⟩
    g_SIDES := ⟨_, PySem.W.mg_of X G g_SIDES⟩
    g_OUT := ⟨_, PySem.W.mg_of X G g_OUT⟩
    g_NO_CELL := ⟨_, PySem.W.mg_of X G g_NO_CELL⟩
    g_IN_THE_WAY := ⟨_, PySem.W.mg_of X G g_IN_THE_WAY⟩
    g_IS_SHOAL := ⟨_, PySem.W.mg_of X G g_IS_SHOAL⟩
    g_NO_WAY := ⟨_, PySem.W.mg_of X G g_NO_WAY⟩
    g_LEAST_SIZE := ⟨_, PySem.W.mg_of X G g_LEAST_SIZE⟩
    g_MOST_SIZE := ⟨_, PySem.W.mg_of X G g_MOST_SIZE⟩
    g_MOST_WINDS := ⟨_, PySem.W.mg_of X G g_MOST_WINDS⟩
    g_MOST_TAKEN := ⟨_, PySem.W.mg_of X G g_MOST_TAKEN⟩
    g_MOST_STEPS := ⟨_, PySem.W.mg_of X G g_MOST_STEPS⟩
    g_BEGINS := ⟨_, PySem.W.mg_of X G g_BEGINS⟩
    g_WAYS := ⟨W, [q0, q1, q2, q3, q4, q5, q6, q7], PySem.W.mg_of X G aW, fun H => .inr ⟨_, _, _, lW, rfl, rfl, by show 8 ≤ sizeLine; decide, (.cons rfl (.cons rfl (.cons rfl (.cons rfl (.cons rfl (.cons rfl (.cons rfl (.cons rfl .nil))))))))⟩, fun h hh => match h, hh with
      | 0, _ => ⟨q0, rfl, fun H => .inr ⟨_, _, _, lq0, rfl, rfl, by show 2 ≤ sizeLine; decide, .cons ⟨_, rfl⟩ (.cons ⟨_, rfl⟩ .nil)⟩⟩
      | 1, _ => ⟨q1, rfl, fun H => .inr ⟨_, _, _, lq1, rfl, rfl, by show 2 ≤ sizeLine; decide, .cons ⟨_, rfl⟩ (.cons ⟨_, rfl⟩ .nil)⟩⟩
      | 2, _ => ⟨q2, rfl, fun H => .inr ⟨_, _, _, lq2, rfl, rfl, by show 2 ≤ sizeLine; decide, .cons ⟨_, rfl⟩ (.cons ⟨_, rfl⟩ .nil)⟩⟩
      | 3, _ => ⟨q3, rfl, fun H => .inr ⟨_, _, _, lq3, rfl, rfl, by show 2 ≤ sizeLine; decide, .cons ⟨_, rfl⟩ (.cons ⟨_, rfl⟩ .nil)⟩⟩
      | 4, _ => ⟨q4, rfl, fun H => .inr ⟨_, _, _, lq4, rfl, rfl, by show 2 ≤ sizeLine; decide, .cons ⟨_, rfl⟩ (.cons ⟨_, rfl⟩ .nil)⟩⟩
      | 5, _ => ⟨q5, rfl, fun H => .inr ⟨_, _, _, lq5, rfl, rfl, by show 2 ≤ sizeLine; decide, .cons ⟨_, rfl⟩ (.cons ⟨_, rfl⟩ .nil)⟩⟩
      | 6, _ => ⟨q6, rfl, fun H => .inr ⟨_, _, _, lq6, rfl, rfl, by show 2 ≤ sizeLine; decide, .cons ⟨_, rfl⟩ (.cons ⟨_, rfl⟩ .nil)⟩⟩
      | 7, _ => ⟨q7, rfl, fun H => .inr ⟨_, _, _, lq7, rfl, rfl, by show 2 ≤ sizeLine; decide, .cons ⟨_, rfl⟩ (.cons ⟨_, rfl⟩ .nil)⟩⟩⟩
    g_NUMBERS := ⟨U, PySem.W.mg_of X G aU, fun H => .inr ⟨_, _, _, lU, rfl, rfl, by show 7 ≤ sizeLine; decide, (.cons ⟨_, rfl⟩ (.cons ⟨_, rfl⟩ (.cons ⟨_, rfl⟩ (.cons ⟨_, rfl⟩ (.cons ⟨_, rfl⟩ (.cons ⟨_, rfl⟩ (.cons ⟨_, rfl⟩ .nil)))))))⟩⟩
    g_WITH_LIST := ⟨L, PySem.W.mg_of X G aL, fun H => .inr ⟨_, _, _, lL, rfl, rfl, by show 2 ≤ sizeLine; decide, (.cons ⟨_, rfl⟩ (.cons ⟨_, rfl⟩ .nil))⟩⟩
    b_len := PySem.W.mg_none_of X G b_len
    b_min := PySem.W.mg_none_of X G b_min
    b_max := PySem.W.mg_none_of X G b_max
    b_range := PySem.W.mg_none_of X G b_range
    b_list := PySem.W.mg_none_of X G b_list
    b_tuple := PySem.W.mg_none_of X G b_tuple
    b_enumerate := PySem.W.mg_none_of X G b_enumerate
  }
  have F1 := fun_mk (st := sInit) l1 c1 k1
  have b1 := F1.binds (ps := ["self", "wide", "high"]) fun _ _ _ _ _ _ us hl => match us, hl with | [_, _, _], _ => rfl
  have F2 := fun_mk (st := sCells) l2 c2 k2
  have b2 := F2.binds (ps := ["self"]) fun _ _ _ _ _ _ us hl => match us, hl with | [_], _ => rfl
  have F3 := fun_mk (st := sAddShoal) l3 c3 k3
  have b3 := F3.binds (ps := ["self", "cell"]) fun _ _ _ _ _ _ us hl => match us, hl with | [_, _], _ => rfl
  have F4 := fun_mk (st := sSetWinds) l4 c4 k4
  have b4 := F4.binds (ps := ["self", "row"]) fun _ _ _ _ _ _ us hl => match us, hl with | [_, _], _ => rfl
  have F5 := fun_mk (st := sSetBoat) l5 c5 k5
  have b5 := F5.binds (ps := ["self", "minutes", "turn"]) fun _ _ _ _ _ _ us hl => match us, hl with | [_, _, _], _ => rfl
  have F6 := fun_mk (st := sSetPlaces) l6 c6 k6
  have b6 := F6.binds (ps := ["self", "boat", "mark"]) fun _ _ _ _ _ _ us hl => match us, hl with | [_, _, _], _ => rfl
  have F7 := fun_mk (st := sWind) l7 c7 k7
  have b7 := F7.binds (ps := ["self", "minute"]) fun _ _ _ _ _ _ us hl => match us, hl with | [_, _], _ => rfl
  have F8 := fun_mk (st := sNextCell) l8 c8 k8
  have b8 := F8.binds (ps := ["self", "cell", "heading"]) fun _ _ _ _ _ _ us hl => match us, hl with | [_, _, _], _ => rfl
  have F9 := fun_mk (st := sOffWind) l9 c9 k9
  have b9 := F9.binds (ps := ["self", "minute", "heading"]) fun _ _ _ _ _ _ us hl => match us, hl with | [_, _, _], _ => rfl
  have F10 := fun_mk (st := sTaken) l10 c10 k10
  have b10 := F10.binds (ps := ["self", "side", "off"]) fun _ _ _ _ _ _ us hl => match us, hl with | [_, _, _], _ => rfl
  have F11 := fun_mk (st := sStep) l11 c11 k11
  have b11 := F11.binds (ps := ["self", "state", "heading"]) fun _ _ _ _ _ _ us hl => match us, hl with | [_, _, _], _ => rfl
  have F12 := fun_mk (st := sStart) l12 c12 k12
  have b12 := F12.binds (ps := ["self"]) fun _ _ _ _ _ _ us hl => match us, hl with | [_], _ => rfl
  have F13 := fun_mk (st := sSideOf) l13 c13 k13
  have b13 := F13.binds (ps := ["off"]) fun _ _ _ _ _ _ us hl => match us, hl with | [_], _ => rfl
  have F14 := fun_mk (st := sReached) l14 c14 k14
  have b14 := F14.binds (ps := ["water"]) fun _ _ _ _ _ _ us hl => match us, hl with | [_], _ => rfl
  have F15 := fun_mk (st := sSoonMin) l15 c15 k15
  have b15 := F15.binds (ps := ["water"]) fun _ _ _ _ _ _ us hl => match us, hl with | [_], _ => rfl
  have F16 := fun_mk (st := sGood) l16 c16 k16
  have b16 := F16.binds (ps := ["water", "last"]) fun _ _ _ _ _ _ us hl => match us, hl with | [_, _], _ => rfl
  have F17 := fun_mk (st := sFirst) l17 c17 k17
  have b17 := F17.binds (ps := ["water", "found", "state"]) fun _ _ _ _ _ _ us hl => match us, hl with | [_, _, _], _ => rfl
  have F18 := fun_mk (st := sWay) l18 c18 k18
  have b18 := F18.binds (ps := ["water", "last"]) fun _ _ _ _ _ _ us hl => match us, hl with | [_, _], _ => rfl
  have F19 := fun_mk (st := sIsSize) l19 c19 k19
  have b19 := F19.binds (ps := ["number"]) fun _ _ _ _ _ _ us hl => match us, hl with | [_], _ => rfl
  have F20 := fun_mk (st := sBegins) l20 c20 k20
  have b20 := F20.binds (ps := ["water", "wide", "high"]) fun _ _ _ _ _ _ us hl => match us, hl with | [_, _, _], _ => rfl
  have F21 := fun_mk (st := sShoal) l21 c21 k21
  have b21 := F21.binds (ps := ["water", "cell"]) fun _ _ _ _ _ _ us hl => match us, hl with | [_, _], _ => rfl
  have F22 := fun_mk (st := sHeads) l22 c22 k22
  have b22 := F22.binds (ps := ["row", "most"]) fun _ _ _ _ _ _ us hl => match us, hl with | [_, _], _ => rfl
  have F23 := fun_mk (st := sWinds) l23 c23 k23
  have b23 := F23.binds (ps := ["water", "row"]) fun _ _ _ _ _ _ us hl => match us, hl with | [_, _], _ => rfl
  have F24 := fun_mk (st := sBoat) l24 c24 k24
  have b24 := F24.binds (ps := ["water", "minutes", "turn"]) fun _ _ _ _ _ _ us hl => match us, hl with | [_, _, _], _ => rfl
  have F25 := fun_mk (st := sPlaces) l25 c25 k25
  have b25 := F25.binds (ps := ["water", "own", "mark"]) fun _ _ _ _ _ _ us hl => match us, hl with | [_, _, _], _ => rfl
  have F26 := fun_mk (st := sSoonest) l26 c26 k26
  have b26 := F26.binds (ps := ["water"]) fun _ _ _ _ _ _ us hl => match us, hl with | [_], _ => rfl
  have F27 := fun_mk (st := sCheck) l27 c27 k27
  have b27 := F27.binds (ps := ["water", "way"]) fun _ _ _ _ _ _ us hl => match us, hl with | [_, _], _ => rfl
  have F28 := fun_mk (st := sAnswer) l28 c28 k28
  have b28 := F28.binds (ps := ["water", "number", "given", "row"]) fun _ _ _ _ _ _ us hl => match us, hl with | [_, _, _, _], _ => rfl
  have F29 := fun_mk (st := sAnswers) l29 c29 k29
  have b29 := F29.binds (ps := ["calls"]) fun _ _ _ _ _ _ us hl => match us, hl with | [_], _ => rfl
  refine ⟨PySem.W.fnOf "answers" "answers" (defArgs sAnswers) (defBody sAnswers) (defScope sAnswers) .none kV29 dc29 pm29 an29 cd29 ct29, fun s us hu => match us, hu with | [_], _ => .of_eq rfl, fun base _ _ => ?_⟩
  have GInit : MakeOk P w K mg base C 1 "Water" ["self", "wide", "high"] (spInit C) := ⟨T.gC, f1, _, okf_init F1 T , ⟨mk, a1, i1, kc⟩, b1⟩
  have GCells : MethOk P w K mg base C 1 "cells" ["self"] (spCells C) := ⟨T.cl, f2, _, okf_cells F2 T , ⟨a2, i2, k2⟩, b2⟩
  have GAddShoal : MethOk P w K mg base C 1 "add_shoal" ["self", "cell"] (spAddShoal C) := ⟨T.cl, f3, _, okf_add F3 T , ⟨a3, i3, k3⟩, b3⟩
  have GSetWinds : MethOk P w K mg base C 1 "set_winds" ["self", "row"] (spSetWinds C) := ⟨T.cl, f4, _, okf_setWinds F4 T , ⟨a4, i4, k4⟩, b4⟩
  have GSetBoat : MethOk P w K mg base C 1 "set_boat" ["self", "minutes", "turn"] (spSetBoat C) := ⟨T.cl, f5, _, okf_setBoat F5 T , ⟨a5, i5, k5⟩, b5⟩
  have GSetPlaces : MethOk P w K mg base C 1 "set_places" ["self", "boat", "mark"] (spSetPlaces C) := ⟨T.cl, f6, _, okf_setPlaces F6 T , ⟨a6, i6, k6⟩, b6⟩
  have GWind : MethOk P w K mg base C 1 "wind" ["self", "minute"] (spWind C) := ⟨T.cl, f7, _, okf_wind F7 T , ⟨a7, i7, k7⟩, b7⟩
  have GNextCell : MethOk P w K mg base C 1 "next_cell" ["self", "cell", "heading"] (spNextCell C) := ⟨T.cl, f8, _, okf_next F8 T , ⟨a8, i8, k8⟩, b8⟩
  have GStart : MethOk P w K mg base C 1 "start" ["self"] (spStart C) := ⟨T.cl, f12, _, okf_start F12 T , ⟨a12, i12, k12⟩, b12⟩
  have GSideOf : DefOk P w K mg base 1 "side_of" ["off"] (spSideOf) := ⟨f13, _, okf_side F13 T , PySem.W.mg_of X G a13, k13, b13⟩
  have GOffWind : MethOk P w K mg base C 2 "off_wind" ["self", "minute", "heading"] (spOffWind C) := ⟨T.cl, f9, _, okf_off F9 T GWind, ⟨a9, i9, k9⟩, b9⟩
  have GTaken : MethOk P w K mg base C 2 "taken" ["self", "side", "off"] (spTaken C) := ⟨T.cl, f10, _, okf_taken F10 T GSideOf, ⟨a10, i10, k10⟩, b10⟩
  have GStep : MethOk P w K mg base C 3 "step" ["self", "state", "heading"] (spStep C) := ⟨T.cl, f11, _, okf_step F11 T GSideOf GOffWind GNextCell GTaken, ⟨a11, i11, k11⟩, b11⟩
  have GReached : DefOk P w K mg base 4 "reached" ["water"] (spReached C) := ⟨f14, _, okf_reached F14 T GStart GStep, PySem.W.mg_of X G a14, k14, b14⟩
  have GSoonMin : DefOk P w K mg base 5 "soonest_minute" ["water"] (spSoonMin C) := ⟨f15, _, okf_soonMin F15 T GReached, PySem.W.mg_of X G a15, k15, b15⟩
  have GFirst : DefOk P w K mg base 4 "first_good" ["water", "found", "state"] (spFirst C) := ⟨f17, _, okf_first F17 T GStep, PySem.W.mg_of X G a17, k17, b17⟩
  have GGood : DefOk P w K mg base 5 "good_states" ["water", "last"] (spGood C) := ⟨f16, _, okf_good F16 T GCells GFirst, PySem.W.mg_of X G a16, k16, b16⟩
  have GWay : DefOk P w K mg base 6 "soonest_way" ["water", "last"] (spWay C) := ⟨f18, _, okf_way F18 T GStart GStep GGood, PySem.W.mg_of X G a18, k18, b18⟩
  have GIsSize : DefOk P w K mg base 1 "is_size" ["number"] (spIsSize) := ⟨f19, _, okf_size F19 T , PySem.W.mg_of X G a19, k19, b19⟩
  have GBegins : DefOk P w K mg base 3 "begins" ["water", "wide", "high"] (spBegins C) := ⟨f20, _, okf_begins F20 T GIsSize GInit, PySem.W.mg_of X G a20, k20, b20⟩
  have GShoal : DefOk P w K mg base 2 "shoal" ["water", "cell"] (spShoal C) := ⟨f21, _, okf_shoal F21 T GCells GAddShoal, PySem.W.mg_of X G a21, k21, b21⟩
  have GHeads : DefOk P w K mg base 1 "are_headings" ["row", "most"] (spHeads K) := ⟨f22, _, okf_heads F22 T , PySem.W.mg_of X G a22, k22, b22⟩
  have GWinds : DefOk P w K mg base 2 "winds" ["water", "row"] (spWinds K C) := ⟨f23, _, okf_winds F23 T GHeads GSetWinds, PySem.W.mg_of X G a23, k23, b23⟩
  have GBoat : DefOk P w K mg base 2 "boat" ["water", "minutes", "turn"] (spBoat C) := ⟨f24, _, okf_boat F24 T GSetBoat, PySem.W.mg_of X G a24, k24, b24⟩
  have GPlaces : DefOk P w K mg base 2 "places" ["water", "own", "mark"] (spPlaces C) := ⟨f25, _, okf_places F25 T GCells GSetPlaces, PySem.W.mg_of X G a25, k25, b25⟩
  have GSoonest : DefOk P w K mg base 7 "soonest" ["water"] (spSoonest C) := ⟨f26, _, okf_soonest F26 T GSoonMin GWay, PySem.W.mg_of X G a26, k26, b26⟩
  have GCheck : DefOk P w K mg base 4 "check" ["water", "way"] (spCheck K C) := ⟨f27, _, okf_check F27 T GHeads GStart GStep, PySem.W.mg_of X G a27, k27, b27⟩
  have GAnswer : DefOk P w K mg base 8 "answer" ["water", "number", "given", "row"] (spAnswer K C) := ⟨f28, _, okf_answer F28 T GShoal GWinds GBoat GPlaces GSoonest GCheck, PySem.W.mg_of X G a28, k28, b28⟩
  exact okf_answers F29 T GInit GBegins GAnswer
end Bw
open PySem PySem.W PyProof.Rows
set_option maxRecDepth 100000 in
set_option maxHeartbeats 8000000 in
theorem PySem.Challenge.cw_beatingway_s01_answers_holds : PySem.Challenge.rw_beatingway_s01_answers.Holds := by
  w_on; k_headS; (case hw => exact ⟨[.list [.int 1, .int 9]], by decide +kernel, by decide +kernel⟩)
  k_fillS
  refine L2.walk_specK (r := PySem.Challenge.rw_beatingway_s01_answers) (k := 9) (CX := L2.CX0) (ps := ["calls"]) (sp := Bw.spAnswers) (by decide +kernel) rfl rfl ⟨rfl, by decide, by decide⟩ (fun w h Y => PySem.W.kIn_of Y) ?F ?S (fun _ _ _ _ z => z)
  case F =>
    intro w mg fa h Y KX G hmg
    refine' Bw.all_mk KX G hmg ?aC ?a1 ?i1 ?l1 ?c1 ?k1 ?a2 ?i2 ?l2 ?c2 ?k2 ?a3 ?i3 ?l3 ?c3 ?k3 ?a4 ?i4 ?l4 ?c4 ?k4 ?a5 ?i5 ?l5 ?c5 ?k5 ?a6 ?i6 ?l6 ?c6 ?k6 ?a7 ?i7 ?l7 ?c7 ?k7 ?a8 ?i8 ?l8 ?c8 ?k8 ?a9 ?i9 ?l9 ?c9 ?k9 ?a10 ?i10 ?l10 ?c10 ?k10 ?a11 ?i11 ?l11 ?c11 ?k11 ?a12 ?i12 ?l12 ?c12 ?k12 ?a13 ?l13 ?c13 ?k13 ?a14 ?l14 ?c14 ?k14 ?a15 ?l15 ?c15 ?k15 ?a16 ?l16 ?c16 ?k16 ?a17 ?l17 ?c17 ?k17 ?a18 ?l18 ?c18 ?k18 ?a19 ?l19 ?c19 ?k19 ?a20 ?l20 ?c20 ?k20 ?a21 ?l21 ?c21 ?k21 ?a22 ?l22 ?c22 ?k22 ?a23 ?l23 ?c23 ?k23 ?a24 ?l24 ?c24 ?k24 ?a25 ?l25 ?c25 ?k25 ?a26 ?l26 ?c26 ?k26 ?a27 ?l27 ?c27 ?k27 ?a28 ?l28 ?c28 ?k28 ?a29 ?l29 ?c29 ?k29 ?pg ?hd ?po ?sa ?mk ?kc ?n_wide ?n_high ?n_shoals ?n_winds ?n_minutes ?n_turn ?n_boat ?n_mark ?g_HEADINGS ?g_STRAIGHT ?g_NO_SIDE ?g_MOST_MINUTES ?g_SIDES ?g_OUT ?g_NO_CELL ?g_IN_THE_WAY ?g_IS_SHOAL ?g_NO_WAY ?g_LEAST_SIZE ?g_MOST_SIZE ?g_MOST_WINDS ?g_MOST_TAKEN ?g_MOST_STEPS ?g_BEGINS ?b_len ?b_min ?b_max ?b_range ?b_list ?b_tuple ?b_enumerate ?aW ?lW ?lq0 ?lq1 ?lq2 ?lq3 ?lq4 ?lq5 ?lq6 ?lq7 ?aU ?lU ?aL ?lL
    (case aC => k_is)
    (case a1 => k_is)
    (case i1 => k_is)
    (case l1 => k_is)
    (case c1 => k_is)
    (case k1 => k_is)
    (case a2 => k_is)
    (case i2 => k_is)
    (case l2 => k_is)
    (case c2 => k_is)
    (case k2 => k_is)
    (case a3 => k_is)
    (case i3 => k_is)
    (case l3 => k_is)
    (case c3 => k_is)
    (case k3 => k_is)
    (case a4 => k_is)
    (case i4 => k_is)
    (case l4 => k_is)
    (case c4 => k_is)
    (case k4 => k_is)
    (case a5 => k_is)
    (case i5 => k_is)
    (case l5 => k_is)
    (case c5 => k_is)
    (case k5 => k_is)
    (case a6 => k_is)
    (case i6 => k_is)
    (case l6 => k_is)
    (case c6 => k_is)
    (case k6 => k_is)
    (case a7 => k_is)
    (case i7 => k_is)
    (case l7 => k_is)
    (case c7 => k_is)
    (case k7 => k_is)
    (case a8 => k_is)
    (case i8 => k_is)
    (case l8 => k_is)
    (case c8 => k_is)
    (case k8 => k_is)
    (case a9 => k_is)
    (case i9 => k_is)
    (case l9 => k_is)
    (case c9 => k_is)
    (case k9 => k_is)
    (case a10 => k_is)
    (case i10 => k_is)
    (case l10 => k_is)
    (case c10 => k_is)
    (case k10 => k_is)
    (case a11 => k_is)
    (case i11 => k_is)
    (case l11 => k_is)
    (case c11 => k_is)
    (case k11 => k_is)
    (case a12 => k_is)
    (case i12 => k_is)
    (case l12 => k_is)
    (case c12 => k_is)
    (case k12 => k_is)
    (case a13 => k_is)
    (case l13 => k_is)
    (case c13 => k_is)
    (case k13 => k_is)
    (case a14 => k_is)
    (case l14 => k_is)
    (case c14 => k_is)
    (case k14 => k_is)
    (case a15 => k_is)
    (case l15 => k_is)
    (case c15 => k_is)
    (case k15 => k_is)
    (case a16 => k_is)
    (case l16 => k_is)
    (case c16 => k_is)
    (case k16 => k_is)
    (case a17 => k_is)
    (case l17 => k_is)
    (case c17 => k_is)
    (case k17 => k_is)
    (case a18 => k_is)
    (case l18 => k_is)
    (case c18 => k_is)
    (case k18 => k_is)
    (case a19 => k_is)
    (case l19 => k_is)
    (case c19 => k_is)
    (case k19 => k_is)
    (case a20 => k_is)
    (case l20 => k_is)
    (case c20 => k_is)
    (case k20 => k_is)
    (case a21 => k_is)
    (case l21 => k_is)
    (case c21 => k_is)
    (case k21 => k_is)
    (case a22 => k_is)
    (case l22 => k_is)
    (case c22 => k_is)
    (case k22 => k_is)
    (case a23 => k_is)
    (case l23 => k_is)
    (case c23 => k_is)
    (case k23 => k_is)
    (case a24 => k_is)
    (case l24 => k_is)
    (case c24 => k_is)
    (case k24 => k_is)
    (case a25 => k_is)
    (case l25 => k_is)
    (case c25 => k_is)
    (case k25 => k_is)
    (case a26 => k_is)
    (case l26 => k_is)
    (case c26 => k_is)
    (case k26 => k_is)
    (case a27 => k_is)
    (case l27 => k_is)
    (case c27 => k_is)
    (case k27 => k_is)
    (case a28 => k_is)
    (case l28 => k_is)
    (case c28 => k_is)
    (case k28 => k_is)
    (case a29 => k_is)
    (case l29 => k_is)
    (case c29 => k_is)
    (case k29 => k_is)
    (case pg => k_is)
    (case hd => k_is)
    (case po => k_is)
    (case sa => k_is)
    (case mk => k_is)
    (case kc => k_is)
    (case n_wide => k_is)
    (case n_high => k_is)
    (case n_shoals => k_is)
    (case n_winds => k_is)
    (case n_minutes => k_is)
    (case n_turn => k_is)
    (case n_boat => k_is)
    (case n_mark => k_is)
    (case g_HEADINGS => k_is)
    (case g_STRAIGHT => k_is)
    (case g_NO_SIDE => k_is)
    (case g_MOST_MINUTES => k_is)
    (case g_SIDES => k_is)
    (case g_OUT => k_is)
    (case g_NO_CELL => k_is)
    (case g_IN_THE_WAY => k_is)
    (case g_IS_SHOAL => k_is)
    (case g_NO_WAY => k_is)
    (case g_LEAST_SIZE => k_is)
    (case g_MOST_SIZE => k_is)
    (case g_MOST_WINDS => k_is)
    (case g_MOST_TAKEN => k_is)
    (case g_MOST_STEPS => k_is)
    (case g_BEGINS => k_is)
    (case b_len => k_is)
    (case b_min => k_is)
    (case b_max => k_is)
    (case b_range => k_is)
    (case b_list => k_is)
    (case b_tuple => k_is)
    (case b_enumerate => k_is)
    (case aW => k_is)
    (case lW => k_is)
    (case lq0 => k_is)
    (case lq1 => k_is)
    (case lq2 => k_is)
    (case lq3 => k_is)
    (case lq4 => k_is)
    (case lq5 => k_is)
    (case lq6 => k_is)
    (case lq7 => k_is)
    (case aU => k_is)
    (case lU => k_is)
    (case aL => k_is)
    (case lL => k_is)
  case S =>
    intro K H xs a hO hwi hask hx
    cases hx with
    | cons h1 h2 =>
      cases h2
      cases h1 with
      | lst hs ha =>
        have e := L2.ints_dw a.1 _ ha
        subst e
        have q : ((Codec.inLen 0 4000 a.1 && a.1.all (Codec.inInt 0 4294967295)) && true) = true := hwi
        rw [Bool.and_eq_true, Bool.and_eq_true] at q
        exact ⟨_, a.1, rfl, hs, (Codec.inNat_iff.mp q.1.1).2, hask, fun H' p hp => .lst (L2.SqL.of hp) (L2.dw_ints _)⟩
#print axioms PySem.Challenge.cw_beatingway_s01_answers_holds
