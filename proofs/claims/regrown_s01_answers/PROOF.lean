import PyProof.Rows.All
import Wide.All
import OpenK.AllK
import Wide.FinOn
import Open.SpecLaws
import KE.OsGo
import KE.GoesMore
import KE.GoesEnum
import PyProof.NeKinds
import HandS.ForSpec
import HandS.Comp
import HandS.Dict
import HandS.Iter
import HandS.WordsDict
import HandS.CallLocal
import KE.KDictKeyed
import HandS.TupLen
import HandS.TupSets
import HandS.Style
import HandS.ExcInit
import HandS.WideBits
import HandS.SortInts
import HandS.TryMany
import HandS.ExcField
import HandS.Walk
import NtSpec
import Sq11Spec
import Sq14Spec
import PySq14
import PySem.Challenge.RW_regrown_s01_answers
set_option Elab.async false
set_option linter.all false
set_option maxRecDepth 100000
set_option maxHeartbeats 4000000
/-! # Derivations, and the specification's table -/
namespace Gs
open Nt (Sign Rule Grammar Tree)

inductive Ds (g : Grammar) (w : List Nat) : List Sign → Nat → Nat → Prop
  | nil {i : Nat} : Ds g w [] i i
  | word {a : Nat} {ss : List Sign} {i j : Nat} : w[i]? = some a → Ds g w ss (i + 1) j → Ds g w (.word a :: ss) i j
  | part {p : Nat} {ss : List Sign} {i m j r : Nat} {x : Rule} : g.rules[r]? = some x → x.left = p → Ds g w x.right i m → Ds g w ss m j → Ds g w (.part p :: ss) i j

section
variable {g : Grammar} {w : List Nat}
/-- every rule has a sign -/
def Ne (g : Grammar) : Prop := ∀ (r : Nat) (x : Rule), g.rules[r]? = some x → x.right ≠ []

theorem Ds.le (hne : Ne g) {ss : List Sign} {i j : Nat} (h : Ds g w ss i j) : i + ss.length ≤ j := by
  induction h with
  | nil => simp
  | word _ _ ih => simp only [List.length_cons]; omega
  | @part p ss i m j r x hr hl _ _ ih1 ih2 =>
    have : 0 < x.right.length := List.length_pos_iff.mpr (hne r x hr)
    simp only [List.length_cons]; omega
theorem Ds.bound {ss : List Sign} {i j : Nat} (h : Ds g w ss i j) : i ≤ w.length → j ≤ w.length := by
  induction h with
  | nil => intro h; exact h
  | @word a ss i j h1 _ ih =>
    intro _
    have : i < w.length := (List.getElem?_eq_some_iff.mp h1).1
    exact ih this
  | part _ _ _ _ ih1 ih2 => intro h; exact ih2 (ih1 h)
theorem Ds.lt_len (hne : Ne g) {ss : List Sign} {i j : Nat} (h : Ds g w ss i j) : ss ≠ [] → i < w.length := by
  induction h with
  | nil => intro h; exact absurd rfl h
  | @word a ss i j h1 _ ih => intro _; exact (List.getElem?_eq_some_iff.mp h1).1
  | part hr _ _ _ ih1 ih2 => intro _; exact ih1 (hne _ _ hr)
theorem Ds.split {s : Sign} {ss : List Sign} {i j : Nat} (h : Ds g w (s :: ss) i j) : ∃ m, Ds g w [s] i m ∧ Ds g w ss m j := by
  cases h with
  | word h1 h2 => exact ⟨_, .word h1 .nil, h2⟩
  | part hr hl h1 h2 => exact ⟨_, .part hr hl h1 .nil, h2⟩
theorem Ds.join {s : Sign} {ss : List Sign} {i m j : Nat} (h1 : Ds g w [s] i m) (h2 : Ds g w ss m j) : Ds g w (s :: ss) i j := by
  cases h1 with
  | word a b => cases b; exact .word a h2
  | part hr hl a b => cases b; exact .part hr hl a h2
theorem Ds.lt (hne : Ne g) {ss : List Sign} {i j : Nat} (h : Ds g w ss i j) (hs : ss ≠ []) : i < j := by
  have := h.le hne
  have := List.length_pos_iff.mpr hs
  omega
end

/-! ### the specification's table -/
open Sq11 (look)
abbrev hh (g : Grammar) (w : List Nat) (t : Array (Array Nat)) : Sq11.House := ⟨g, [], [], [], w, t⟩
section
variable {g : Grammar} {w : List Nat} {t0 t t' : Array (Array Nat)}

theorem may_all (u : Sq11.Under) (s : Nat) : (hh g w t0).may u s = true := by
  cases u <;> simp [Sq11.House.may]
theorem level_all (r : Nat) : (hh g w t0).level r = 1 := by
  simp [Sq11.House.level]
theorem fold_min (l : List Nat) : ∀ m, 1 ≤ m → l ≠ [] → l.foldl (fun (m : Nat) (_ : Nat) => min m 1) m = 1 := by
  induction l with
  | nil => intro _ _ h; exact absurd rfl h
  | cons a l ih =>
    intro m hm _
    rw [List.foldl_cons]
    by_cases hl : l = []
    · subst hl; simp only [List.foldl_nil]; omega
    · have : min m 1 = 1 := by omega
      rw [this]; exact ih 1 (Nat.le_refl _) hl
theorem options_eq (u : Sq11.Under) (p i j : Nat) : (hh g w t0).options t u p i j = (g.rulesOf p).filter fun s => decide (0 < look t (i * (w.length + 1) + j) s) := by
  unfold Sq11.House.options
  simp only [may_all, level_all, Bool.true_and]
  show List.filter _ (List.filter (fun s => decide (0 < look t (i * (w.length + 1) + j) s)) (g.rulesOf p)) = _
  generalize hl : List.filter (fun s => decide (0 < look t (i * (w.length + 1) + j) s)) (g.rulesOf p) = l
  show List.filter (fun s => 1 == List.foldl _ 2 (List.filter (fun s => decide (0 < look t (i * (w.length + 1) + j) s)) (g.rulesOf p))) l = l
  rw [hl]
  by_cases h : l = []
  · subst h; rfl
  · rw [fold_min l 2 (by omega) h]
    simp
theorem weight_u (u : Sq11.Under) (s : Sign) (i j : Nat) : (hh g w t0).weight t u s i j = (hh g w t0).weight t none s i j := by
  cases s with
  | word a => rfl
  | part p =>
    unfold Sq11.House.weight
    simp only [options_eq]
/-- something of a sign stands there, by the table -/
def Wp (g : Grammar) (w : List Nat) (t : Array (Array Nat)) (s : Sign) (i j : Nat) : Prop := 0 < (hh g w #[]).weight t none s i j
theorem weight_t0 (u : Sq11.Under) (s : Sign) (i j : Nat) : (hh g w t0).weight t u s i j = (hh g w #[]).weight t none s i j := by
  rw [weight_u]
  cases s with
  | word a => rfl
  | part p =>
    unfold Sq11.House.weight
    simp only [options_eq]
    rfl
theorem sum_pos {l : List Nat} : 0 < l.sum ↔ ∃ x ∈ l, 0 < x := by
  induction l with
  | nil => simp
  | cons a l ih =>
    rw [List.sum_cons]
    constructor
    · intro h
      by_cases ha : 0 < a
      · exact ⟨a, List.mem_cons_self, ha⟩
      · obtain ⟨x, hx, h0⟩ := ih.mp (by omega)
        exact ⟨x, List.mem_cons_of_mem _ hx, h0⟩
    · rintro ⟨x, hx, h0⟩
      rcases List.mem_cons.mp hx with e | e
      · subst e; omega
      · have := ih.mpr ⟨x, e, h0⟩; omega
theorem wp_word {a i j : Nat} : Wp g w t (.word a) i j ↔ j = i + 1 ∧ w[i]? = some a := by
  unfold Wp Sq11.House.weight
  show 0 < (if j = i + 1 ∧ w[i]? = some a then 1 else 0) ↔ _
  by_cases h : j = i + 1 ∧ w[i]? = some a
  · simp [h]
  · simp [h]
theorem wp_part {p i j : Nat} : Wp g w t (.part p) i j ↔ ∃ s ∈ g.rulesOf p, 0 < look t (i * (w.length + 1) + j) s := by
  unfold Wp Sq11.House.weight
  simp only [options_eq]
  rw [sum_pos]
  constructor
  · rintro ⟨x, hx, h0⟩
    obtain ⟨s, hs, rfl⟩ := List.mem_map.mp hx
    exact ⟨s, (List.mem_filter.mp hs).1, h0⟩
  · rintro ⟨s, hs, h0⟩
    exact ⟨_, List.mem_map.mpr ⟨s, List.mem_filter.mpr ⟨hs, by simpa using h0⟩, rfl⟩, h0⟩
theorem mem_rulesOf {p r : Nat} : r ∈ g.rulesOf p ↔ ∃ x, g.rules[r]? = some x ∧ x.left = p := by
  unfold Grammar.rulesOf
  rw [List.mem_filter, List.mem_range]
  constructor
  · rintro ⟨h1, h2⟩
    have e := List.getElem?_eq_getElem h1
    rw [e] at h2
    exact ⟨_, e, by simpa using h2⟩
  · rintro ⟨x, e, hl⟩
    refine ⟨(List.getElem?_eq_some_iff.mp e).1, ?_⟩
    rw [e]
    simpa using hl
/-- a row of signs from place to place, by the table -/
def Pw (g : Grammar) (w : List Nat) (t : Array (Array Nat)) : List Sign → Nat → Nat → Prop
  | [], i, j => i = j
  | s :: ss, i, j => ∃ y, i < y ∧ y ≤ j ∧ Wp g w t s i y ∧ Pw g w t ss y j
theorem Pw.lt {ss : List Sign} {i j : Nat} (h : Pw g w t ss i j) (hs : ss ≠ []) : i < j := by
  cases ss with
  | nil => exact absurd rfl hs
  | cons s ss => obtain ⟨y, h1, h2, _⟩ := h; omega
theorem rowsBy_pos (r : Nat) : ∀ (ss : List Sign) (k : Nat) (l : List (Nat × Nat)) (j : Nat), ss ≠ [] →
    (0 < (hh g w t0).rowsBy t r k ss l j ↔ ∃ x ∈ l, 0 < x.2 ∧ Pw g w t ss x.1 j)
  | [], _, _, _, h => absurd rfl h
  | [s], k, l, j, _ => by
    rw [Sq11.House.rowsBy, sum_pos]
    constructor
    · rintro ⟨v, hv, h0⟩
      obtain ⟨x, hx, rfl⟩ := List.mem_map.mp hv
      by_cases hj : x.1 < j
      · rw [if_pos hj] at h0
        have h1 := Nat.pos_of_mul_pos_right h0
        have h2 := Nat.pos_of_mul_pos_left h0
        rw [weight_t0] at h2
        exact ⟨x, hx, by omega, j, hj, Nat.le_refl _, by unfold Wp; omega, rfl⟩
      · rw [if_neg hj] at h0; omega
    · rintro ⟨x, hx, h0, y, h1, h2, h3, h4⟩
      have e : y = j := h4
      subst e
      refine ⟨_, List.mem_map.mpr ⟨x, hx, rfl⟩, ?_⟩
      rw [if_pos h1, weight_t0]
      exact Nat.mul_pos h0 h3
  | s :: s' :: ss, k, l, j, _ => by
    rw [Sq11.House.rowsBy]
    rotate_left
    · intro h; cases h
    by_cases hl : l.isEmpty = true
    · rw [if_pos hl]
      have : l = [] := List.isEmpty_iff.mp hl
      subst this
      simp
    · rw [if_neg hl]
      rw [rowsBy_pos r (s' :: ss) (k + 1) _ j (by intro h; cases h)]
      constructor
      · rintro ⟨⟨y, v⟩, hx, h0, hp⟩
        obtain ⟨y', hy, e⟩ := List.mem_filterMap.mp hx
        simp only at e
        split at e
        · cases e
        · rename_i hv
          cases e
          obtain ⟨v, hv', h1⟩ := sum_pos.mp (Nat.pos_of_ne_zero hv)
          obtain ⟨x, hxl, rfl⟩ := List.mem_map.mp hv'
          by_cases hj : x.1 < y
          · rw [if_pos hj] at h1
            have a1 := Nat.pos_of_mul_pos_right h1
            have a2 := Nat.pos_of_mul_pos_left h1
            rw [weight_t0] at a2
            have := hp.lt (by simp)
            exact ⟨x, hxl, by omega, y, hj, by simp only at this; omega, by unfold Wp; omega, hp⟩
          · rw [if_neg hj] at h1; omega
      · rintro ⟨x, hxl, h0, y, h1, h2, h3, h4⟩
        have h5 := h4.lt (by simp)
        have hpos : 0 < (l.map fun x => if x.1 < y then x.2 * (hh g w t0).weight t (some (r, k)) s x.1 y else 0).sum := by
          refine sum_pos.mpr ⟨_, List.mem_map.mpr ⟨x, hxl, rfl⟩, ?_⟩
          rw [if_pos h1, weight_t0]
          exact Nat.mul_pos h0 h3
        refine ⟨(y, (l.map fun x => if x.1 < y then x.2 * (hh g w t0).weight t (some (r, k)) s x.1 y else 0).sum), List.mem_filterMap.mpr ⟨y, List.mem_range.mpr h5, ?_⟩, hpos, h4⟩
        simp only
        rw [if_neg (by omega)]
theorem rows_pos {r k : Nat} {ss : List Sign} {i j : Nat} (hs : ss ≠ []) : 0 < (hh g w t0).rows t r k ss i j ↔ Pw g w t ss i j := by
  unfold Sq11.House.rows
  rw [rowsBy_pos r ss k _ j hs]
  constructor
  · rintro ⟨x, hx, _, h⟩
    rw [List.mem_singleton.mp hx] at h
    exact h
  · intro h
    exact ⟨(i, 1), List.mem_singleton.mpr rfl, by simp, h⟩

/-! ### sound and complete -/
def Snd (g : Grammar) (w : List Nat) (t : Array (Array Nat)) : Prop := ∀ i j r, i ≤ w.length → j ≤ w.length → 0 < look t (i * (w.length + 1) + j) r → ∃ x, g.rules[r]? = some x ∧ Ds g w x.right i j
def Dn (g : Grammar) (w : List Nat) (t : Array (Array Nat)) (i j r : Nat) : Prop := ∀ x, g.rules[r]? = some x → Ds g w x.right i j → 0 < look t (i * (w.length + 1) + j) r
theorem wp_sound (hs : Snd g w t) {s : Sign} {i j : Nat} (hi : i ≤ w.length) (hj : j ≤ w.length) (h : Wp g w t s i j) : Ds g w [s] i j := by
  cases s with
  | word a =>
    obtain ⟨rfl, e⟩ := wp_word.mp h
    exact .word e .nil
  | part p =>
    obtain ⟨r, hr, h0⟩ := wp_part.mp h
    obtain ⟨x, hx, hl⟩ := mem_rulesOf.mp hr
    obtain ⟨x', hx', d⟩ := hs i j r hi hj h0
    rw [hx] at hx'; cases hx'
    exact .part hx hl d .nil
theorem pw_sound (hs : Snd g w t) : ∀ {ss : List Sign} {i j : Nat}, i ≤ w.length → j ≤ w.length → Pw g w t ss i j → Ds g w ss i j
  | [], i, j, _, _, h => by
    have e : i = j := h
    subst e; exact .nil
  | s :: ss, i, j, hi, hj, ⟨y, h1, h2, h3, h4⟩ => .join (wp_sound hs hi (by omega) h3) (pw_sound hs (by omega) hj h4)
theorem wp_complete {s : Sign} {i j : Nat} (hd : ∀ p, s = .part p → ∀ r x, g.rules[r]? = some x → x.left = p → Dn g w t i j r) (h : Ds g w [s] i j) : Wp g w t s i j := by
  cases h with
  | word a b => cases b; exact wp_word.mpr ⟨rfl, a⟩
  | part hr hl a b => cases b; exact wp_part.mpr ⟨_, mem_rulesOf.mpr ⟨_, hr, hl⟩, hd _ rfl _ _ hr hl _ hr a⟩
theorem pw_complete (hne : Ne g) : ∀ {ss : List Sign} {i j : Nat}, (∀ s ∈ ss, ∀ i' j', i ≤ i' → j' ≤ j → Ds g w [s] i' j' → (i' = i → j' = j → ss = [s]) → Wp g w t s i' j') → Ds g w ss i j → Pw g w t ss i j
  | [], _, _, _, h => by cases h; rfl
  | s :: ss, i, j, hw, h => by
    obtain ⟨m, h1, h2⟩ := h.split
    have l1 := h1.lt hne (by simp)
    have l2 := h2.le hne
    refine ⟨m, l1, by omega, hw s List.mem_cons_self i m (Nat.le_refl _) (by omega) h1 fun _ e => ?_, pw_complete hne (fun s' hs i' j' a b d _ => hw s' (List.mem_cons_of_mem _ hs) i' j' (by omega) b d fun e => by omega) h2⟩
    have : ss.length = 0 := by omega
    rw [List.length_eq_zero_iff.mp this]
end
end Gs
/-! # The specification's table, filled -/
namespace Gs
open Nt (Sign Rule Grammar Tree)
open Sq11 (look)
def put (g : Grammar) (w : List Nat) (i j : Nat) (t : Array (Array Nat)) (r : Nat) : Array (Array Nat) :=
  let v := (hh g w #[]).rows t r 0 (g.right r) i j
  if v = 0 then t else t.modify (i * (w.length + 1) + j) fun a => a.setIfInBounds r v
def stretch (g : Grammar) (w : List Nat) (d : Nat) (t : Array (Array Nat)) (i : Nat) : Array (Array Nat) := g.order.foldl (put g w i (i + d + 1)) t
def allOf (g : Grammar) (w : List Nat) (t : Array (Array Nat)) (d : Nat) : Array (Array Nat) := (List.range (w.length - d)).foldl (stretch g w d) t
def blank (g : Grammar) (w : List Nat) : Array (Array Nat) := Array.replicate ((w.length + 1) * (w.length + 1)) (Array.replicate g.rules.length 0)
def tab (g : Grammar) (w : List Nat) : Array (Array Nat) := (List.range w.length).foldl (allOf g w) (blank g w)
theorem endsWell_all {g : Grammar} {w : List Nat} {t0 : Array (Array Nat)} (s j : Nat) : (hh g w t0).endsWell s j = true := by
  unfold Sq11.House.endsWell
  split <;> simp
theorem filled_eq (g : Grammar) (w : List Nat) : Sq11.House.filled (hh g w #[]) = hh g w (tab g w) := by
  unfold Sq11.House.filled
  simp only [endsWell_all]
  rfl

section
variable {g : Grammar} {w : List Nat} {t t' : Array (Array Nat)}
structure Sz (g : Grammar) (w : List Nat) (t : Array (Array Nat)) : Prop where
  size : t.size = (w.length + 1) * (w.length + 1)
  row : ∀ (c : Nat) (a : Array Nat), t[c]? = some a → a.size = g.rules.length
structure Ok (g : Grammar) (w : List Nat) (t : Array (Array Nat)) : Prop where
  sz : Sz g w t
  snd : Snd g w t
def Le (t t' : Array (Array Nat)) : Prop := ∀ c r, 0 < look t c r → 0 < look t' c r
theorem Le.refl (t : Array (Array Nat)) : Le t t := fun _ _ h => h
theorem Le.trans {t1 t2 t3 : Array (Array Nat)} (a : Le t1 t2) (b : Le t2 t3) : Le t1 t3 := fun c r h => b c r (a c r h)
theorem Dn.le {i j r : Nat} (h : Dn g w t i j r) (l : Le t t') : Dn g w t' i j r := fun x hx d => l _ _ (h x hx d)
theorem look_put {t : Array (Array Nat)} {c r v c' r' : Nat} : look (t.modify c fun a => a.setIfInBounds r v) c' r' =
    if c' = c ∧ r' = r ∧ (∃ a, t[c]? = some a ∧ r < a.size) then v else look t c' r' := by
  unfold look
  rw [Array.getElem?_modify]
  by_cases hc : c = c'
  · subst hc
    rw [if_pos rfl]
    cases e : t[c]? with
    | none => simp
    | some a =>
      simp only [Option.map_some, Option.getD_some]
      rw [Array.getElem?_setIfInBounds]
      by_cases hr : r = r'
      · subst hr
        rw [if_pos rfl]
        by_cases hz : r < a.size
        · simp [hz]
        · simp [hz]
      · rw [if_neg hr]
        have : ¬ r' = r := fun e => hr e.symm
        simp [this]
  · rw [if_neg hc]
    have : ¬ c' = c := fun e => hc e.symm
    simp [this]
theorem look_none {c r : Nat} (h : Sz g w t) (hr : g.rules.length ≤ r) : look t c r = 0 := by
  unfold look
  cases e : t[c]? with
  | none => simp
  | some a =>
    have := h.row c a e
    simp [Array.getElem?_eq_none (by omega : a.size ≤ r)]
theorem cell_inj {n i j i' j' : Nat} (hj : j ≤ n) (hj' : j' ≤ n) (e : i * (n + 1) + j = i' * (n + 1) + j') : i = i' ∧ j = j' := by
  have h1 : (i * (n + 1) + j) / (n + 1) = i := by
    rw [Nat.mul_comm, Nat.mul_add_div (by omega), Nat.div_eq_of_lt (by omega)]; omega
  have h2 : (i' * (n + 1) + j') / (n + 1) = i' := by
    rw [Nat.mul_comm, Nat.mul_add_div (by omega), Nat.div_eq_of_lt (by omega)]; omega
  rw [e] at h1
  have : i = i' := by omega
  subst this
  exact ⟨rfl, by omega⟩
theorem cell_lt {n i j : Nat} (hi : i ≤ n) (hj : j ≤ n) : i * (n + 1) + j < (n + 1) * (n + 1) := by
  have : i * (n + 1) + (n + 1) ≤ (n + 1) * (n + 1) := by
    rw [← Nat.succ_mul]
    exact Nat.mul_le_mul_right _ (by omega)
  omega
theorem right_of {r : Nat} {x : Rule} (h : g.rules[r]? = some x) : g.right r = x.right := by
  unfold Grammar.right; rw [h]
/-- one rule at one stretch -/
theorem put_ok (hne : Ne g) (h : Ok g w t) {i j r : Nat} {x : Rule} (hij : i < j) (hj : j ≤ w.length) (hx : g.rules[r]? = some x)
    (hw : ∀ s ∈ x.right, ∀ i' j', i ≤ i' → j' ≤ j → Ds g w [s] i' j' → (i' = i → j' = j → x.right = [s]) → Wp g w t s i' j') :
    Ok g w (put g w i j t r) ∧ Le t (put g w i j t r) ∧ Dn g w (put g w i j t r) i j r := by
  have hrn := hne r x hx
  unfold put
  simp only
  rw [right_of hx]
  by_cases hv : (hh g w #[]).rows t r 0 x.right i j = 0
  · rw [if_pos hv]
    refine ⟨h, Le.refl t, fun x' hx' d => ?_⟩
    rw [hx] at hx'; cases hx'
    have := (rows_pos (t0 := #[]) (t := t) (r := r) (k := 0) hrn).mpr (pw_complete hne hw d)
    omega
  · rw [if_neg hv]
    have hpw : Pw g w t x.right i j := (rows_pos (t0 := #[]) (r := r) (k := 0) hrn).mp (Nat.pos_of_ne_zero hv)
    have hds : Ds g w x.right i j := pw_sound h.snd (by omega) hj hpw
    have hcl : i * (w.length + 1) + j < t.size := by rw [h.sz.size]; exact cell_lt (by omega) hj
    have hge : ∃ a, t[i * (w.length + 1) + j]? = some a ∧ r < a.size := by
      refine ⟨t[i * (w.length + 1) + j], Array.getElem?_eq_getElem hcl, ?_⟩
      rw [h.sz.row _ _ (Array.getElem?_eq_getElem hcl)]
      exact (List.getElem?_eq_some_iff.mp hx).1
    refine ⟨⟨⟨by rw [Array.size_modify]; exact h.sz.size, fun c a hc => ?_⟩, fun i' j' r' hi' hj' hl => ?_⟩, fun c r' hl => ?_, fun x' _ _ => ?_⟩
    · rw [Array.getElem?_modify] at hc
      split at hc
      · cases e : t[c]? with
        | none => rw [e] at hc; cases hc
        | some b =>
          rw [e] at hc
          cases hc
          rw [Array.size_setIfInBounds]
          exact h.sz.row c b e
      · exact h.sz.row c a hc
    · rw [look_put] at hl
      split at hl
      · rename_i hc
        obtain ⟨e1, e2, _⟩ := hc
        obtain ⟨rfl, rfl⟩ := cell_inj hj' hj e1
        subst e2
        exact ⟨x, hx, hds⟩
      · exact h.snd i' j' r' hi' hj' hl
    · rw [look_put]
      split
      · omega
      · exact hl
    · rw [look_put, if_pos ⟨rfl, rfl, hge⟩]
      omega
/-- a row of rules at one stretch, each leaning upon what stands already -/
theorem puts_ok (hne : Ne g) {i j : Nat} (hij : i < j) (hj : j ≤ w.length) : ∀ (os : List Nat) (t : Array (Array Nat)), Ok g w t → (∀ r ∈ os, ∃ x, g.rules[r]? = some x ∧
      ∀ t', Le t t' → ∀ s ∈ x.right, ∀ i' j', i ≤ i' → j' ≤ j → Ds g w [s] i' j' → (i' = i → j' = j → x.right = [s]) → Wp g w t' s i' j') →
    Ok g w (os.foldl (put g w i j) t) ∧ Le t (os.foldl (put g w i j) t) ∧ ∀ r ∈ os, Dn g w (os.foldl (put g w i j) t) i j r
  | [], t, h, _ => ⟨h, Le.refl t, fun r hr => by cases hr⟩
  | r :: os, t, h, hw => by
    obtain ⟨x, hx, hws⟩ := hw r List.mem_cons_self
    obtain ⟨a1, a2, a3⟩ := put_ok hne h hij hj hx (hws t (Le.refl t))
    obtain ⟨b1, b2, b3⟩ := puts_ok hne hij hj os (put g w i j t r) a1 fun r' hr' => by
      obtain ⟨x', hx', hw'⟩ := hw r' (List.mem_cons_of_mem _ hr')
      exact ⟨x', hx', fun t' l => hw' t' (a2.trans l)⟩
    refine ⟨b1, a2.trans b2, fun r' hr' => ?_⟩
    rcases List.mem_cons.mp hr' with e | e
    · subst e; exact a3.le b2
    · exact b3 r' e
theorem Wp.le {s : Sign} {i j : Nat} (h : Wp g w t s i j) (l : Le t t') : Wp g w t' s i j := by
  cases s with
  | word a => exact wp_word.mpr (wp_word.mp h)
  | part p =>
    obtain ⟨r, hr, h0⟩ := wp_part.mp h
    exact wp_part.mpr ⟨r, hr, l _ _ h0⟩
/-- how many parts are below a rule's part -/
def rank (g : Grammar) (p : Nat) : Nat := (g.below p).length
/-- a part that's another one alone is above it -/
def Ranked (g : Grammar) : Prop := ∀ (r : Nat) (x : Rule) (q : Nat), g.rules[r]? = some x → x.right = [.part q] → rank g q < rank g x.left
theorem foldl_flatMap {α β γ : Type} (f : γ → β → γ) (gg : α → List β) : ∀ (l : List α) (a : γ), (l.flatMap gg).foldl f a = l.foldl (fun a x => (gg x).foldl f a) a
  | [], _ => rfl
  | x :: l, a => by rw [List.flatMap_cons, List.foldl_append, List.foldl_cons, foldl_flatMap f gg l]
def ofRank (g : Grammar) (d : Nat) : List Nat := (List.range g.rules.length).filter fun r => match g.rules[r]? with
  | some x => (g.below x.left).length == d
  | none => false
theorem mem_ofRank {d r : Nat} : r ∈ ofRank g d ↔ ∃ x, g.rules[r]? = some x ∧ rank g x.left = d := by
  unfold ofRank
  rw [List.mem_filter, List.mem_range]
  constructor
  · rintro ⟨h1, h2⟩
    have e := List.getElem?_eq_getElem h1
    rw [e] at h2
    exact ⟨_, e, by simpa [rank] using h2⟩
  · rintro ⟨x, e, hl⟩
    refine ⟨(List.getElem?_eq_some_iff.mp e).1, ?_⟩
    rw [e]
    simpa [rank] using hl
/-- one stretch, all rules by their ranks -/
theorem stretch_ok (hne : Ne g) (hrk : Ranked g) (hb : ∀ p, rank g p ≤ g.parts) {i d : Nat} (hj : i + d + 1 ≤ w.length) (h : Ok g w t) (hd : ∀ i' j' r, i' < j' → j' ≤ w.length → j' - i' ≤ d → Dn g w t i' j' r) :
    Ok g w (stretch g w d t i) ∧ Le t (stretch g w d t i) ∧ ∀ r, Dn g w (stretch g w d t i) i (i + d + 1) r := by
  have key : ∀ k, let t' := (List.range k).foldl (fun t d' => (ofRank g d').foldl (put g w i (i + d + 1)) t) t
      Ok g w t' ∧ Le t t' ∧ ∀ r x, g.rules[r]? = some x → rank g x.left < k → Dn g w t' i (i + d + 1) r := by
    intro k
    induction k with
    | zero => exact ⟨h, Le.refl t, fun _ _ _ h => absurd h (Nat.not_lt_zero _)⟩
    | succ k ih =>
      rw [List.range_succ, List.foldl_append]
      simp only [List.foldl_cons, List.foldl_nil]
      generalize (List.range k).foldl (fun t d' => (ofRank g d').foldl (put g w i (i + d + 1)) t) t = t1 at ih
      obtain ⟨a1, a2, a3⟩ := ih
      obtain ⟨b1, b2, b3⟩ := puts_ok hne (i := i) (j := i + d + 1) (by omega) hj (ofRank g k) t1 a1 fun r hr => by
        obtain ⟨x, hx, hk⟩ := mem_ofRank.mp hr
        refine ⟨x, hx, fun t2 l s hs i' j' h1 h2 h3 h4 => ?_⟩
        have l3 := h3.lt hne (by simp)
        refine wp_complete (fun p hp r' x' hx' hl' => ?_) h3
        by_cases c : i' = i ∧ j' = i + d + 1
        · obtain ⟨rfl, rfl⟩ := c
          have e := h4 rfl rfl
          subst hp
          have := hrk r x p hx e
          exact (a3 r' x' hx' (by rw [hl']; omega)).le l
        · exact (hd i' j' r' l3 (by omega) (by omega)).le (a2.trans l)
      refine ⟨b1, a2.trans b2, fun r x hx hk => ?_⟩
      by_cases c : rank g x.left < k
      · exact (a3 r x hx c).le b2
      · exact b3 r (mem_ofRank.mpr ⟨x, hx, by omega⟩)
  have e : stretch g w d t i = (List.range (g.parts + 1)).foldl (fun t d' => (ofRank g d').foldl (put g w i (i + d + 1)) t) t := by
    unfold stretch Grammar.order
    rw [foldl_flatMap]
    rfl
  rw [e]
  obtain ⟨a1, a2, a3⟩ := key (g.parts + 1)
  refine ⟨a1, a2, fun r x hx ds => ?_⟩
  exact a3 r x hx (by have := hb x.left; omega) x hx ds
theorem all_ok (hne : Ne g) (hrk : Ranked g) (hb : ∀ p, rank g p ≤ g.parts) {d : Nat} (hd' : d < w.length) (h : Ok g w t) (hd : ∀ i' j' r, i' < j' → j' ≤ w.length → j' - i' ≤ d → Dn g w t i' j' r) :
    Ok g w (allOf g w t d) ∧ Le t (allOf g w t d) ∧ ∀ i' j' r, i' < j' → j' ≤ w.length → j' - i' ≤ d + 1 → Dn g w (allOf g w t d) i' j' r := by
  have key : ∀ k, k ≤ w.length - d → let t' := (List.range k).foldl (stretch g w d) t
      Ok g w t' ∧ Le t t' ∧ ∀ i r, i < k → Dn g w t' i (i + d + 1) r := by
    intro k
    induction k with
    | zero => intro _; exact ⟨h, Le.refl t, fun _ _ h => absurd h (Nat.not_lt_zero _)⟩
    | succ k ih =>
      intro hk
      have ih := ih (by omega)
      rw [List.range_succ, List.foldl_append]
      simp only [List.foldl_cons, List.foldl_nil]
      generalize (List.range k).foldl (stretch g w d) t = t1 at ih
      obtain ⟨a1, a2, a3⟩ := ih
      obtain ⟨b1, b2, b3⟩ := stretch_ok hne hrk hb (t := t1) (i := k) (d := d) (by omega) a1 fun i' j' r h1 h2 h3 => (hd i' j' r h1 h2 h3).le a2
      refine ⟨b1, a2.trans b2, fun i r hi => ?_⟩
      by_cases c : i < k
      · exact (a3 i r c).le b2
      · have : i = k := by omega
        subst this
        exact b3 r
  obtain ⟨a1, a2, a3⟩ := key (w.length - d) (Nat.le_refl _)
  refine ⟨a1, a2, fun i' j' r h1 h2 h3 => ?_⟩
  by_cases c : j' - i' ≤ d
  · exact (hd i' j' r h1 h2 c).le a2
  · have := a3 i' r (by omega)
    have e : i' + d + 1 = j' := by omega
    rw [e] at this
    exact this
theorem look_blank (c r : Nat) : look (blank g w) c r = 0 := by
  unfold look blank
  rw [Array.getElem?_replicate]
  split
  · simp only [Option.getD_some]
    rw [Array.getElem?_replicate]
    split <;> rfl
  · simp
theorem blank_ok : Ok g w (blank g w) := by
  refine ⟨⟨by unfold blank; rw [Array.size_replicate], fun c a h => ?_⟩, fun i j r _ _ h => ?_⟩
  · unfold blank at h
    rw [Array.getElem?_replicate] at h
    split at h
    · cases h; rw [Array.size_replicate]
    · cases h
  · rw [look_blank] at h; omega
theorem tab_ok (hne : Ne g) (hrk : Ranked g) (hb : ∀ p, rank g p ≤ g.parts) : Ok g w (tab g w) ∧ ∀ i j r, i < j → j ≤ w.length → Dn g w (tab g w) i j r := by
  have key : ∀ k, k ≤ w.length → let t' := (List.range k).foldl (allOf g w) (blank g w)
      Ok g w t' ∧ ∀ i' j' r, i' < j' → j' ≤ w.length → j' - i' ≤ k → Dn g w t' i' j' r := by
    intro k
    induction k with
    | zero => intro _; exact ⟨blank_ok, fun i' j' r h1 _ h3 => by omega⟩
    | succ k ih =>
      intro hk
      have ih := ih (by omega)
      rw [List.range_succ, List.foldl_append]
      simp only [List.foldl_cons, List.foldl_nil]
      generalize (List.range k).foldl (allOf g w) (blank g w) = t1 at ih
      obtain ⟨b1, _, b3⟩ := all_ok hne hrk hb (d := k) (by omega) ih.1 ih.2
      exact ⟨b1, b3⟩
  obtain ⟨a1, a2⟩ := key w.length (Nat.le_refl _)
  exact ⟨a1, fun i j r h1 h2 => a2 i j r h1 h2 (by omega)⟩
/-- THE TABLE -/
theorem tab_iff (hne : Ne g) (hrk : Ranked g) (hb : ∀ p, rank g p ≤ g.parts) {i j r : Nat} (hij : i < j) (hj : j ≤ w.length) :
    0 < look (tab g w) (i * (w.length + 1) + j) r ↔ ∃ x, g.rules[r]? = some x ∧ Ds g w x.right i j := by
  obtain ⟨a1, a2⟩ := tab_ok (w := w) hne hrk hb
  constructor
  · exact a1.snd i j r (by omega) hj
  · rintro ⟨x, hx, d⟩
    exact a2 i j r hij hj x hx d
theorem tab_wp (hne : Ne g) (hrk : Ranked g) (hb : ∀ p, rank g p ≤ g.parts) {s : Sign} {i j : Nat} (hij : i < j) (hj : j ≤ w.length) : Wp g w (tab g w) s i j ↔ Ds g w [s] i j := by
  obtain ⟨a1, a2⟩ := tab_ok (w := w) hne hrk hb
  exact ⟨wp_sound a1.snd (by omega) hj, wp_complete fun p _ r x _ _ => a2 i j r hij hj⟩
theorem tab_pw (hne : Ne g) (hrk : Ranked g) (hb : ∀ p, rank g p ≤ g.parts) {ss : List Sign} {i j : Nat} (hij : i ≤ j) (hj : j ≤ w.length) : Pw g w (tab g w) ss i j ↔ Ds g w ss i j := by
  obtain ⟨a1, a2⟩ := tab_ok (w := w) hne hrk hb
  refine ⟨pw_sound a1.snd (by omega) hj, pw_complete hne fun s _ i' j' h1 h2 d _ => wp_complete (fun p _ r x _ _ => a2 i' j' r ?_ (by omega)) d⟩
  exact d.lt hne (by simp)
end
end Gs
/-! # Parts below parts; the first tree -/
namespace Gs
open Nt (Sign Rule Grammar Tree)
open Sq11 (look)
inductive Reach (g : Grammar) (p : Nat) : Nat → Prop
  | one {q : Nat} : q ∈ g.alone p → Reach g p q
  | more {x q : Nat} : Reach g p x → q ∈ g.alone x → Reach g p q
section
variable {g : Grammar}
theorem Reach.trans {p q r : Nat} (a : Reach g p q) (b : Reach g q r) : Reach g p r := by
  induction b with
  | one h => exact .more a h
  | more _ h ih => exact .more ih h
theorem mem_alone {p q : Nat} : q ∈ g.alone p ↔ ∃ x ∈ g.rules, x.left = p ∧ x.right = [.part q] := by
  unfold Grammar.alone
  rw [List.mem_filterMap]
  constructor
  · rintro ⟨x, hx, e⟩
    split at e
    · rename_i q' hq
      split at e
      · cases e; exact ⟨x, hx, by assumption, hq⟩
      · cases e
    · cases e
  · rintro ⟨x, hx, hl, hr⟩
    refine ⟨x, hx, ?_⟩
    rw [hr]
    simp [hl]
theorem filter_len {α : Type} (p q : α → Bool) : ∀ (l : List α), (∀ a ∈ l, p a = true → q a = true) → (l.filter p).length ≤ (l.filter q).length ∧ ((∃ a ∈ l, q a = true ∧ p a = false) → (l.filter p).length < (l.filter q).length)
  | [], _ => ⟨Nat.le_refl _, fun ⟨a, h, _⟩ => by cases h⟩
  | a :: l, h => by
    obtain ⟨h1, h2⟩ := filter_len p q l fun b hb => h b (List.mem_cons_of_mem _ hb)
    have h0 := h a List.mem_cons_self
    rw [List.filter_cons, List.filter_cons]
    cases hp : p a with
    | true =>
      rw [if_pos (h0 hp), if_pos rfl]
      refine ⟨by simp only [List.length_cons]; omega, fun ⟨b, hb, h3, h4⟩ => ?_⟩
      rcases List.mem_cons.mp hb with e | e
      · subst e; rw [hp] at h4; cases h4
      · have := h2 ⟨b, e, h3, h4⟩
        simp only [List.length_cons]; omega
    | false =>
      rw [if_neg (by simp)]
      cases hq : q a with
      | true =>
        rw [if_pos rfl]
        exact ⟨by simp only [List.length_cons]; omega, fun _ => by simp only [List.length_cons]; omega⟩
      | false =>
        rw [if_neg (by simp)]
        refine ⟨h1, fun ⟨b, hb, h3, h4⟩ => h2 ⟨b, ?_, h3, h4⟩⟩
        rcases List.mem_cons.mp hb with e | e
        · subst e; rw [hq] at h3; cases h3
        · exact e
/-- all parts known -/
def Kn (g : Grammar) : Prop := ∀ p q, q ∈ g.alone p → q < g.parts
def bstep (g : Grammar) (l : List Nat) : List Nat := (List.range g.parts).filter fun q => l.contains q || l.any fun x => (g.alone x).contains q
theorem mem_bstep {l : List Nat} {q : Nat} : q ∈ bstep g l ↔ q < g.parts ∧ (q ∈ l ∨ ∃ x ∈ l, q ∈ g.alone x) := by
  unfold bstep
  rw [List.mem_filter, List.mem_range]
  simp
def iter (g : Grammar) (p : Nat) : Nat → List Nat
  | 0 => g.alone p
  | k + 1 => bstep g (iter g p k)
theorem below_iter (p : Nat) : g.below p = iter g p g.parts := by
  unfold Grammar.below
  have : ∀ n, (List.range n).foldl (fun (l : List Nat) _ => (List.range g.parts).filter fun q => l.contains q || l.any fun x => (g.alone x).contains q) (g.alone p) = iter g p n := by
    intro n
    induction n with
    | zero => rfl
    | succ n ih => rw [List.range_succ, List.foldl_append, ih]; rfl
  exact this _
theorem iter_lt (hk : Kn g) (p : Nat) : ∀ k q, q ∈ iter g p k → q < g.parts
  | 0, q, h => hk p q h
  | k + 1, q, h => (mem_bstep.mp h).1
theorem iter_reach (p : Nat) : ∀ k q, q ∈ iter g p k → Reach g p q
  | 0, q, h => .one h
  | k + 1, q, h => by
    rcases (mem_bstep.mp h).2 with h | ⟨x, hx, hq⟩
    · exact iter_reach p k q h
    · exact .more (iter_reach p k x hx) hq
def Closed (g : Grammar) (l : List Nat) : Prop := ∀ x ∈ l, ∀ q ∈ g.alone x, q ∈ l
def cnt (g : Grammar) (l : List Nat) : Nat := ((List.range g.parts).filter fun q => l.contains q).length
theorem iter_closed (hk : Kn g) (p : Nat) : ∀ k, Closed g (iter g p k) ∨ k ≤ cnt g (iter g p k)
  | 0 => .inr (Nat.zero_le _)
  | k + 1 => by
    by_cases hc : Closed g (iter g p k)
    · left
      intro x hx q hq
      rcases (mem_bstep.mp hx).2 with h | ⟨y, hy, h⟩
      · exact mem_bstep.mpr ⟨hk x q hq, .inr ⟨x, h, hq⟩⟩
      · exact mem_bstep.mpr ⟨hk x q hq, .inr ⟨x, hc y hy x h, hq⟩⟩
    · right
      rcases iter_closed hk p k with h | h
      · exact absurd h hc
      · have : ∃ x ∈ iter g p k, ∃ q ∈ g.alone x, q ∉ iter g p k := by
          refine Classical.byContradiction fun hn => hc fun x hx q hq => Classical.byContradiction fun hq' => hn ⟨x, hx, q, hq, hq'⟩
        obtain ⟨x, hx, q, hq, hn⟩ := this
        have := (filter_len (fun q => (iter g p k).contains q) (fun q => (iter g p (k + 1)).contains q) (List.range g.parts) fun a ha h => by
          simp only [List.contains_iff_mem] at h ⊢
          exact mem_bstep.mpr ⟨List.mem_range.mp ha, .inl h⟩).2 ⟨q, List.mem_range.mpr (hk x q hq), by
            simp only [List.contains_iff_mem]
            exact mem_bstep.mpr ⟨hk x q hq, .inr ⟨x, hx, hq⟩⟩, by simpa using hn⟩
        unfold cnt at h ⊢
        omega
theorem below_closed (hk : Kn g) (p : Nat) : Closed g (g.below p) := by
  rw [below_iter]
  rcases iter_closed hk p g.parts with h | h
  · exact h
  · intro x hx q hq
    refine Classical.byContradiction fun hn => ?_
    have h1 := (filter_len (fun q => (iter g p g.parts).contains q) (fun _ => true) (List.range g.parts) fun _ _ _ => rfl).2 ⟨q, List.mem_range.mpr (hk x q hq), rfl, by simpa using hn⟩
    have h2 : ((List.range g.parts).filter fun _ => true).length = g.parts := by rw [List.filter_eq_self.mpr (fun _ _ => rfl), List.length_range]
    unfold cnt at h
    omega
theorem mem_iter (hk : Kn g) (p q : Nat) (h : q ∈ g.alone p) : ∀ k, q ∈ iter g p k
  | 0 => h
  | k + 1 => mem_bstep.mpr ⟨hk p q h, .inl (mem_iter hk p q h k)⟩
theorem mem_below (hk : Kn g) {p q : Nat} : q ∈ g.below p ↔ Reach g p q := by
  constructor
  · intro h
    rw [below_iter] at h
    exact iter_reach p _ q h
  · intro h
    induction h with
    | one h => rw [below_iter]; exact mem_iter hk p _ h _
    | more _ h ih => exact below_closed hk p _ ih _ h
theorem sound_iff (hk : Kn g) : g.sound = true ↔ ∀ p, p < g.parts → ¬ Reach g p p := by
  unfold Grammar.sound
  rw [List.all_eq_true]
  constructor
  · intro h p hp hr
    have := h p (List.mem_range.mpr hp)
    simp only [Bool.not_eq_true', List.contains_eq_mem, decide_eq_false_iff_not] at this
    exact this ((mem_below hk).mpr hr)
  · intro h p hp
    simp only [Bool.not_eq_true', List.contains_eq_mem, decide_eq_false_iff_not]
    exact fun hm => h p (List.mem_range.mp hp) ((mem_below hk).mp hm)
theorem below_form (h1 : 1 ≤ g.parts) (p : Nat) : ∃ f : Nat → Bool, g.below p = (List.range g.parts).filter f := by
  rw [below_iter]
  obtain ⟨k, hk⟩ : ∃ k, g.parts = k + 1 := ⟨g.parts - 1, by omega⟩
  have : iter g p g.parts = bstep g (iter g p k) := by
    conv => lhs; rw [hk]
    rfl
  rw [this]
  exact ⟨_, rfl⟩
theorem rank_le (h1 : 1 ≤ g.parts) (p : Nat) : rank g p ≤ g.parts := by
  obtain ⟨f, hf⟩ := below_form h1 p
  unfold rank
  rw [hf]
  have := List.length_filter_le f (List.range g.parts)
  rw [List.length_range] at this
  exact this
theorem rank_lt (h1 : 1 ≤ g.parts) (hk : Kn g) (hs : g.sound = true) {p q : Nat} (h : q ∈ g.alone p) : rank g q < rank g p := by
  obtain ⟨f, hf⟩ := below_form h1 p
  obtain ⟨f', hf'⟩ := below_form h1 q
  have m : ∀ z, z ∈ g.below p ↔ z < g.parts ∧ f z = true := fun z => by rw [hf, List.mem_filter, List.mem_range]
  have m' : ∀ z, z ∈ g.below q ↔ z < g.parts ∧ f' z = true := fun z => by rw [hf', List.mem_filter, List.mem_range]
  have hq := hk p q h
  unfold rank
  rw [hf, hf']
  refine (filter_len f' f _ fun z hz e => ?_).2 ⟨q, List.mem_range.mpr hq, ((m q).mp ((mem_below hk).mpr (.one h))).2, ?_⟩
  · have := (m' z).mpr ⟨List.mem_range.mp hz, e⟩
    exact ((m z).mp ((mem_below hk).mpr ((Reach.one h).trans ((mem_below hk).mp this)))).2
  · cases e : f' q with
    | false => rfl
    | true =>
      have := (m' q).mpr ⟨hq, e⟩
      exact absurd ((mem_below hk).mp this) ((sound_iff hk).mp hs q hq)
/-- what's asked of a grammar -/
structure Good (g : Grammar) : Prop where
  ne : Ne g
  kn : ∀ x ∈ g.rules, ∀ s ∈ x.right, g.knows s = true
  left : ∀ x ∈ g.rules, x.left < g.parts
  parts : 1 ≤ g.parts
  sound : g.sound = true
theorem Good.alone (G : Good g) : Kn g := fun p q h => by
  obtain ⟨x, hx, _, e⟩ := mem_alone.mp h
  have := G.kn x hx (.part q) (by rw [e]; exact List.mem_cons_self)
  simpa [Grammar.knows] using this
theorem Good.ranked (G : Good g) : Ranked g := fun r x q hx e => rank_lt G.parts G.alone G.sound (mem_alone.mpr ⟨x, List.mem_of_getElem? hx, rfl, e⟩)
theorem Good.rankLe (G : Good g) (p : Nat) : rank g p ≤ g.parts := rank_le G.parts p

/-! ### the first tree -/
variable {w : List Nat}
/-- the first rule of a part at a stretch -/
structure FR (g : Grammar) (w : List Nat) (p i j r : Nat) (x : Rule) : Prop where
  at_ : g.rules[r]? = some x
  left : x.left = p
  ds : Ds g w x.right i j
  first : ∀ r' x', r' < r → g.rules[r']? = some x' → x'.left = p → ¬ Ds g w x'.right i j
/-- where the first of some signs ends -/
structure Cut (g : Grammar) (w : List Nat) (s : Sign) (ss : List Sign) (i m j : Nat) : Prop where
  one : Ds g w [s] i m
  rest : Ds g w ss m j
  first : ∀ m', m' < m → Ds g w [s] i m' → ¬ Ds g w ss m' j
inductive FTs (g : Grammar) (w : List Nat) : List Sign → Nat → Nat → List Tree → Prop
  | nil {i : Nat} : FTs g w [] i i []
  | word {a : Nat} {ss : List Sign} {i m j : Nat} {ts : List Tree} : Cut g w (.word a) ss i m j → FTs g w ss m j ts → FTs g w (.word a :: ss) i j (.leaf a :: ts)
  | part {p : Nat} {ss : List Sign} {i m j r : Nat} {x : Rule} {ks ts : List Tree} : Cut g w (.part p) ss i m j → FR g w p i m r x → FTs g w x.right i m ks → FTs g w ss m j ts → FTs g w (.part p :: ss) i j (.node r ks :: ts)

theorem pick_zero : ∀ (l : List (Nat × Nat)) (x : Nat × Nat), Sq11.pick l 0 = some x → x.2 = 0 ∧ ∃ (k : Nat) (v : Nat), l[k]? = some (x.1, v) ∧ 0 < v ∧ ∀ k', k' < k → ∀ y, l[k']? = some y → y.2 = 0
  | [], x, h => by cases h
  | y :: l, x, h => by
    unfold Sq11.pick at h
    by_cases hy : 0 < y.2
    · rw [if_pos hy] at h
      cases h
      exact ⟨rfl, 0, y.2, rfl, hy, fun k' hk => absurd hk (Nat.not_lt_zero _)⟩
    · rw [if_neg hy] at h
      have h0 : y.2 = 0 := by omega
      rw [h0, Nat.sub_zero] at h
      obtain ⟨e, k, v, h1, h2, h3⟩ := pick_zero l x h
      refine ⟨e, k + 1, v, h1, h2, fun k' hk z hz => ?_⟩
      cases k' with
      | zero => cases hz; exact h0
      | succ k' => exact h3 k' (by omega) z hz
theorem pick_some : ∀ (l : List (Nat × Nat)), (∃ y ∈ l, 0 < y.2) → ∃ x, Sq11.pick l 0 = some x
  | [], h => by obtain ⟨y, hy, _⟩ := h; cases hy
  | y :: l, h => by
    unfold Sq11.pick
    by_cases hy : 0 < y.2
    · rw [if_pos hy]; exact ⟨_, rfl⟩
    · rw [if_neg hy]
      have h0 : y.2 = 0 := by omega
      rw [h0, Nat.sub_zero]
      refine pick_some l ?_
      obtain ⟨z, hz, h1⟩ := h
      rcases List.mem_cons.mp hz with e | e
      · subst e; exact absurd h1 hy
      · exact ⟨z, e, h1⟩
/-- the row of trees of a rule's signs -/
theorem rowAt_first (G : Good g) (kid : Sq11.Under → Sign → Nat → Nat → Nat → Tree) (r : Nat) : ∀ (ss : List Sign) (k i j : Nat), j ≤ w.length → Ds g w ss i j →
    (∀ a ∈ ss, ∀ b, a = .word b → ∀ u i' j', kid u a i' j' 0 = .leaf b) →
    (∀ a ∈ ss, ∀ p, a = .part p → ∀ u i' j', i ≤ i' → j' ≤ j → (i' = i → j' = j → ss = [a]) → Ds g w [a] i' j' → ∃ r' x ks, kid u a i' j' 0 = .node r' ks ∧ FR g w p i' j' r' x ∧ FTs g w x.right i' j' ks) →
    FTs g w ss i j ((hh g w (tab g w)).rowAt kid r k ss i j 0)
  | [], k, i, j, hj, d, _, _ => by
    cases d
    exact .nil
  | [s], k, i, j, hj, d, hw, hp => by
    unfold Sq11.House.rowAt
    have c : Cut g w s [] i j j := ⟨d, .nil, fun m' h1 h2 h3 => by cases h3; omega⟩
    cases s with
    | word b =>
      rw [hw _ List.mem_cons_self b rfl]
      exact .word c .nil
    | part p =>
      obtain ⟨r', x, ks, e, fr, ft⟩ := hp _ List.mem_cons_self p rfl (some (r, k)) i j (Nat.le_refl _) (Nat.le_refl _) (fun _ _ => rfl) d
      rw [e]
      exact .part c fr ft .nil
  | s :: s' :: ss, k, i, j, hj, d, hw, hp => by
    obtain ⟨m0, d1, d2⟩ := d.split
    have l1 := d1.lt G.ne (by simp)
    have l2 := d2.lt G.ne (by simp)
    rw [Sq11.House.rowAt]
    rotate_left
    · intro h; cases h
    have val : ∀ dd, i + dd + 1 ≤ j → (((if (hh g w (tab g w)).weight (tab g w) (some (r, k)) s i (i + dd + 1) = 0 then 0 else (hh g w (tab g w)).weight (tab g w) (some (r, k)) s i (i + dd + 1) * (hh g w (tab g w)).rows (tab g w) r (k + 1) (s' :: ss) (i + dd + 1) j) : Nat) ≠ 0 ↔ Ds g w [s] i (i + dd + 1) ∧ Ds g w (s' :: ss) (i + dd + 1) j) := fun dd hdd => by
      have a1 : 0 < (hh g w (tab g w)).weight (tab g w) (some (r, k)) s i (i + dd + 1) ↔ Ds g w [s] i (i + dd + 1) := by
        rw [weight_t0]
        exact tab_wp G.ne G.ranked G.rankLe (by omega) (by omega)
      have a2 : 0 < (hh g w (tab g w)).rows (tab g w) r (k + 1) (s' :: ss) (i + dd + 1) j ↔ Ds g w (s' :: ss) (i + dd + 1) j := by
        rw [rows_pos (by simp)]
        exact tab_pw G.ne G.ranked G.rankLe hdd hj
      rw [← a1, ← a2]
      split
      · constructor
        · intro h; exact absurd rfl h
        · rintro ⟨h, _⟩; omega
      · rw [Nat.mul_ne_zero_iff]
        omega
    obtain ⟨x, hx⟩ := pick_some ((List.range (j - i)).map fun d =>
      let a := (hh g w (tab g w)).weight (hh g w (tab g w)).table (some (r, k)) s i (i + d + 1)
      (i + d + 1, if a = 0 then 0 else a * (hh g w (tab g w)).rows (hh g w (tab g w)).table r (k + 1) (s' :: ss) (i + d + 1) j)) ⟨_, List.mem_map.mpr ⟨m0 - i - 1, List.mem_range.mpr (by omega), rfl⟩, Nat.pos_of_ne_zero ((val (m0 - i - 1) (by omega)).mpr (by rw [show i + (m0 - i - 1) + 1 = m0 by omega]; exact ⟨d1, d2⟩))⟩
    rw [hx]
    obtain ⟨e0, kk, v, h1, h2, h3⟩ := pick_zero _ x hx
    simp only
    rw [e0, Nat.zero_div, Nat.zero_mod]
    rw [List.getElem?_map] at h1
    have hkk : kk < j - i := by
      rcases Nat.lt_or_ge kk (j - i) with h | h
      · exact h
      · rw [List.getElem?_eq_none (by simpa using h)] at h1; cases h1
    rw [List.getElem?_range hkk] at h1
    simp only [Option.map_some] at h1
    obtain ⟨e1, e2⟩ := Prod.mk.inj (Option.some.inj h1)
    have hv := (val kk (by omega)).mp (by rw [e2]; omega)
    rw [e1] at hv
    have c : Cut g w s (s' :: ss) i x.1 j := ⟨hv.1, hv.2, fun m' h4 h5 h6 => by
      have l3 := h5.lt G.ne (by simp)
      have l4 := h6.lt G.ne (by simp)
      have := h3 (m' - i - 1) (by omega) _ (by rw [List.getElem?_map, List.getElem?_range (by omega)]; rfl)
      have h7 := (val (m' - i - 1) (by omega)).mpr (by rw [show i + (m' - i - 1) + 1 = m' by omega]; exact ⟨h5, h6⟩)
      exact h7 this⟩
    have l5 := hv.1.lt G.ne (by simp)
    have l6 := hv.2.lt G.ne (by simp)
    have rest := rowAt_first G kid r (s' :: ss) (k + 1) x.1 j hj hv.2 (fun a ha => hw a (List.mem_cons_of_mem _ ha)) fun a ha p e u i' j' h4 h5 h6 h7 => hp a (List.mem_cons_of_mem _ ha) p e u i' j' (by omega) h5 (fun e => by omega) h7
    cases s with
    | word b =>
      rw [hw _ List.mem_cons_self b rfl]
      exact .word c rest
    | part p =>
      obtain ⟨r', y, ks, e, fr, ft⟩ := hp _ List.mem_cons_self p rfl (some (r, k)) i x.1 (Nat.le_refl _) (by omega) (fun _ e => by omega) hv.1
      rw [e]
      exact .part c fr ft rest
theorem treeAt_first (G : Good g) : ∀ (f : Nat) (u : Sq11.Under) (p i j : Nat), i < j → j ≤ w.length → Ds g w [.part p] i j → (j - i) * (g.parts + 1) + rank g p < f →
    ∃ r x ks, (hh g w (tab g w)).treeAt f u (.part p) i j 0 = .node r ks ∧ FR g w p i j r x ∧ FTs g w x.right i j ks
  | 0, _, _, _, _, _, _, _, h => absurd h (Nat.not_lt_zero _)
  | f + 1, u, p, i, j, hij, hj, d, hf => by
    rw [Sq11.House.treeAt]
    rw [options_eq]
    have hm : ∀ s, s ∈ (g.rulesOf p).filter (fun s => decide (0 < look (hh g w (tab g w)).table (i * (w.length + 1) + j) s)) ↔ ∃ x, g.rules[s]? = some x ∧ x.left = p ∧ Ds g w x.right i j := fun s => by
      rw [List.mem_filter, mem_rulesOf]
      simp only [decide_eq_true_eq]
      show _ ∧ 0 < look (tab g w) (i * (w.length + 1) + j) s ↔ _
      rw [tab_iff G.ne G.ranked G.rankLe hij hj]
      constructor
      · rintro ⟨⟨x, hx, hl⟩, y, hy, d⟩
        rw [hx] at hy; cases hy
        exact ⟨x, hx, hl, d⟩
      · rintro ⟨x, hx, hl, d⟩
        exact ⟨⟨x, hx, hl⟩, x, hx, d⟩
    have hpw : List.Pairwise (· < ·) ((g.rulesOf p).filter (fun s => decide (0 < look (hh g w (tab g w)).table (i * (w.length + 1) + j) s))) := by
      refine List.Pairwise.filter _ ?_
      unfold Grammar.rulesOf
      refine List.Pairwise.filter _ ?_
      exact List.pairwise_lt_range
    have hpos : ∀ s ∈ (g.rulesOf p).filter (fun s => decide (0 < look (hh g w (tab g w)).table (i * (w.length + 1) + j) s)), 0 < look (hh g w (tab g w)).table ((hh g w (tab g w)).cell i j) s := fun s hs => by
      have := (List.mem_filter.mp hs).2
      exact of_decide_eq_true this
    have hex : ∃ s, s ∈ (g.rulesOf p).filter (fun s => decide (0 < look (hh g w (tab g w)).table (i * (w.length + 1) + j) s)) := by
      cases d with
      | part hr hl a b => cases b; exact ⟨_, (hm _).mpr ⟨_, hr, hl, a⟩⟩
    generalize (g.rulesOf p).filter (fun s => decide (0 < look (hh g w (tab g w)).table (i * (w.length + 1) + j) s)) = l at hm hpw hpos hex
    cases l with
    | nil => obtain ⟨s, hs⟩ := hex; cases hs
    | cons r l =>
      rw [List.map_cons, Sq11.pick, if_pos (hpos r List.mem_cons_self)]
      simp only
      obtain ⟨x, hx, hl, dr⟩ := (hm r).mp List.mem_cons_self
      refine ⟨r, x, _, rfl, ⟨hx, hl, dr, fun r' x' hr' hx' hl' d' => ?_⟩, ?_⟩
      · have := (hm r').mpr ⟨x', hx', hl', d'⟩
        rcases List.mem_cons.mp this with e | e
        · omega
        · have := (List.pairwise_cons.mp hpw).1 r' e
          omega
      · show FTs g w x.right i j ((hh g w (tab g w)).rowAt ((hh g w (tab g w)).treeAt f) r 0 (g.right r) i j 0)
        rw [right_of hx]
        refine rowAt_first G _ r x.right 0 i j hj dr (fun a _ b e u i' j' => ?_) fun a ha q e u i' j' h1 h2 h3 h4 => ?_
        · subst e; unfold Sq11.House.treeAt; rfl
        · subst e
          have l1 := h4.lt G.ne (by simp)
          refine treeAt_first G f u q i' j' l1 (by omega) h4 ?_
          by_cases c : i' = i ∧ j' = j
          · obtain ⟨rfl, rfl⟩ := c
            have := G.ranked r x q hx (h3 rfl rfl)
            rw [hl] at this
            omega
          · have h5 : (j' - i') + 1 ≤ j - i := by omega
            have h6 := Nat.mul_le_mul_right (g.parts + 1) h5
            rw [Nat.add_mul] at h6
            have := G.rankLe q
            omega
/-- THE FIRST READING -/
theorem firstOf_none (G : Good g) (h : w = [] ∨ ¬ Ds g w [.part 0] 0 w.length) : Sq14.firstOf g w = none := by
  unfold Sq14.firstOf
  rcases h with h | h
  · rw [if_pos h]
  · by_cases hw : w = []
    · rw [if_pos hw]
    · rw [if_neg hw, filled_eq]
      unfold Sq11.House.reading Sq11.House.count
      rw [if_neg hw]
      rw [if_neg]
      intro hc
      have hl : 0 < w.length := List.length_pos_iff.mpr hw
      have : Wp g w (tab g w) (.part 0) 0 w.length := by
        unfold Wp
        rw [← weight_t0 (t0 := tab g w) (none : Sq11.Under)]
        exact hc
      exact h ((tab_wp G.ne G.ranked G.rankLe hl (Nat.le_refl _)).mp this)
theorem firstOf_some (G : Good g) (hw : w ≠ []) (d : Ds g w [.part 0] 0 w.length) : ∃ r x ks, Sq14.firstOf g w = some (.node r ks) ∧ FR g w 0 0 w.length r x ∧ FTs g w x.right 0 w.length ks := by
  have hl : 0 < w.length := List.length_pos_iff.mpr hw
  unfold Sq14.firstOf
  rw [if_neg hw, filled_eq]
  unfold Sq11.House.reading Sq11.House.count
  rw [if_neg hw]
  rw [if_pos]
  · obtain ⟨r, x, ks, e, fr, ft⟩ := treeAt_first G (hh g w (tab g w)).high none 0 0 w.length hl (Nat.le_refl _) d (by
      unfold Sq11.House.high
      show (w.length - 0) * (g.parts + 1) + rank g 0 < (w.length + 1) * (g.parts + 1)
      have := G.rankLe 0
      rw [Nat.add_mul, Nat.sub_zero]
      omega)
    refine ⟨r, x, ks, ?_, fr, ft⟩
    rw [← e]
  · have : Wp g w (tab g w) (.part 0) 0 w.length := (tab_wp G.ne G.ranked G.rankLe hl (Nat.le_refl _)).mpr d
    unfold Wp at this
    rw [← weight_t0 (t0 := tab g w) (none : Sq11.Under)] at this
    exact this
end
end Gs
/-! # The program's tables, as numbers whose bits are places -/
namespace Gs
open Nt (Sign Rule Grammar Tree)
section
variable {g : Grammar} {w : List Nat}
/-- how many bits a number has -/
def bl (n : Nat) : Nat := if n = 0 then 0 else n.log2 + 1
def places (n : Nat) : List Nat := (List.range (bl n)).filter fun j => n.testBit j
theorem lt_bl {n j : Nat} (h : n.testBit j = true) : j < bl n := by
  unfold bl
  by_cases h0 : n = 0
  · subst h0; simp at h
  · rw [if_neg h0]
    have h1 := Nat.ge_two_pow_of_testBit h
    have h2 := (Nat.le_log2 h0).mpr h1
    omega
theorem mem_places {n j : Nat} : j ∈ places n ↔ n.testBit j = true := by
  unfold places
  rw [List.mem_filter, List.mem_range]
  exact ⟨fun h => h.2, fun h => ⟨lt_bl h, h⟩⟩
abbrev Ps := Nat → Nat → Nat
abbrev Rs := Nat → Nat → Nat → Nat
def ofSign (w : List Nat) (P : Ps) (s : Sign) (i : Nat) : Nat := match s with
  | .part p => P i p
  | .word a => if w[i]? = some a then 2 ^ (i + 1) else 0
def orAll (R : Rs) (r k : Nat) (l : List Nat) (f : Nat) : Nat := l.foldl (fun f e => f ||| R e r k) f
def behindF (g : Grammar) (w : List Nat) (P : Ps) (R : Rs) (r k i : Nat) : Nat := match (g.right r).drop k with
  | [] => 0
  | s :: ss => if ss.isEmpty then ofSign w P s i else orAll R r (k + 1) (places (ofSign w P s i)) 0
theorem testBit_orAll (R : Rs) (r k j : Nat) : ∀ (l : List Nat) (f : Nat), (orAll R r k l f).testBit j = true ↔ f.testBit j = true ∨ ∃ e ∈ l, (R e r k).testBit j = true
  | [], f => by simp [orAll]
  | e :: l, f => by
    show (orAll R r k l (f ||| R e r k)).testBit j = true ↔ _
    rw [testBit_orAll R r k j l, Nat.testBit_or, Bool.or_eq_true]
    simp only [List.mem_cons, exists_eq_or_imp]
    rw [or_assoc]
/-- the parts' bits at a place are right | are derivations | are all of them -/
def SndP (g : Grammar) (w : List Nat) (P : Ps) (i : Nat) : Prop := ∀ p j, p < g.parts → (P i p).testBit j = true → Ds g w [.part p] i j
def CmpP (g : Grammar) (w : List Nat) (P : Ps) (i : Nat) : Prop := ∀ p j, p < g.parts → Ds g w [.part p] i j → (P i p).testBit j = true
def GoodR (g : Grammar) (w : List Nat) (R : Rs) (i : Nat) : Prop := ∀ r x k j, g.rules[r]? = some x → 1 ≤ k → k < x.right.length → ((R i r k).testBit j = true ↔ Ds g w (x.right.drop k) i j)
structure GoodAt (g : Grammar) (w : List Nat) (P : Ps) (R : Rs) (i : Nat) : Prop where
  snd : SndP g w P i
  cmp : CmpP g w P i
  rest : GoodR g w R i
/-- all places -/
def GoodE (g : Grammar) (w : List Nat) (P : Ps) (R : Rs) : Prop := ∀ i, i ≤ w.length → GoodAt g w P R i
theorem pow_bit {i j : Nat} : (2 ^ i).testBit j = true ↔ j = i := by
  rw [Nat.testBit_two_pow]
  simp only [decide_eq_true_eq]
  exact eq_comm
theorem ofSign_snd (hs : SndP g w P i) {s : Sign} (hk : g.knows s = true) {j : Nat} (h : (ofSign w P s i).testBit j = true) : Ds g w [s] i j := by
  cases s with
  | part p => exact hs p j (by simpa [Grammar.knows] using hk) h
  | word a =>
    unfold ofSign at h
    simp only at h
    split at h
    · rename_i e
      rw [pow_bit.mp h]
      exact .word e .nil
    · simp at h
theorem ofSign_cmp (hc : CmpP g w P i) {s : Sign} (hk : g.knows s = true) {j : Nat} (h : Ds g w [s] i j) : (ofSign w P s i).testBit j = true := by
  cases s with
  | part p => exact hc p j (by simpa [Grammar.knows] using hk) h
  | word a =>
    cases h with
    | word e h2 =>
      cases h2
      unfold ofSign
      simp only [e, if_true]
      exact pow_bit.mpr rfl
theorem behind_one {P : Ps} {R : Rs} {r i k : Nat} {x : Rule} (hx : g.rules[r]? = some x) {s : Sign} (e : x.right.drop k = [s]) : behindF g w P R r k i = ofSign w P s i := by
  unfold behindF
  rw [right_of hx, e]
  rfl
theorem behind_more {P : Ps} {R : Rs} {r i k : Nat} {x : Rule} (hx : g.rules[r]? = some x) {s s' : Sign} {ss : List Sign} (e : x.right.drop k = s :: s' :: ss) : behindF g w P R r k i = orAll R r (k + 1) (places (ofSign w P s i)) 0 := by
  unfold behindF
  rw [right_of hx, e]
  rfl
theorem drop_cons {α : Type} {l : List α} {k : Nat} (h : k < l.length) : ∃ s, l[k]? = some s ∧ l.drop k = s :: l.drop (k + 1) := ⟨l[k], List.getElem?_eq_getElem h, List.drop_eq_getElem_cons h⟩
/-- what may end behind a rule's signs from one on: sound, and (with all that the first one may be) complete -/
theorem behind_iff (G : Good g) {P : Ps} {R : Rs} {r i k : Nat} {x : Rule} (hx : g.rules[r]? = some x) (hk : k < x.right.length) (hi : i ≤ w.length) (hs : SndP g w P i) (hr : ∀ i', i < i' → i' ≤ w.length → GoodR g w R i') (j : Nat) :
    ((behindF g w P R r k i).testBit j = true → Ds g w (x.right.drop k) i j) ∧
    ((∀ s e, x.right[k]? = some s → Ds g w [s] i e → (ofSign w P s i).testBit e = true) → Ds g w (x.right.drop k) i j → (behindF g w P R r k i).testBit j = true) := by
  obtain ⟨s, e1, e2⟩ := drop_cons hk
  have hm : s ∈ x.right := List.mem_of_getElem? e1
  have kn : g.knows s = true := G.kn x (List.mem_of_getElem? hx) s hm
  by_cases hl : k + 1 < x.right.length
  · obtain ⟨s', e3, e4⟩ := drop_cons hl
    rw [e4] at e2
    rw [behind_more hx e2, testBit_orAll]
    constructor
    · rintro (h | ⟨m, hm, h⟩)
      · simp at h
      · have d1 := ofSign_snd hs kn (mem_places.mp hm)
        have lt := d1.lt G.ne (by simp)
        have d2 := (hr m lt (d1.bound hi) r x (k + 1) j hx (by omega) hl).mp h
        rw [e4] at d2
        rw [e2]
        exact .join d1 d2
    · intro hc d
      rw [e2] at d
      obtain ⟨m, d1, d2⟩ := d.split
      have lt := d1.lt G.ne (by simp)
      refine .inr ⟨m, mem_places.mpr (hc s m e1 d1), (hr m lt (d1.bound hi) r x (k + 1) j hx (by omega) hl).mpr ?_⟩
      rw [e4]
      exact d2
  · have e3 : x.right.drop (k + 1) = [] := List.drop_eq_nil_of_le (by omega)
    rw [e3] at e2
    rw [behind_one hx e2, e2]
    exact ⟨fun h => ofSign_snd hs kn h, fun hc d => hc s j e1 d⟩
theorem behind_good (G : Good g) {P : Ps} {R : Rs} {r i k : Nat} {x : Rule} (hx : g.rules[r]? = some x) (hk : k < x.right.length) (hi : i ≤ w.length) (hg : SndP g w P i) (hc : CmpP g w P i) (hr : ∀ i', i < i' → i' ≤ w.length → GoodR g w R i') (j : Nat) :
    (behindF g w P R r k i).testBit j = true ↔ Ds g w (x.right.drop k) i j := by
  obtain ⟨h1, h2⟩ := behind_iff G hx hk hi hg hr j
  exact ⟨h1, h2 fun s e hs d => ofSign_cmp hc (G.kn x (List.mem_of_getElem? hx) s (List.mem_of_getElem? hs)) d⟩

/-! ### one place grows -/
def updP (P : Ps) (i p v : Nat) : Ps := fun a b => if a = i ∧ b = p then v else P a b
def growOne (g : Grammar) (w : List Nat) (R : Rs) (i : Nat) (st : Ps × Bool) (r : Nat) : Ps × Bool :=
  let e := behindF g w st.1 R r 0 i ||| st.1 i (g.left r)
  (updP st.1 i (g.left r) e, st.2 || (e != st.1 i (g.left r)))
def growF (g : Grammar) (w : List Nat) (R : Rs) (i : Nat) (P : Ps) : Ps × Bool := (List.range g.rules.length).foldl (growOne g w R i) (P, false)
/-- how much may still come at a place -/
def lack (g : Grammar) (w : List Nat) (P : Ps) (i : Nat) : Nat := ((List.range g.parts).map fun p => 2 ^ (w.length + 1) - P i p).sum
theorem sum_le {f h : Nat → Nat} : ∀ (l : List Nat), (∀ p ∈ l, f p ≤ h p) → (l.map f).sum ≤ (l.map h).sum ∧ ((∃ p ∈ l, f p < h p) → (l.map f).sum < (l.map h).sum)
  | [], _ => ⟨Nat.le_refl _, fun ⟨p, hp, _⟩ => by cases hp⟩
  | a :: l, hh => by
    obtain ⟨h1, h2⟩ := sum_le l fun p hp => hh p (List.mem_cons_of_mem _ hp)
    have h0 := hh a List.mem_cons_self
    simp only [List.map_cons, List.sum_cons]
    refine ⟨by omega, fun ⟨p, hp, h3⟩ => ?_⟩
    rcases List.mem_cons.mp hp with e | e
    · subst e; omega
    · have := h2 ⟨p, e, h3⟩; omega
theorem or_ge (a b : Nat) : b ≤ a ||| b := Nat.right_le_or
theorem lt_pow_of_bits {n m : Nat} (h : ∀ j, n.testBit j = true → j < m) : n < 2 ^ m := Nat.lt_pow_two_of_testBit n fun j hj => by
  cases e : n.testBit j with
  | false => rfl
  | true => exact absurd (h j e) (by omega)
theorem left_of {r : Nat} {x : Rule} (h : g.rules[r]? = some x) : g.left r = x.left := by
  unfold Grammar.left; rw [h]
structure Step (g : Grammar) (w : List Nat) (R : Rs) (i : Nat) (P P' : Ps) : Prop where
  other : ∀ a b, a ≠ i → P' a b = P a b
  more : ∀ p j, (P i p).testBit j = true → (P' i p).testBit j = true
  snd : SndP g w P i → SndP g w P' i
theorem grow_fold (G : Good g) (hi : i ≤ w.length) (R : Rs) (hr : ∀ i', i < i' → i' ≤ w.length → GoodR g w R i') : ∀ (l : List Nat) (P : Ps) (b : Bool), (∀ r ∈ l, r < g.rules.length) → SndP g w P i →
    let st := l.foldl (growOne g w R i) (P, b)
    Step g w R i P st.1 ∧ (st.2 = false → b = false ∧ st.1 = P ∧ ∀ r ∈ l, ∀ x, g.rules[r]? = some x → ∀ j, (behindF g w P R r 0 i).testBit j = true → (P i x.left).testBit j = true) ∧
      lack g w st.1 i ≤ lack g w P i ∧ (st.2 = true → b = true ∨ lack g w st.1 i < lack g w P i)
  | [], P, b, _, hs => ⟨⟨fun _ _ _ => rfl, fun _ _ h => h, fun h => h⟩, fun h => ⟨h, rfl, fun r hr => by cases hr⟩, Nat.le_refl _, fun h => .inl h⟩
  | r :: l, P, b, hl, hs => by
    have hrl := hl r List.mem_cons_self
    obtain ⟨x, hx⟩ : ∃ x, g.rules[r]? = some x := ⟨_, List.getElem?_eq_getElem hrl⟩
    have hxm := List.mem_of_getElem? hx
    have hpos : 0 < x.right.length := List.length_pos_iff.mpr (G.ne r x hx)
    have hlx := G.left x hxm
    have el := left_of hx
    obtain ⟨b1, _⟩ := (fun j => behind_iff G hx hpos hi hs hr j : ∀ j, _) 0
    have bs : ∀ j, (behindF g w P R r 0 i).testBit j = true → Ds g w [.part x.left] i j := fun j h => by
      have := (behind_iff G hx hpos hi hs hr j).1 h
      rw [List.drop_zero] at this
      exact .part hx rfl this .nil
    have st1 : Step g w R i P (growOne g w R i (P, b) r).1 := by
      refine ⟨fun a c ha => ?_, fun p j h => ?_, fun _ p j hp h => ?_⟩
      · simp only [growOne, updP, ha, false_and, if_false]
      · simp only [growOne, updP, true_and]
        split
        · rename_i e
          rw [Nat.testBit_or, ← e, h, Bool.or_true]
        · exact h
      · simp only [growOne, updP, true_and] at h
        split at h
        · rename_i e
          rw [Nat.testBit_or, Bool.or_eq_true, el] at h
          rw [e, el]
          rcases h with h | h
          · exact bs j h
          · exact hs x.left j hlx h
        · exact hs p j hp h
    obtain ⟨i1, i2, i3, i4⟩ := grow_fold G hi R hr l (growOne g w R i (P, b) r).1 (growOne g w R i (P, b) r).2 (fun r' h => hl r' (List.mem_cons_of_mem _ h)) (st1.snd hs)
    rw [List.foldl_cons]
    have bound : ∀ Q : Ps, SndP g w Q i → ∀ p, p < g.parts → Q i p < 2 ^ (w.length + 1) := fun Q hQ p hp => lt_pow_of_bits fun j hj => by
      have := (hQ p j hp hj).bound hi
      omega
    have hle : ∀ p, P i p ≤ (growOne g w R i (P, b) r).1 i p := fun p => by
      simp only [growOne, updP, true_and]
      split
      · rename_i e; rw [e]; exact or_ge _ _
      · exact Nat.le_refl _
    have hlack : lack g w (growOne g w R i (P, b) r).1 i ≤ lack g w P i ∧ ((∃ p ∈ List.range g.parts, 2 ^ (w.length + 1) - (growOne g w R i (P, b) r).1 i p < 2 ^ (w.length + 1) - P i p) → lack g w (growOne g w R i (P, b) r).1 i < lack g w P i) :=
      sum_le _ fun p _ => Nat.sub_le_sub_left (hle p) _
    refine ⟨⟨fun a c ha => (i1.other a c ha).trans (st1.other a c ha), fun p j h => i1.more p j (st1.more p j h), fun _ => i1.snd (st1.snd hs)⟩, fun hf => ?_, Nat.le_trans i3 hlack.1, fun ht => ?_⟩
    · obtain ⟨j1, j2, j3⟩ := i2 hf
      have e2 : b = false ∧ (behindF g w P R r 0 i ||| P i (g.left r)) = P i (g.left r) := by
        simp only [growOne, Bool.or_eq_false_iff, bne_eq_false_iff_eq] at j1
        exact j1
      have eP : (growOne g w R i (P, b) r).1 = P := by
        funext a c
        simp only [growOne, updP]
        split
        · rename_i e; rw [e.1, e.2, e2.2]
        · rfl
      have j2' := j2.trans eP
      rw [eP] at j3
      refine ⟨e2.1, j2', fun r' hr' x' hx' j h => ?_⟩
      rcases List.mem_cons.mp hr' with e | e
      · subst e
        rw [hx] at hx'; cases hx'
        rw [← el, ← e2.2, Nat.testBit_or, h, Bool.true_or]
      · exact j3 r' e x' hx' j h
    · rcases i4 ht with h | h
      · have : b = true ∨ (behindF g w P R r 0 i ||| P i (g.left r)) ≠ P i (g.left r) := by
          simp only [growOne, Bool.or_eq_true, bne_iff_ne] at h
          exact h
        rcases this with h | h
        · exact .inl h
        · refine .inr (Nat.lt_of_le_of_lt i3 (hlack.2 ⟨g.left r, List.mem_range.mpr (by rw [el]; exact hlx), ?_⟩))
          have e : (growOne g w R i (P, b) r).1 i (g.left r) = behindF g w P R r 0 i ||| P i (g.left r) := by simp [growOne, updP]
          have l1 := bound _ (st1.snd hs) (g.left r) (by rw [el]; exact hlx)
          rw [e] at l1 ⊢
          have := or_ge (behindF g w P R r 0 i) (P i (g.left r))
          omega
      · exact .inr (Nat.lt_of_lt_of_le h hlack.1)
/-- one turn of all rules: something came, and less is lacking; or nothing came, and all is there -/
theorem grow_turn (G : Good g) {P : Ps} {R : Rs} {i : Nat} (hi : i ≤ w.length) (hr : ∀ i', i < i' → i' ≤ w.length → GoodR g w R i') (hs : SndP g w P i) :
    Step g w R i P (growF g w R i P).1 ∧ ((growF g w R i P).2 = true → lack g w (growF g w R i P).1 i < lack g w P i) ∧ ((growF g w R i P).2 = false → (growF g w R i P).1 = P ∧ CmpP g w P i) := by
  obtain ⟨h1, h2, h3, h4⟩ := grow_fold G hi R hr (List.range g.rules.length) P false (fun r h => List.mem_range.mp h) hs
  refine ⟨h1, fun ht => (h4 ht).resolve_left (by simp), fun hf => ?_⟩
  obtain ⟨_, k2, k3⟩ := h2 hf
  refine ⟨k2, fun p j hp d => ?_⟩
  have main : ∀ {ss : List Sign} {a c : Nat}, Ds g w ss a c → a = i → ∀ s rest, ss = s :: rest → ∃ m, (ofSign w P s i).testBit m = true ∧ Ds g w rest m c := by
    intro ss a c d
    induction d with
    | nil => intro _ s rest e; cases e
    | @word b ss a c e dw ih =>
      intro ea s rest es
      subst ea
      cases es
      refine ⟨a + 1, ?_, dw⟩
      simp only [ofSign, e, if_true]
      exact pow_bit.mpr rfl
    | @part p ss a m c r x hx hl d1 d2 ih1 ih2 =>
      intro ea s rest es
      subst ea
      cases es
      refine ⟨m, ?_, d2⟩
      show (P a p).testBit m = true
      rw [← hl]
      have hpos : 0 < x.right.length := List.length_pos_iff.mpr (G.ne r x hx)
      refine k3 r (List.mem_range.mpr (List.getElem?_eq_some_iff.mp hx).1) x hx m ?_
      obtain ⟨s0, e1, e2⟩ := drop_cons hpos
      have e2' := e2
      rw [List.drop_zero] at e2'
      have kn : g.knows s0 = true := G.kn x (List.mem_of_getElem? hx) s0 (List.mem_of_getElem? e1)
      obtain ⟨m0, q1, q2⟩ := ih1 rfl s0 _ e2'
      by_cases hl2 : 0 + 1 < x.right.length
      · obtain ⟨s', e3, e4⟩ := drop_cons hl2
        have ee := e2
        rw [e4] at ee
        rw [behind_more hx ee, testBit_orAll]
        have d0 := ofSign_snd hs kn q1
        have lt := d0.lt G.ne (by simp)
        exact .inr ⟨m0, mem_places.mpr q1, (hr m0 lt (d0.bound hi) r x (0 + 1) m hx (by omega) hl2).mpr q2⟩
      · have e3 : x.right.drop (0 + 1) = [] := List.drop_eq_nil_of_le (by omega)
        rw [e3] at e2 q2
        cases q2
        rw [behind_one hx e2]
        exact q1
  obtain ⟨m, h1, h2⟩ := main d rfl (.part p) [] rfl
  cases h2
  exact h1
/-! ### the rests of a place -/
def updR (R : Rs) (i r k v : Nat) : Rs := fun a b c => if a = i ∧ b = r ∧ c = k then v else R a b c
def restOne (g : Grammar) (w : List Nat) (P : Ps) (i r : Nat) (R : Rs) (k : Nat) : Rs := updR R i r k (behindF g w P R r k i)
def restRule (g : Grammar) (w : List Nat) (P : Ps) (i : Nat) (R : Rs) (r : Nat) : Rs := (List.range' 1 ((g.right r).length - 1)).foldl (restOne g w P i r) R
def restsF (g : Grammar) (w : List Nat) (P : Ps) (i : Nat) (R : Rs) : Rs := (List.range g.rules.length).foldl (restRule g w P i) R
/-- what the rules' rests need: the places behind -/
theorem behind_later (G : Good g) {P : Ps} {R R' : Rs} {r i k : Nat} {x : Rule} (hx : g.rules[r]? = some x) (hi : i ≤ w.length) (hs : SndP g w P i) (h : ∀ a b c, i < a → R' a b c = R a b c) : behindF g w P R' r k i = behindF g w P R r k i := by
  by_cases hk : k < x.right.length
  · obtain ⟨s, e1, e2⟩ := drop_cons hk
    by_cases hl : k + 1 < x.right.length
    · obtain ⟨s', e3, e4⟩ := drop_cons hl
      rw [e4] at e2
      rw [behind_more hx e2, behind_more hx e2]
      have kn : g.knows s = true := G.kn x (List.mem_of_getElem? hx) s (List.mem_of_getElem? e1)
      have later : ∀ e ∈ places (ofSign w P s i), i < e := fun e he => (ofSign_snd hs kn (mem_places.mp he)).lt G.ne (by simp)
      have : ∀ (l : List Nat) (f : Nat), (∀ e ∈ l, i < e) → orAll R' r (k + 1) l f = orAll R r (k + 1) l f := by
        intro l
        induction l with
        | nil => intro _ _; rfl
        | cons e l ih =>
          intro f hl
          show orAll R' r (k + 1) l (f ||| R' e r (k + 1)) = orAll R r (k + 1) l (f ||| R e r (k + 1))
          rw [h e r (k + 1) (hl e List.mem_cons_self)]
          exact ih _ fun e he => hl e (List.mem_cons_of_mem _ he)
      exact this _ _ later
    · have e3 : x.right.drop (k + 1) = [] := List.drop_eq_nil_of_le (by omega)
      rw [e3] at e2
      rw [behind_one hx e2, behind_one hx e2]
  · have e : x.right.drop k = [] := List.drop_eq_nil_of_le (by omega)
    unfold behindF
    rw [right_of hx, e]
theorem rule_fold (G : Good g) {P : Ps} {r i : Nat} {x : Rule} (hx : g.rules[r]? = some x) (hi : i ≤ w.length) (hs : SndP g w P i) : ∀ (l : List Nat) (R : Rs), let R' := l.foldl (restOne g w P i r) R
    (∀ a b c, (a ≠ i ∨ b ≠ r ∨ c ∉ l) → R' a b c = R a b c) ∧ ∀ k ∈ l, R' i r k = behindF g w P R r k i
  | [], R => ⟨fun _ _ _ _ => rfl, fun k hk => by cases hk⟩
  | k :: l, R => by
    obtain ⟨h1, h2⟩ := rule_fold G hx hi hs l (restOne g w P i r R k)
    have same : ∀ a b c, (a ≠ i ∨ b ≠ r ∨ c ≠ k) → restOne g w P i r R k a b c = R a b c := fun a b c h => by
      unfold restOne updR
      rw [if_neg]
      rintro ⟨e1, e2, e3⟩
      rcases h with h | h | h <;> contradiction
    have lat : ∀ k', behindF g w P (restOne g w P i r R k) r k' i = behindF g w P R r k' i := fun k' => behind_later G hx hi hs fun a b c ha => same a b c (.inl (by omega))
    rw [List.foldl_cons]
    refine ⟨fun a b c h => ?_, fun k' hk' => ?_⟩
    · rw [h1 a b c (by rcases h with h | h | h; · exact .inl h
                       · exact .inr (.inl h)
                       · exact .inr (.inr fun z => h (List.mem_cons_of_mem _ z)))]
      exact same a b c (by rcases h with h | h | h; · exact .inl h
                           · exact .inr (.inl h)
                           · exact .inr (.inr fun z => h (by rw [z]; exact List.mem_cons_self)))
    · by_cases hm : k' ∈ l
      · rw [h2 k' hm, lat]
      · have e : k' = k := (List.mem_cons.mp hk').resolve_right hm
        subst e
        rw [h1 i r k' (.inr (.inr hm))]
        simp [restOne, updR]
theorem rests_fold (G : Good g) {P : Ps} {i : Nat} (hi : i ≤ w.length) (hs : SndP g w P i) : ∀ (l : List Nat) (R : Rs), (∀ r ∈ l, r < g.rules.length) → let R' := l.foldl (restRule g w P i) R
    (∀ a b c, a ≠ i → R' a b c = R a b c) ∧ ∀ r ∈ l, ∀ k, 1 ≤ k → k < (g.right r).length → R' i r k = behindF g w P R r k i
  | [], R, _ => ⟨fun _ _ _ _ => rfl, fun r hr => by cases hr⟩
  | r :: l, R, hl => by
    obtain ⟨x, hx⟩ : ∃ x, g.rules[r]? = some x := ⟨_, List.getElem?_eq_getElem (hl r List.mem_cons_self)⟩
    obtain ⟨a1, a2⟩ := rule_fold (w := w) G hx hi hs (List.range' 1 ((g.right r).length - 1)) R
    obtain ⟨h1, h2⟩ := rests_fold G hi hs l (restRule g w P i R r) fun r' h => hl r' (List.mem_cons_of_mem _ h)
    have same : ∀ a b c, a ≠ i → restRule g w P i R r a b c = R a b c := fun a b c h => a1 a b c (.inl h)
    have lat : ∀ r' k', r' < g.rules.length → behindF g w P (restRule g w P i R r) r' k' i = behindF g w P R r' k' i := fun r' k' h => behind_later G (List.getElem?_eq_getElem h) hi hs fun a b c ha => same a b c (by omega)
    rw [List.foldl_cons]
    refine ⟨fun a b c h => (h1 a b c h).trans (same a b c h), fun r' hr' k hk1 hk2 => ?_⟩
    by_cases hm : r' ∈ l
    · rw [h2 r' hm k hk1 hk2]
      exact lat r' k (hl r' (List.mem_cons_of_mem _ hm))
    · have e : r' = r := (List.mem_cons.mp hr').resolve_right hm
      subst e
      have stays : ∀ (l : List Nat) (R0 : Rs), r' ∉ l → (∀ q ∈ l, q < g.rules.length) → l.foldl (restRule g w P i) R0 i r' k = R0 i r' k := by
        intro l
        induction l with
        | nil => intro _ _ _; rfl
        | cons q l ih =>
          intro R0 hn hq
          rw [List.foldl_cons, ih _ (fun z => hn (List.mem_cons_of_mem _ z)) fun q h => hq q (List.mem_cons_of_mem _ h)]
          obtain ⟨y, hy⟩ : ∃ y, g.rules[q]? = some y := ⟨_, List.getElem?_eq_getElem (hq q List.mem_cons_self)⟩
          exact (rule_fold (w := w) G hy hi hs (List.range' 1 ((g.right q).length - 1)) R0).1 i r' k (.inr (.inl fun z => hn (by rw [z]; exact List.mem_cons_self)))
      rw [stays l _ hm fun q h => hl q (List.mem_cons_of_mem _ h)]
      refine a2 k ?_
      rw [List.mem_range']
      exact ⟨k - 1, by omega, by omega⟩
theorem rests_good (G : Good g) {P : Ps} {R : Rs} {i : Nat} (hi : i ≤ w.length) (hs : SndP g w P i) (hc : CmpP g w P i) (hr : ∀ i', i < i' → i' ≤ w.length → GoodR g w R i') :
    (∀ a b c, a ≠ i → restsF g w P i R a b c = R a b c) ∧ GoodR g w (restsF g w P i R) i := by
  obtain ⟨h1, h2⟩ := rests_fold (w := w) G hi hs (List.range g.rules.length) R fun r h => List.mem_range.mp h
  refine ⟨h1, fun r x k j hx hk1 hk2 => ?_⟩
  rw [show restsF g w P i R i r k = behindF g w P R r k i from h2 r (List.mem_range.mpr (List.getElem?_eq_some_iff.mp hx).1) k hk1 (by rw [right_of hx]; exact hk2)]
  exact behind_good G hx hk2 hi hs hc hr j
end
end Gs
/-! # The mirror: what the program's defs compute, as plain functions -/
namespace Gs
open Nt (Sign Rule Grammar Tree)
/-! ### grammars as they are told: pairs (part, signs), signs by numbers -/
abbrev NRule := Nat × List Nat
def rulesTold : List Nat → Option (List NRule)
  | [] => some []
  | [_] => none
  | p :: n :: l => if 1 ≤ n ∧ n ≤ 8 ∧ n ≤ l.length then (rulesTold (l.drop n)).map fun r => (p, l.take n) :: r else none
termination_by l => l.length
decreasing_by simp only [List.length_drop, List.length_cons]; omega
def signOk (s w p : Nat) : Bool := if 64 ≤ s then decide (s < 64 + p) else decide (s < w)
def countsOk (w p : Nat) : Bool := decide (1 ≤ w ∧ w ≤ 64 ∧ 1 ≤ p ∧ p ≤ 32)
def rulesOk (rs : List NRule) (w p : Nat) : Prop := rs.length ≤ 64 ∧ rs.Nodup ∧ ∀ x ∈ rs, x.1 < p ∧ ∀ s ∈ x.2, signOk s w p = true
/-- a part comes to another alone, by one rule | by some -/
def AloneN (rs : List NRule) (p q : Nat) : Prop := (p, [64 + q]) ∈ rs
inductive ReachN (rs : List NRule) (p : Nat) : Nat → Prop
  | one {q : Nat} : AloneN rs p q → ReachN rs p q
  | more {x q : Nat} : ReachN rs p x → AloneN rs x q → ReachN rs p q
/-- led_alone's inner loop: what's found, what's left -/
def ledOne (here : Nat) (st : List Nat × List Nat) (x : NRule) : List Nat × List Nat := match x.2 with
  | [s] => if x.1 = here ∧ 64 ≤ s ∧ s - 64 ∉ st.1 then (st.1 ++ [s - 64], st.2 ++ [s - 64]) else st
  | _ => st
def ledRow (here : Nat) (rs : List NRule) (st : List Nat × List Nat) : List Nat × List Nat := rs.foldl (ledOne here) st
/-! ### the tree's rules, as tuples (rule, begin, end, around) -/
abbrev Nd := Nat × Nat × Nat × Option Nat
mutual
def cntT : Tree → Nat
  | .leaf _ => 0
  | .node _ ks => 1 + cntTs ks
def cntTs : List Tree → Nat
  | [] => 0
  | t :: ts => cntT t + cntTs ts
end
mutual
/-- k: the place of the first rule; ar: the rule around; i: where its words begin -/
def nodesA (k : Nat) (ar : Option Nat) (i : Nat) : Tree → List Nd
  | .leaf _ => []
  | .node r ks => (r, i, i + (Nt.saysAll ks).length, ar) :: nodesAs (k + 1) (some k) i ks
def nodesAs (k : Nat) (ar : Option Nat) (i : Nat) : List Tree → List Nd
  | [] => []
  | t :: ts => nodesA k ar i t ++ nodesAs (k + cntT t) ar (i + t.says.length) ts
end
/-- read: the tree's list and its rules, or nothing -/
def readT (g : Grammar) (w : List Nat) : Option (List Nat × List Nd) := (Sq14.firstOf g w).map fun t => (t.row, nodesA 0 none 0 t)
/-! ### the house -/
abbrev Wd := Nat × Nat
structure HM where
  g : Grammar
  text : List Wd
  next : Nat
  names : List NRule
  marks : List (Nat × Nat)
  elder : List (List Wd)
  later : List (List Wd)
  tree : Option (List Nat × List Nd)
  order : List Nat
def HM.fresh (g : Grammar) : HM := ⟨g, [], 0, [], [], [], [], none, []⟩
def keyOf (text : List Wd) (x : Nd) : NRule := (x.1, ((text.drop x.2.1).take (x.2.2.1 - x.2.1)).map (·.1))
def addKey (names : List NRule) (k : NRule) : List NRule := if k ∈ names then names else names ++ [k]
def takeOne (text : List Wd) (st : List NRule × List Nat) (x : Nd) : List NRule × List Nat := (addKey st.1 (keyOf text x), st.2 ++ [(addKey st.1 (keyOf text x)).idxOf (keyOf text x)])
def nodesOf (t : Option (List Nat × List Nd)) : List Nd := match t with
  | none => []
  | some t => t.2
def HM.take (m : HM) (text : List Wd) : HM :=
  let t := readT m.g (text.map (·.2))
  let st := (nodesOf t).foldl (takeOne text) (m.names, [])
  { m with text := text, tree := t, names := st.1, order := st.2 }
def sortN (l : List Nat) : List Nat := l.mergeSort (fun a b => decide (a ≤ b))
def tells (a b : List Nat) : List Nat :=
  let came := sortN (b.filter fun x => decide (x ∉ a))
  let went := sortN (a.filter fun x => decide (x ∉ b))
  b.length :: came.length :: came ++ went.length :: went
def HM.change (m : HM) (text : List Wd) : HM × List Nat := (m.take text, tells m.order (m.take text).order)
def lastN {α : Type} (n : Nat) (l : List α) : List α := l.drop (l.length - n)
def HM.step (m : HM) (text : List Wd) : HM × List Nat := HM.change { m with elder := lastN 64 (m.elder ++ [m.text]), later := [] } text
def newWords (next : Nat) (l : List Nat) : List Wd := ((List.range l.length).map fun k => next + k).zip l
def HM.edit (m : HM) (i n : Nat) (l : List Nat) : HM × List Nat := HM.step { m with next := m.next + l.length } (m.text.take i ++ newWords m.next l ++ m.text.drop (i + n))
def HM.move (m : HM) (i n to : Nat) : HM × List Nat :=
  let left := m.text.take i ++ m.text.drop (i + n)
  m.step (left.take to ++ (m.text.drop i).take n ++ left.drop to)
def HM.undo (m : HM) : HM × List Nat := HM.change { m with later := m.later ++ [m.text], elder := m.elder.dropLast } (m.elder.getLast?.getD [])
def HM.redo (m : HM) : HM × List Nat := HM.change { m with elder := m.elder ++ [m.text], later := m.later.dropLast } (m.later.getLast?.getD [])
/-! ### marks, by name -/
def putM (l : List (Nat × Nat)) (n v : Nat) : List (Nat × Nat) := if l.any (fun x => decide (x.1 = n)) then l.map (fun x => if x.1 = n then (x.1, v) else x) else l ++ [(n, v)]
def dropM (l : List (Nat × Nat)) (n : Nat) : List (Nat × Nat) := l.filter fun x => decide (x.1 ≠ n)
def markAt (l : List (Nat × Nat)) (n : Nat) : Option Nat := (l.find? fun x => decide (x.1 = n)).map (·.2)
def setMark (l : List (Nat × Nat)) (n v : Nat) : List (Nat × Nat) := if v = 0 then dropM l n else putM l n v
def others (l : List (Nat × Nat)) (n : Nat) : Nat := (l.filter fun x => decide (x.1 ≠ n)).length
end Gs
/-! # led_alone: what is found is what is reached -/
namespace Gs
theorem nodup_le {α : Type} [DecidableEq α] : ∀ (l l' : List α), l.Nodup → (∀ x ∈ l, x ∈ l') → l.length ≤ l'.length
  | [], _, _, _ => Nat.zero_le _
  | x :: l, l', hn, h => by
    have hx := h x List.mem_cons_self
    have h1 := nodup_le l (l'.erase x) (List.nodup_cons.mp hn).2 fun y hy => (List.mem_erase_of_ne fun e => (List.nodup_cons.mp hn).1 (by rw [← e]; exact hy)).mpr (h y (List.mem_cons_of_mem _ hy))
    rw [List.length_erase_of_mem hx] at h1
    have h2 := List.length_pos_of_mem hx
    rw [List.length_cons]
    omega
structure Led (rs : List NRule) (p : Nat) (found left : List Nat) : Prop where
  reach : ∀ q ∈ found, ReachN rs p q
  known : ∀ x ∈ left, x = p ∨ x ∈ found
  done : ∀ x, (x = p ∨ x ∈ found) → x ∈ left ∨ ∀ q, AloneN rs x q → q ∈ found
  nd : found.Nodup
theorem led_start (rs : List NRule) (p : Nat) : Led rs p [] [p] := by
  refine ⟨fun q h => (by cases h), fun x h => .inl (List.mem_singleton.mp h), fun x h => .inl ?_, List.nodup_nil⟩
  rcases h with h | h
  · exact List.mem_singleton.mpr h
  · cases h
/-- the targets of rules of one part alone -/
def tgs (rs : List NRule) : List Nat := rs.map fun x => x.2.headD 0 - 64
theorem led_few {rs : List NRule} {p : Nat} {found left : List Nat} (h : Led rs p found left) : found.length ≤ rs.length := by
  have : (tgs rs).length = rs.length := List.length_map ..
  rw [← this]
  refine nodup_le _ _ h.nd fun q hq => ?_
  have ex : ∃ x, AloneN rs x q := by
    have := h.reach q hq
    cases this with
    | one a => exact ⟨_, a⟩
    | more _ a => exact ⟨_, a⟩
  obtain ⟨x, hx⟩ := ex
  refine List.mem_map.mpr ⟨_, hx, ?_⟩
  simp
theorem led_fold (rs : List NRule) (here : Nat) : ∀ (l : List NRule) (st : List Nat × List Nat), (∀ x ∈ l, x ∈ rs) → ∃ new : List Nat, l.foldl (ledOne here) st = (st.1 ++ new, st.2 ++ new) ∧
    (∀ q ∈ new, AloneN rs here q) ∧ (∀ q, (here, [64 + q]) ∈ l → q ∈ st.1 ++ new) ∧ (st.1.Nodup → (st.1 ++ new).Nodup)
  | [], st, _ => ⟨[], by simp, (fun q h => by cases h), (fun q h => by cases h), fun h => by simpa using h⟩
  | x :: l, st, hl => by
    rw [List.foldl_cons]
    have skip : ledOne here st x = st → (∀ q, x = (here, [64 + q]) → q ∈ st.1) → ∃ new : List Nat, l.foldl (ledOne here) (ledOne here st x) = (st.1 ++ new, st.2 ++ new) ∧
        (∀ q ∈ new, AloneN rs here q) ∧ (∀ q, (here, [64 + q]) ∈ x :: l → q ∈ st.1 ++ new) ∧ (st.1.Nodup → (st.1 ++ new).Nodup) := fun e hx => by
      rw [e]
      obtain ⟨new, h1, h2, h3, h4⟩ := led_fold rs here l st fun y hy => hl y (List.mem_cons_of_mem _ hy)
      refine ⟨new, h1, h2, fun q hq => ?_, h4⟩
      rcases List.mem_cons.mp hq with z | z
      · exact List.mem_append_left _ (hx q z.symm)
      · exact h3 q z
    obtain ⟨p, ss⟩ := x
    match ss, hl with
    | [], hl => exact skip rfl fun q e => by cases e
    | _ :: _ :: _, hl => exact skip rfl fun q e => by cases e
    | [s], hl =>
      by_cases c : p = here ∧ 64 ≤ s ∧ s - 64 ∉ st.1
      · have e : ledOne here st (p, [s]) = (st.1 ++ [s - 64], st.2 ++ [s - 64]) := by
          unfold ledOne
          simp only
          rw [if_pos c]
        rw [e]
        obtain ⟨new, h1, h2, h3, h4⟩ := led_fold rs here l (st.1 ++ [s - 64], st.2 ++ [s - 64]) fun y hy => hl y (List.mem_cons_of_mem _ hy)
        refine ⟨(s - 64) :: new, by rw [h1]; simp, fun q hq => ?_, fun q hq => ?_, fun hn => ?_⟩
        · rcases List.mem_cons.mp hq with z | z
          · rw [z]
            have := hl _ List.mem_cons_self
            unfold AloneN
            rw [show 64 + (s - 64) = s by omega, ← c.1]
            exact this
          · exact h2 q z
        · rcases List.mem_cons.mp hq with z | z
          · have : [64 + q] = [s] := congrArg Prod.snd z
            have : 64 + q = s := by injection this
            simp [← this]
          · have := h3 q z
            simpa using this
        · have := h4 (by
            show (st.1 ++ [s - 64]).Nodup
            rw [List.nodup_append]
            exact ⟨hn, List.nodup_cons.mpr ⟨by simp, List.nodup_nil⟩, fun a ha b hb e => c.2.2 (by rw [← List.mem_singleton.mp hb, ← e]; exact ha)⟩)
          simpa using this
      · refine skip ?_ fun q e => ?_
        · unfold ledOne
          simp only
          rw [if_neg c]
        · have e1 : p = here := congrArg Prod.fst e
          have e2 : [s] = [64 + q] := congrArg Prod.snd e
          have e2 : s = 64 + q := by injection e2
          refine Classical.byContradiction fun hn => c ⟨e1, by omega, ?_⟩
          rw [e2, show 64 + q - 64 = q by omega]
          exact hn
theorem led_step {rs : List NRule} {p here : Nat} {found left : List Nat} (h : Led rs p found (left ++ [here])) : Led rs p (ledRow here rs (found, left)).1 (ledRow here rs (found, left)).2 ∧
    2 * (rs.length - (ledRow here rs (found, left)).1.length) + (ledRow here rs (found, left)).2.length < 2 * (rs.length - found.length) + (left ++ [here]).length := by
  obtain ⟨new, h1, h2, h3, h4⟩ := led_fold rs here rs (found, left) fun _ h => h
  have e : ledRow here rs (found, left) = (found ++ new, left ++ new) := h1
  rw [e]
  have hk := h.known here (List.mem_append_right _ (List.mem_singleton.mpr rfl))
  have L : Led rs p (found ++ new) (left ++ new) := by
    refine ⟨fun q hq => ?_, fun x hx => ?_, fun x hx => ?_, h4 h.nd⟩
    · rcases List.mem_append.mp hq with z | z
      · exact h.reach q z
      · rcases hk with e | e
        · rw [← e]; exact .one (h2 q z)
        · exact .more (h.reach here e) (h2 q z)
    · rcases List.mem_append.mp hx with z | z
      · rcases h.known x (List.mem_append_left _ z) with y | y
        · exact .inl y
        · exact .inr (List.mem_append_left _ y)
      · exact .inr (List.mem_append_right _ z)
    · by_cases c : x = here
      · exact .inr fun q hq => h3 q (by rw [← c]; exact hq)
      · by_cases d : x ∈ new
        · exact .inl (List.mem_append_right _ d)
        · rcases h.done x (by rcases hx with z | z
                              · exact .inl z
                              · exact .inr ((List.mem_append.mp z).resolve_right d)) with z | z
          · rcases List.mem_append.mp z with y | y
            · exact .inl (List.mem_append_left _ y)
            · exact absurd (List.mem_singleton.mp y) c
          · exact .inr fun q hq => List.mem_append_left _ (z q hq)
  refine ⟨L, ?_⟩
  have := led_few L
  simp only [List.length_append, List.length_singleton] at this ⊢
  omega
theorem led_end {rs : List NRule} {p : Nat} {found : List Nat} (h : Led rs p found []) (q : Nat) : q ∈ found ↔ ReachN rs p q := by
  refine ⟨h.reach q, fun r => ?_⟩
  induction r with
  | one a => exact ((h.done p (.inl rfl)).resolve_left (by simp)) _ a
  | more _ a ih => exact ((h.done _ (.inr ih)).resolve_left (by simp)) _ a
end Gs
/-! # The stack of the first tree: what is still to be put down -/
namespace Gs
open Nt (Sign Rule Grammar Tree)
section
variable {g : Grammar} {w : List Nat}
/-- where a rule's signs begin and end -/
inductive CutsL (g : Grammar) (w : List Nat) : List Sign → Nat → Nat → List (Nat × Nat × Nat) → Prop
  | nil {i : Nat} : CutsL g w [] i i []
  | cons {s : Sign} {ss : List Sign} {i m j : Nat} {cs : List (Nat × Nat × Nat)} : Cut g w s ss i m j → CutsL g w ss m j cs → CutsL g w (s :: ss) i j ((s.number, i, m) :: cs)
structure Pend where
  s : Sign
  i : Nat
  m : Nat
  ar : Option Nat
  t : Tree
def Pend.cut (x : Pend) : Nat × Nat × Nat := (x.s.number, x.i, x.m)
def FT1 (g : Grammar) (w : List Nat) (s : Sign) (i m : Nat) (t : Tree) : Prop := match t with
  | .leaf a => s = .word a ∧ m = i + 1
  | .node r ks => ∃ p x, s = .part p ∧ FR g w p i m r x ∧ FTs g w x.right i m ks
def pRows (l : List Pend) : List Nat := l.flatMap fun x => x.t.row
def pNodes : Nat → List Pend → List Nd
  | _, [] => []
  | k, x :: l => nodesA k x.ar x.i x.t ++ pNodes (k + cntT x.t) l
def pCnt : List Pend → Nat
  | [] => 0
  | x :: l => cntT x.t + pCnt l
theorem pNodes_append : ∀ (l l' : List Pend) (k : Nat), pNodes k (l ++ l') = pNodes k l ++ pNodes (k + pCnt l) l'
  | [], l', k => by simp [pNodes, pCnt]
  | x :: l, l', k => by
    show nodesA k x.ar x.i x.t ++ pNodes (k + cntT x.t) (l ++ l') = _
    rw [pNodes_append l l', pCnt, Nat.add_assoc]
    simp [pNodes]
theorem FTs.len {ss : List Sign} {i j : Nat} {ts : List Tree} (h : FTs g w ss i j ts) : j = i + (Nt.saysAll ts).length := by
  induction h with
  | nil => simp [Nt.saysAll]
  | @word a ss i m j ts c _ ih =>
    cases c.one with
    | word e h2 =>
      cases h2
      simp only [Nt.saysAll, Nt.Tree.says, List.length_append, List.length_cons, List.length_nil]
      omega
  | @part p ss i m j r x ks ts c fr _ _ ih1 ih2 =>
    simp only [Nt.saysAll, Nt.Tree.says, List.length_append]
    omega
theorem kids {ss : List Sign} {i j : Nat} {ts : List Tree} (h : FTs g w ss i j ts) (ar : Option Nat) (hi : i ≤ w.length) : ∃ ks : List Pend, CutsL g w ss i j (ks.map Pend.cut) ∧ (∀ x ∈ ks, FT1 g w x.s x.i x.m x.t ∧ x.ar = ar ∧ x.i ≤ w.length ∧ x.s ∈ ss) ∧
    pRows ks = Nt.rowAll ts ∧ (∀ k, pNodes k ks = nodesAs k ar i ts) ∧ pCnt ks = cntTs ts := by
  induction h with
  | nil => exact ⟨[], .nil, (fun x hx => by cases hx), (by simp [pRows, Nt.rowAll]), (fun k => by simp [pNodes, nodesAs]), (by simp [pCnt, cntTs])⟩
  | @word a ss i m j ts c hr ih =>
    have em : m = i + 1 := by
      cases c.one with
      | word e h2 => cases h2; rfl
    obtain ⟨ks, h1, h2, h3, h4, h5⟩ := ih (c.one.bound hi)
    refine ⟨⟨.word a, i, m, ar, .leaf a⟩ :: ks, .cons c h1, fun x hx => ?_, ?_, fun k => ?_, ?_⟩
    · rcases List.mem_cons.mp hx with e | e
      · subst e
        exact ⟨⟨rfl, em⟩, rfl, hi, List.mem_cons_self⟩
      · obtain ⟨z1, z2, z3, z4⟩ := h2 x e
        exact ⟨z1, z2, z3, List.mem_cons_of_mem _ z4⟩
    · show (Tree.leaf a).row ++ pRows ks = _
      rw [h3]
      simp [Nt.rowAll]
    · show nodesA k ar i (.leaf a) ++ pNodes (k + cntT (.leaf a)) ks = _
      rw [h4, nodesAs]
      simp only [Nt.Tree.says, List.length_cons, List.length_nil]
      rw [em]
    · show cntT (.leaf a) + pCnt ks = _
      rw [h5]
      simp [cntTs]
  | @part p ss i m j r x ks' ts c fr h1' hr _ ih =>
    have em : m = i + (Nt.saysAll ks').length := h1'.len
    obtain ⟨ks, h1, h2, h3, h4, h5⟩ := ih (c.one.bound hi)
    refine ⟨⟨.part p, i, m, ar, .node r ks'⟩ :: ks, .cons c h1, fun y hy => ?_, ?_, fun k => ?_, ?_⟩
    · rcases List.mem_cons.mp hy with e | e
      · subst e
        exact ⟨⟨p, x, rfl, fr, h1'⟩, rfl, hi, List.mem_cons_self⟩
      · obtain ⟨z1, z2, z3, z4⟩ := h2 y e
        exact ⟨z1, z2, z3, List.mem_cons_of_mem _ z4⟩
    · show (Tree.node r ks').row ++ pRows ks = _
      rw [h3]
      simp [Nt.rowAll]
    · show nodesA k ar i (.node r ks') ++ pNodes (k + cntT (.node r ks')) ks = _
      rw [h4, nodesAs]
      simp only [Nt.Tree.says]
      rw [em]
    · show cntT (.node r ks') + pCnt ks = _
      rw [h5]
      simp [cntTs]
/-- a tree isn't large -/
theorem FTs.few (G : Good g) {ss : List Sign} {i j : Nat} {ts : List Tree} (h : FTs g w ss i j ts) : cntTs ts + ss.length * (g.parts + 1) ≤ 2 * (j - i) * (g.parts + 1) ∧ i ≤ j ∧
    ∀ q, ss = [.part q] → cntTs ts + 2 * (g.parts + 1) ≤ 2 * (j - i) * (g.parts + 1) + rank g q + 1 := by
  obtain ⟨C, hC⟩ : ∃ C, C = g.parts + 1 := ⟨_, rfl⟩
  rw [← hC]
  induction h with
  | nil => exact ⟨by simp [cntTs], Nat.le_refl _, fun q e => by cases e⟩
  | @word a ss i m j ts c hr ih =>
    have em : m = i + 1 := by
      cases c.one with
      | word e h2 => cases h2; rfl
    obtain ⟨h1, h2, _⟩ := ih
    have e0 : cntTs (.leaf a :: ts) = cntTs ts := by simp [cntTs, cntT]
    have e1 : (j - i) = (j - m) + 1 := by omega
    refine ⟨?_, by omega, fun q e => by cases e⟩
    rw [e0, e1, List.length_cons, Nat.add_mul, Nat.mul_add, Nat.add_mul]
    omega
  | @part p ss i m j r x ks ts c fr hk hr ih1 ih2 =>
    obtain ⟨a1, a2, a3⟩ := ih1
    obtain ⟨b1, b2, _⟩ := ih2
    have lt : i < m := c.one.lt G.ne (by simp)
    have e0 : cntTs (.node r ks :: ts) = 1 + cntTs ks + cntTs ts := by simp [cntTs, cntT]
    have hrk := G.rankLe p
    have key : 1 + cntTs ks + 2 * C ≤ 2 * (m - i) * C + rank g p + 1 := by
      by_cases hl : 2 ≤ x.right.length
      · have := Nat.mul_le_mul_right C hl
        omega
      · cases e : x.right with
        | nil => exact absurd e (G.ne r x fr.at_)
        | cons s rest =>
          cases rest with
          | cons _ _ => rw [e] at hl; simp at hl
          | nil =>
            cases s with
            | word b =>
              rw [e] at hk
              have h0 : cntTs ks = 0 := by
                cases hk with
                | word c h2 => cases h2; simp [cntTs, cntT]
              have : 1 * C ≤ (m - i) * C := Nat.mul_le_mul_right _ (by omega)
              rw [h0, Nat.mul_assoc]
              omega
            | part q =>
              have := a3 q e
              have hr := G.ranked r x q fr.at_ e
              rw [fr.left] at hr
              omega
    have hji : j - i = (m - i) + (j - m) := by omega
    refine ⟨?_, by omega, fun q e => ?_⟩
    · rw [e0, hji, List.length_cons, Nat.add_mul, Nat.mul_add, Nat.add_mul]
      omega
    · have e1 : ss = [] := by cases e; rfl
      have e2 : q = p := by cases e; rfl
      subst e1 e2
      cases hr
      rw [e0]
      simp only [cntTs]
      omega
mutual
theorem row_len : ∀ t : Tree, t.row.length = cntT t + t.says.length
  | .leaf a => by simp [Nt.Tree.row, cntT, Nt.Tree.says]
  | .node r ks => by
    simp only [Nt.Tree.row, cntT, Nt.Tree.says, List.length_cons]
    rw [rowAll_len ks]
    omega
theorem rowAll_len : ∀ ts : List Tree, (Nt.rowAll ts).length = cntTs ts + (Nt.saysAll ts).length
  | [] => by simp [Nt.rowAll, cntTs, Nt.saysAll]
  | t :: ts => by
    simp only [Nt.rowAll, cntTs, Nt.saysAll, List.length_append]
    rw [row_len t, rowAll_len ts]
    omega
end
mutual
theorem nodesA_len : ∀ (t : Tree) (k : Nat) (ar : Option Nat) (i : Nat), (nodesA k ar i t).length = cntT t
  | .leaf a, _, _, _ => by simp [nodesA, cntT]
  | .node r ks, k, ar, i => by
    simp only [nodesA, cntT, List.length_cons]
    rw [nodesAs_len ks]
    omega
theorem nodesAs_len : ∀ (ts : List Tree) (k : Nat) (ar : Option Nat) (i : Nat), (nodesAs k ar i ts).length = cntTs ts
  | [], _, _, _ => by simp [nodesAs, cntTs]
  | t :: ts, k, ar, i => by
    simp only [nodesAs, cntTs, List.length_append]
    rw [nodesA_len t, nodesAs_len ts]
end
theorem row_pos (t : Tree) : 1 ≤ t.row.length := by
  cases t <;> simp [Nt.Tree.row]
theorem pRows_len (l : List Pend) : l.length ≤ (pRows l).length := by
  induction l with
  | nil => exact Nat.zero_le _
  | cons x l ih =>
    show l.length + 1 ≤ (x.t.row ++ pRows l).length
    rw [List.length_append]
    have := row_pos x.t
    omega
theorem cuts_len {ss : List Sign} {i j : Nat} {cs : List (Nat × Nat × Nat)} (h : CutsL g w ss i j cs) : cs.length = ss.length := by
  induction h with
  | nil => rfl
  | cons _ _ ih => simp only [List.length_cons, ih]
/-- the tree of a text: as a list and as its rules -/
theorem few_rows (G : Good g) (hp : g.parts ≤ 32) {r : Nat} {x : Rule} {ks : List Tree} (hw : w.length ≤ 24) (fr : FR g w 0 0 w.length r x) (h : FTs g w x.right 0 w.length ks) : (Tree.node r ks).row.length ≤ 2000 := by
  obtain ⟨h1, _, _⟩ := h.few G
  have h2 := h.len
  rw [row_len]
  simp only [cntT, Nt.Tree.says]
  have h3 : 2 * (w.length - 0) * (g.parts + 1) ≤ 48 * 33 := Nat.mul_le_mul (by omega) (by omega)
  omega
end
end Gs
/-! # The mirror's house: what stays bounded -/
namespace Gs
open Nt (Sign Rule Grammar Tree)
/-- what the numbers of a grammar are at the most -/
structure LimG (g : Grammar) : Prop where
  words : g.words ≤ 64
  parts : g.parts ≤ 32
  rules : g.rules.length ≤ 64
  long : ∀ x ∈ g.rules, x.right.length ≤ 8
theorem readT_few {g : Grammar} {w : List Nat} (G : Good g) (hp : g.parts ≤ 32) (hw : w.length ≤ 24) {T : List Nat × List Nd} (h : readT g w = some T) : T.1.length ≤ 2000 ∧ T.2.length ≤ 2000 := by
  unfold readT at h
  by_cases c : w = [] ∨ ¬ Ds g w [.part 0] 0 w.length
  · rw [firstOf_none G c] at h
    cases h
  · obtain ⟨r, x, ks, e, fr, ft⟩ := firstOf_some G (fun z => c (.inl z)) (Classical.byContradiction fun z => c (.inr z))
    rw [e] at h
    have few := few_rows G hp hw fr ft
    cases h
    refine ⟨few, ?_⟩
    show (nodesA 0 none 0 (.node r ks)).length ≤ 2000
    rw [nodesA_len]
    rw [row_len] at few
    omega
theorem addKey_len (names : List NRule) (k : NRule) : (addKey names k).length ≤ names.length + 1 := by
  unfold addKey
  split
  · omega
  · simp
theorem take_fold (text : List Wd) : ∀ (l : List Nd) (st : List NRule × List Nat), (l.foldl (takeOne text) st).2.length = st.2.length + l.length ∧ (l.foldl (takeOne text) st).1.length ≤ st.1.length + l.length
  | [], st => ⟨rfl, Nat.le_refl _⟩
  | x :: l, st => by
    rw [List.foldl_cons]
    obtain ⟨h1, h2⟩ := take_fold text l (takeOne text st x)
    have h3 : (takeOne text st x).2.length = st.2.length + 1 := by simp [takeOne]
    have h4 : (takeOne text st x).1.length ≤ st.1.length + 1 := addKey_len _ _
    simp only [List.length_cons]
    omega
theorem HM.take_len (m : HM) (text : List Wd) : (m.take text).order.length = (nodesOf (readT m.g (text.map (·.2)))).length ∧ (m.take text).names.length ≤ m.names.length + (nodesOf (readT m.g (text.map (·.2)))).length := by
  obtain ⟨h1, h2⟩ := take_fold text (nodesOf (readT m.g (text.map (·.2)))) (m.names, [])
  refine ⟨?_, h2⟩
  rw [List.length_nil, Nat.zero_add] at h1
  exact h1
theorem nodes_few {g : Grammar} {w : List Nat} (G : Good g) (hp : g.parts ≤ 32) (hw : w.length ≤ 24) : (nodesOf (readT g w)).length ≤ 2000 := by
  cases e : readT g w with
  | none => exact Nat.zero_le _
  | some T => exact (readT_few G hp hw e).2
/-- what a house is at the most -/
structure HM.Fit (m : HM) : Prop where
  good : Good m.g
  lim : LimG m.g
  text : m.text.length ≤ 24
  elder : m.elder.length ≤ 64
  later : m.later.length ≤ 64
  elders : ∀ t ∈ m.elder, t.length ≤ 24
  laters : ∀ t ∈ m.later, t.length ≤ 24
  names : m.names.length ≤ 900000
  order : m.order.length ≤ 2000
  marks : m.marks.length ≤ 64
theorem sortN_of {l l' : List Nat} (hp : l'.Perm l) (hs : l'.Pairwise (· ≤ ·)) : l' = sortN l := by
  refine List.Perm.eq_of_pairwise (le := fun a b => a ≤ b) (fun a b _ _ h1 h2 => Nat.le_antisymm h1 h2) hs ?_ (hp.trans (List.mergeSort_perm _ _).symm)
  have := List.pairwise_mergeSort (le := fun a b : Nat => decide (a ≤ b)) (fun a b c h1 h2 => by simp only [decide_eq_true_eq] at *; omega) (fun a b => by simp only [Bool.or_eq_true, decide_eq_true_eq]; omega) l
  exact this.imp fun h => by simpa using h
theorem addKey_mem (names : List NRule) (k : NRule) : k ∈ addKey names k := by
  unfold addKey
  split
  · assumption
  · simp
theorem addKey_at (names : List NRule) (k : NRule) : (addKey names k)[(addKey names k).idxOf k]? = some k := by
  have h := List.idxOf_lt_length_of_mem (addKey_mem names k)
  rw [List.getElem?_eq_getElem h, List.getElem_idxOf h]
end Gs
/-! # Grammars out of numbers -/
namespace Gs
open Nt (Sign Rule Grammar Tree)
theorem told_lens : ∀ (k : Nat) (ns : List Nat), ns.length ≤ k → ∀ rs, rulesTold ns = some rs → ∀ x ∈ rs, 1 ≤ x.2.length ∧ x.2.length ≤ 8
  | 0, ns, hk, rs, h, x, hx => by
    have : ns = [] := List.eq_nil_of_length_eq_zero (by omega)
    subst this
    rw [rulesTold] at h
    cases h
    cases hx
  | k + 1, ns, hk, rs, h, x, hx => by
    match ns, hk, h with
    | [], _, h =>
      rw [rulesTold] at h
      cases h
      cases hx
    | [_], _, h =>
      rw [rulesTold] at h
      cases h
    | p :: n :: l, hk, h =>
      rw [rulesTold] at h
      split at h
      · rename_i c
        cases e : rulesTold (l.drop n) with
        | none => rw [e] at h; cases h
        | some r =>
          rw [e] at h
          cases h
          rcases List.mem_cons.mp hx with z | z
          · subst z
            show 1 ≤ (l.take n).length ∧ (l.take n).length ≤ 8
            rw [List.length_take]
            omega
          · refine told_lens k (l.drop n) ?_ r e x z
            simp only [List.length_cons] at hk
            rw [List.length_drop]
            omega
      · cases h
theorem told_len {ns : List Nat} {rs : List NRule} (h : rulesTold ns = some rs) : ∀ x ∈ rs, 1 ≤ x.2.length ∧ x.2.length ≤ 8 := told_lens _ ns (Nat.le_refl _) rs h
def gramOf (n p : Nat) (rs : List NRule) : Grammar := ⟨n, p, rs.map fun x => ⟨x.1, x.2.map Nt.signOf⟩⟩
theorem sign_number (s : Nat) : (Nt.signOf s).number = s := by
  unfold Nt.signOf
  split
  · rfl
  · show 64 + (s - 64) = s
    omega
theorem number_sign {s : Sign} (h : ∀ w, s = .word w → w < 64) : Nt.signOf s.number = s := by
  cases s with
  | word w =>
    unfold Nt.signOf
    show (if w < 64 then Sign.word w else _) = _
    rw [if_pos (h w rfl)]
  | part p =>
    unfold Nt.signOf
    show (if 64 + p < 64 then _ else Sign.part (64 + p - 64)) = _
    rw [if_neg (by omega), Nat.add_sub_cancel_left]
end Gs
/-! # The mirror's house: deeds keep it fit -/
namespace Gs
open Nt (Sign Rule Grammar Tree)
theorem newWords_len (n : Nat) (l : List Nat) : (newWords n l).length = l.length := by
  unfold newWords
  rw [List.length_zip, List.length_map, List.length_range, Nat.min_self]
theorem edit_len {t : List Wd} {i n k : Nat} {l : List Nat} (h : i + n ≤ t.length) : (t.take i ++ newWords k l ++ t.drop (i + n)).length = t.length - n + l.length := by
  rw [List.length_append, List.length_append, List.length_take, List.length_drop, newWords_len]
  omega
theorem move_len {α : Type} {t : List α} {i n to : Nat} (h : i + n ≤ t.length) (h2 : to + n ≤ t.length) : ((t.take i ++ t.drop (i + n)).take to ++ (t.drop i).take n ++ (t.take i ++ t.drop (i + n)).drop to).length = t.length := by
  have e : (t.take i ++ t.drop (i + n)).length = t.length - n := by
    rw [List.length_append, List.length_take, List.length_drop]
    omega
  rw [List.length_append, List.length_append, List.length_take, List.length_drop, e, List.length_take, List.length_drop]
  omega
theorem take_fit {m : HM} {text : List Wd} (f : HM.Fit m) (ht : text.length ≤ 24) : (m.take text).names.length ≤ m.names.length + 2000 ∧ (m.take text).order.length ≤ 2000 := by
  obtain ⟨h1, h2⟩ := HM.take_len m text
  have := nodes_few (w := text.map (·.2)) f.good f.lim.parts (by rw [List.length_map]; exact ht)
  omega
theorem lastN_len {α : Type} (n : Nat) (l : List α) : (lastN n l).length ≤ n := by
  unfold lastN
  rw [List.length_drop]
  omega
theorem lastN_mem {α : Type} {n : Nat} {l : List α} {x : α} (h : x ∈ lastN n l) : x ∈ l := List.mem_of_mem_drop h
/-- a step keeps a house fit -/
theorem step_fit {m : HM} {text : List Wd} (f : HM.Fit m) (ht : text.length ≤ 24) (hn : m.names.length + 2000 ≤ 900000) : HM.Fit (m.step text).1 ∧ (m.step text).1.names.length ≤ m.names.length + 2000 := by
  obtain ⟨h1, h2⟩ := take_fit f ht
  have e1 : (m.step text).1.names = (m.take text).names := rfl
  have e2 : (m.step text).1.order = (m.take text).order := rfl
  refine ⟨⟨f.good, f.lim, ht, lastN_len 64 _, Nat.zero_le _, fun t hm => ?_, (fun t hm => by cases hm), by rw [e1]; omega, by rw [e2]; exact h2, f.marks⟩, by rw [e1]; exact h1⟩
  have := lastN_mem hm
  rcases List.mem_append.mp this with z | z
  · exact f.elders t z
  · rw [List.mem_singleton.mp z]
    exact f.text
theorem edit_fit {m : HM} {i n : Nat} {l : List Nat} (f : HM.Fit m) (h : i + n ≤ m.text.length) (h2 : m.text.length - n + l.length ≤ 24) (hn : m.names.length + 2000 ≤ 900000) : HM.Fit (m.edit i n l).1 ∧ (m.edit i n l).1.names.length ≤ m.names.length + 2000 := by
  refine step_fit (m := { m with next := m.next + l.length }) ⟨f.good, f.lim, f.text, f.elder, f.later, f.elders, f.laters, f.names, f.order, f.marks⟩ ?_ hn
  show (m.text.take i ++ newWords m.next l ++ m.text.drop (i + n)).length ≤ 24
  rw [edit_len h]
  exact h2
theorem move_fit {m : HM} {i n to : Nat} (f : HM.Fit m) (h : i + n ≤ m.text.length) (h2 : to + n ≤ m.text.length) (hn : m.names.length + 2000 ≤ 900000) : HM.Fit (m.move i n to).1 ∧ (m.move i n to).1.names.length ≤ m.names.length + 2000 := by
  refine step_fit f ?_ hn
  rw [move_len h h2]
  exact f.text
theorem last_mem {α : Type} {l : List α} {d : α} (h : l ≠ []) : l.getLast?.getD d ∈ l := by
  rw [List.getLast?_eq_some_getLast h]
  exact List.getLast_mem h
theorem undo_fit {m : HM} (f : HM.Fit m) (h : m.elder ≠ []) (hl : m.elder.length + m.later.length ≤ 64) (hn : m.names.length + 2000 ≤ 900000) : HM.Fit m.undo.1 ∧ m.undo.1.names.length ≤ m.names.length + 2000 := by
  have ht := f.elders _ (last_mem (d := []) h)
  have g : HM.Fit { m with later := m.later ++ [m.text], elder := m.elder.dropLast } := by
    have hp := List.length_pos_iff.mpr h
    refine ⟨f.good, f.lim, f.text, ?_, ?_, fun t hm => f.elders t (List.dropLast_subset _ hm), fun t hm => ?_, f.names, f.order, f.marks⟩
    · rw [List.length_dropLast]
      omega
    · rw [List.length_append, List.length_singleton]
      omega
    · rcases List.mem_append.mp hm with z | z
      · exact f.laters t z
      · rw [List.mem_singleton.mp z]
        exact f.text
  obtain ⟨h1, h2⟩ := take_fit g ht
  have e1 : m.undo.1.names = (HM.take { m with later := m.later ++ [m.text], elder := m.elder.dropLast } (m.elder.getLast?.getD [])).names := rfl
  have e2 : m.undo.1.order = (HM.take { m with later := m.later ++ [m.text], elder := m.elder.dropLast } (m.elder.getLast?.getD [])).order := rfl
  exact ⟨⟨g.good, g.lim, ht, g.elder, g.later, g.elders, g.laters, by rw [e1]; exact Nat.le_trans h1 hn, by rw [e2]; exact h2, g.marks⟩, by rw [e1]; exact h1⟩
theorem redo_fit {m : HM} (f : HM.Fit m) (h : m.later ≠ []) (hl : m.elder.length + m.later.length ≤ 64) (hn : m.names.length + 2000 ≤ 900000) : HM.Fit m.redo.1 ∧ m.redo.1.names.length ≤ m.names.length + 2000 := by
  have ht := f.laters _ (last_mem (d := []) h)
  have g : HM.Fit { m with elder := m.elder ++ [m.text], later := m.later.dropLast } := by
    have hp := List.length_pos_iff.mpr h
    refine ⟨f.good, f.lim, f.text, ?_, ?_, fun t hm => ?_, fun t hm => f.laters t (List.dropLast_subset _ hm), f.names, f.order, f.marks⟩
    · rw [List.length_append, List.length_singleton]
      omega
    · rw [List.length_dropLast]
      omega
    · rcases List.mem_append.mp hm with z | z
      · exact f.elders t z
      · rw [List.mem_singleton.mp z]
        exact f.text
  obtain ⟨h1, h2⟩ := take_fit g ht
  have e1 : m.redo.1.names = (HM.take { m with elder := m.elder ++ [m.text], later := m.later.dropLast } (m.later.getLast?.getD [])).names := rfl
  have e2 : m.redo.1.order = (HM.take { m with elder := m.elder ++ [m.text], later := m.later.dropLast } (m.later.getLast?.getD [])).order := rfl
  exact ⟨⟨g.good, g.lim, ht, g.elder, g.later, g.elders, g.laters, by rw [e1]; exact Nat.le_trans h1 hn, by rw [e2]; exact h2, g.marks⟩, by rw [e1]; exact h1⟩
end Gs
/-! # The mirror: what each call is answered -/
namespace Gs
open Nt (Sign Rule Grammar Tree)
def editA (m : HM) (i n : Nat) (l : List Nat) : Int ⊕ (HM × List Nat) :=
  if ¬ (i + n ≤ m.text.length ∧ ∀ x ∈ l, x < m.g.words) then .inl (-1) else if 24 < m.text.length - n + l.length then .inl (-5) else .inr (m.edit i n l)
def moveA (m : HM) (i n to : Nat) : Int ⊕ (HM × List Nat) := if ¬ (0 < n ∧ i + n ≤ m.text.length ∧ to + n ≤ m.text.length) then .inl (-1) else .inr (m.move i n to)
def undoA (m : HM) : Int ⊕ (HM × List Nat) := if m.elder = [] then .inl (-2) else .inr m.undo
def redoA (m : HM) : Int ⊕ (HM × List Nat) := if m.later = [] then .inl (-2) else .inr m.redo
def treeA (m : HM) : Int ⊕ (HM × List Nat) := match m.tree with
  | none => .inl (-2)
  | some T => .inr (m, m.order.length :: m.order ++ T.1)
def wordsA (m : HM) : Int ⊕ (HM × List Nat) := .inr (m, m.text.length :: m.text.flatMap fun x => [x.1, x.2])
/-- tree, order and text of a house belong together -/
structure Tidy (m : HM) : Prop where
  none : m.tree = none → m.order = []
  some : ∀ T, m.tree = some T → T.1.length ≤ 2000 ∧ m.order.length = T.2.length ∧ (∀ x ∈ T.2, x.2.1 ≤ x.2.2.1 ∧ ∀ k, x.2.2.2 = some k → k < T.2.length) ∧ ∃ x0, T.2[0]? = some x0 ∧ x0.2.1 = 0 ∧ x0.2.2.1 = m.text.length
  nodup : m.order.Nodup
def wantA (m : HM) (n : Nat) : Option Int := if m.names.length ≤ n then some (-2) else if n ∉ m.order then some (-3) else none
def nodeA (m : HM) (n : Nat) : Int ⊕ (HM × List Nat) := match wantA m n with
  | some z => .inl z
  | none => match (nodesOf m.tree)[m.order.idxOf n]? with
    | none => .inl 0
    | some x => .inr (m, [x.1, x.2.1, x.2.2.1 - x.2.1, match x.2.2.2 with
      | none => 0
      | some k => m.order.getD k 0 + 1])
def overN (l : List Nd) (i j : Nat) : List Nat := (List.range l.length).filter fun k => match l[k]? with
  | some x => decide (x.2.1 ≤ i) && decide (j ≤ x.2.2.1)
  | none => false
def atA (m : HM) (i j : Nat) : Int ⊕ (HM × List Nat) := if ¬ (i < j ∧ j ≤ m.text.length) then .inl (-1) else match m.tree with
  | none => .inl (-2)
  | some T => .inr (m, [m.order.getD ((overN T.2 i j).getLast?.getD 0) 0])
def markA (m : HM) (n v : Nat) : Int ⊕ (HM × List Nat) := if 1000000000000000000 < v then .inl (-1) else match wantA m n with
  | some z => .inl z
  | none => if v ≠ 0 ∧ 64 ≤ others m.marks n then .inl (-5) else .inr ({ m with marks := setMark m.marks n v }, [(setMark m.marks n v).length])
def markRow (m : HM) (n : Nat) : List Nat := [n, (markAt m.marks n).getD 0] ++ match (nodesOf m.tree)[m.order.idxOf n]? with
  | some x => [x.2.1, x.2.2.1 - x.2.1]
  | none => []
def awakeOf (m : HM) : List Nat := m.order.filter fun n => (markAt m.marks n).isSome
def marksA (m : HM) : Int ⊕ (HM × List Nat) := .inr (m, (awakeOf m).length :: (m.marks.length - (awakeOf m).length) :: (awakeOf m).flatMap (markRow m))
open Classical in
noncomputable def beginA (n p : Nat) (ns : List Nat) : Int ⊕ (HM × List Nat) := if countsOk n p = false then .inl (-1) else match rulesTold ns with
  | none => .inl (-3)
  | some rs => if ¬ rulesOk rs n p then .inl (-3) else if ¬ ∀ q, q < p → ¬ ReachN rs q q then .inl (-4) else .inr (HM.fresh (gramOf n p rs), [0])
section
variable {n p : Nat} {ns : List Nat} {rs : List NRule}
theorem beginA_counts (h : countsOk n p = false) : beginA n p ns = .inl (-1) := by
  unfold beginA
  rw [if_pos h]
theorem beginA_none (h : countsOk n p = true) (h2 : rulesTold ns = none) : beginA n p ns = .inl (-3) := by
  unfold beginA
  rw [if_neg (by rw [h]; simp), h2]
theorem beginA_rules (h : countsOk n p = true) (h2 : rulesTold ns = some rs) (h3 : ¬ rulesOk rs n p) : beginA n p ns = .inl (-3) := by
  unfold beginA
  rw [if_neg (by rw [h]; simp), h2]
  exact if_pos h3
theorem beginA_sound (h : countsOk n p = true) (h2 : rulesTold ns = some rs) (h3 : rulesOk rs n p) (h4 : ¬ ∀ q, q < p → ¬ ReachN rs q q) : beginA n p ns = .inl (-4) := by
  unfold beginA
  rw [if_neg (by rw [h]; simp), h2]
  exact (if_neg (fun z => z h3)).trans (if_pos h4)
theorem beginA_ok (h : countsOk n p = true) (h2 : rulesTold ns = some rs) (h3 : rulesOk rs n p) (h4 : ∀ q, q < p → ¬ ReachN rs q q) : beginA n p ns = .inr (HM.fresh (gramOf n p rs), [0]) := by
  unfold beginA
  rw [if_neg (by rw [h]; simp), h2]
  exact (if_neg (fun z => z h3)).trans (if_neg (fun z => z h4))
end
/-- a call: its number, its numbers, its list -/
structure CallN where
  p : Nat
  args : List Nat
  lst : Option (List Nat)
def sizes (p : Nat) : Nat := [0, 2, 2, 3, 0, 0, 0, 0, 1, 2, 2, 0].getD p 0
def CallN.ok (c : CallN) : Prop := 1 ≤ c.p ∧ c.p ≤ 11 ∧ c.args.length = sizes c.p ∧ (c.lst.isSome = true ↔ c.p = 1 ∨ c.p = 2)
def CallN.flat (c : CallN) : List Nat := c.p :: c.args ++ match c.lst with
  | none => []
  | some l => l.length :: l
noncomputable def deedA (m : HM) (c : CallN) : Int ⊕ (HM × List Nat) :=
  let x := c.args.getD 0 0
  let y := c.args.getD 1 0
  let z := c.args.getD 2 0
  let l := c.lst.getD []
  if c.p = 1 then beginA x y l else if c.p = 2 then editA m x y l else if c.p = 3 then moveA m x y z else if c.p = 4 then undoA m else if c.p = 5 then redoA m else if c.p = 6 then treeA m
  else if c.p = 7 then wordsA m else if c.p = 8 then nodeA m x else if c.p = 9 then atA m x y else if c.p = 10 then markA m x y else marksA m
def resOf (m : HM) : Int ⊕ (HM × List Nat) → HM × List Int
  | .inl z => (m, [z])
  | .inr r => (r.1, r.2.map fun (n : Nat) => (n : Int))
noncomputable def stepA (m : HM) (c : CallN) : HM × List Int := resOf m (deedA m c)
noncomputable def runA : HM → List CallN → List (List Int)
  | _, [] => []
  | m, c :: cs => (stepA m c).2 :: runA (stepA m c).1 cs
def toldA (l : List (List Int)) : List Int := l.flatMap fun a => (a.length : Int) :: a
noncomputable def answersA (cs : List CallN) : List Int := toldA (runA (HM.fresh ⟨1, 1, []⟩) cs)
end Gs
/-! # The mirror against the document's house: nodes, names, what came and went -/
namespace Gs
open Nt (Sign Rule Grammar Tree)
open Sq14 (Node)
def toNode (x : Nd) : Node := ⟨x.1, x.2.1, x.2.2.1 - x.2.1⟩
mutual
theorem nodes_map : ∀ (t : Tree) (k : Nat) (ar : Option Nat) (i : Nat), (nodesA k ar i t).map toNode = Sq14.nodesOf i t
  | .leaf a, k, ar, i => by simp [nodesA, Sq14.nodesOf]
  | .node r ks, k, ar, i => by
    rw [nodesA, Sq14.nodesOf, List.map_cons, nodes_maps ks]
    congr 1
    show (⟨r, i, i + (Nt.saysAll ks).length - i⟩ : Node) = _
    rw [Nat.add_sub_cancel_left]
theorem nodes_maps : ∀ (ts : List Tree) (k : Nat) (ar : Option Nat) (i : Nat), (nodesAs k ar i ts).map toNode = Sq14.nodesOfAll i ts
  | [], k, ar, i => by simp [nodesAs, Sq14.nodesOfAll]
  | t :: ts, k, ar, i => by rw [nodesAs, Sq14.nodesOfAll, List.map_append, nodes_map t, nodes_maps ts]
end
theorem key_eq (text : List Wd) (x : Nd) : Sq14.keyOf text (toNode x) = keyOf text x := rfl
theorem told_eq (names : List NRule) (k : NRule) : Sq14.told names k = addKey names k := by
  unfold Sq14.told addKey
  by_cases h : k ∈ names
  · rw [if_pos h, if_pos (by simpa using h)]
  · rw [if_neg h, if_neg (by simpa using h)]
theorem addKey_pre (names : List NRule) (k : NRule) : ∃ r, addKey names k = names ++ r := by
  unfold addKey
  split
  · exact ⟨[], (List.append_nil _).symm⟩
  · exact ⟨[k], rfl⟩
theorem fold_pre (f : Nd → NRule) : ∀ (l : List Nd) (names : List NRule), ∃ r, l.foldl (fun n x => addKey n (f x)) names = names ++ r
  | [], names => ⟨[], (List.append_nil _).symm⟩
  | x :: l, names => by
    obtain ⟨r1, h1⟩ := addKey_pre names (f x)
    obtain ⟨r2, h2⟩ := fold_pre f l (addKey names (f x))
    exact ⟨r1 ++ r2, by rw [List.foldl_cons, h2, h1, List.append_assoc]⟩
theorem idx_pre {names r : List NRule} {k : NRule} (h : k ∈ names) : (names ++ r).idxOf k = names.idxOf k := by
  rw [List.idxOf_append, if_pos h]
/-- names and order behind a text -/
theorem take_is (text : List Wd) : ∀ (l : List Nd) (names : List NRule) (o : List Nat), l.foldl (takeOne text) (names, o) = (l.foldl (fun n x => addKey n (keyOf text x)) names, o ++ l.map fun x => (l.foldl (fun n x => addKey n (keyOf text x)) names).idxOf (keyOf text x))
  | [], names, o => by simp
  | x :: l, names, o => by
    rw [List.foldl_cons]
    show l.foldl (takeOne text) (addKey names (keyOf text x), o ++ [(addKey names (keyOf text x)).idxOf (keyOf text x)]) = _
    rw [take_is text l]
    rw [List.foldl_cons, List.map_cons]
    obtain ⟨r, hr⟩ := fold_pre (keyOf text) l (addKey names (keyOf text x))
    congr 1
    rw [List.append_assoc]
    congr 1
    rw [List.singleton_append]
    congr 1
    rw [hr, idx_pre (addKey_mem _ _)]
theorem name_idx {keys : List NRule} {k : NRule} (h : k ∈ keys) : (Sq14.nameOf keys k).getD 0 = keys.idxOf k := by
  unfold Sq14.nameOf List.idxOf
  have : (keys.findIdx? fun x => x == k) = some (keys.findIdx fun x => x == k) := by
    rw [List.findIdx?_eq_some_iff_findIdx_eq]
    refine ⟨?_, rfl⟩
    exact List.findIdx_lt_length_of_exists ⟨k, h, by simp⟩
  rw [this]
  rfl
theorem fold_mem (f : Nd → NRule) : ∀ (l : List Nd) (names : List NRule) (x : Nd), x ∈ l → f x ∈ l.foldl (fun n x => addKey n (f x)) names
  | y :: l, names, x, h => by
    rw [List.foldl_cons]
    rcases List.mem_cons.mp h with e | e
    · subst e
      obtain ⟨r, hr⟩ := fold_pre f l (addKey names (f x))
      rw [hr]
      exact List.mem_append_left _ (addKey_mem _ _)
    · exact fold_mem f l _ x e
/-! ### rising -/
theorem insert_perm (m : List Nat) (a : Nat) : ((m.takeWhile fun x => decide (x < a)) ++ (a :: m.dropWhile fun x => decide (x < a))).Perm (a :: m) := by
  refine List.perm_middle.trans ?_
  rw [List.takeWhile_append_dropWhile]
theorem insert_sorted : ∀ (m : List Nat) (a : Nat), m.Pairwise (· ≤ ·) → ((m.takeWhile fun x => decide (x < a)) ++ (a :: m.dropWhile fun x => decide (x < a))).Pairwise (· ≤ ·)
  | [], a, _ => by simp
  | b :: m, a, h => by
    obtain ⟨h1, h2⟩ := List.pairwise_cons.mp h
    by_cases c : b < a
    · rw [List.takeWhile_cons_of_pos (by simpa using c), List.dropWhile_cons_of_pos (by simpa using c), List.cons_append]
      refine List.pairwise_cons.mpr ⟨fun y hy => ?_, insert_sorted m a h2⟩
      have := (insert_perm m a).mem_iff.mp hy
      rcases List.mem_cons.mp this with e | e
      · omega
      · exact h1 y e
    · rw [List.takeWhile_cons_of_neg (by simpa using c), List.dropWhile_cons_of_neg (by simpa using c), List.nil_append]
      refine List.pairwise_cons.mpr ⟨fun y hy => ?_, h⟩
      rcases List.mem_cons.mp hy with e | e
      · omega
      · have := h1 y e
        omega
theorem rising_is (l : List Nat) : Sq14.rising l = sortN l := by
  have : ∀ (l m : List Nat), m.Pairwise (· ≤ ·) → let r := l.foldl (fun (m : List Nat) a => (m.takeWhile fun x => decide (x < a)) ++ (a :: m.dropWhile fun x => decide (x < a))) m
      r.Pairwise (· ≤ ·) ∧ r.Perm (l ++ m) := by
    intro l
    induction l with
    | nil => intro m h; exact ⟨h, List.Perm.refl _⟩
    | cons a l ih =>
      intro m h
      obtain ⟨h1, h2⟩ := ih _ (insert_sorted m a h)
      refine ⟨h1, h2.trans ?_⟩
      refine ((insert_perm m a).append_left l).trans ?_
      exact List.perm_middle
  obtain ⟨h1, h2⟩ := this l [] List.Pairwise.nil
  rw [List.append_nil] at h2
  exact sortN_of h2 h1
end Gs
/-! # The rules of a tree: parents, no rule twice -/
namespace Gs
open Nt (Sign Rule Grammar Tree)
section
variable {g : Grammar} {w : List Nat}
/-- where the rules lie -/
theorem nodes_in (G : Good g) {ss : List Sign} {i j : Nat} {ts : List Tree} (h : FTs g w ss i j ts) : ∀ (k : Nat) (ar : Option Nat), i ≤ j ∧ ∀ y ∈ nodesAs k ar i ts, i ≤ y.2.1 ∧ y.2.1 < y.2.2.1 ∧ y.2.2.1 ≤ j := by
  induction h with
  | nil => exact fun k ar => ⟨Nat.le_refl _, fun y hy => by simp [nodesAs] at hy⟩
  | @word a ss i m j ts c hr ih =>
    intro k ar
    have em : m = i + 1 := by
      cases c.one with
      | word e h2 => cases h2; rfl
    obtain ⟨h1, h2⟩ := ih (k + 0) ar
    refine ⟨by omega, fun y hy => ?_⟩
    rw [nodesAs] at hy
    simp only [nodesA, Nt.Tree.says, List.nil_append, List.length_cons, List.length_nil, cntT] at hy
    have em' : i + (0 + 1) = m := by omega
    rw [em'] at hy
    have := h2 y hy
    omega
  | @part p ss i m j r x ks ts c fr hk hr ih1 ih2 =>
    intro k ar
    have lt : i < m := c.one.lt G.ne (by simp)
    have em : m = i + (Nt.saysAll ks).length := hk.len
    obtain ⟨a1, a2⟩ := ih1 (k + 1) (some k)
    obtain ⟨b1, b2⟩ := ih2 (k + cntT (.node r ks)) ar
    refine ⟨by omega, fun y hy => ?_⟩
    rw [nodesAs] at hy
    simp only [nodesA, Nt.Tree.says] at hy
    rw [← em] at hy
    rcases List.mem_append.mp hy with z | z
    · rcases List.mem_cons.mp z with e | e
      · subst e
        exact ⟨Nat.le_refl _, lt, b1⟩
      · have := a2 y e
        omega
    · have := b2 y z
      omega
theorem toNode_inj {y z : Nd} (hy : y.2.1 < y.2.2.1) (hz : z.2.1 < z.2.2.1) (h : toNode y = toNode z) : y.1 = z.1 ∧ y.2.1 = z.2.1 ∧ y.2.2.1 = z.2.2.1 := by
  unfold toNode at h
  injection h with h1 h2 h3
  exact ⟨h1, h2, by omega⟩
/-- no rule stands twice over a stretch -/
theorem nodes_once (G : Good g) {ss : List Sign} {i j : Nat} {ts : List Tree} (h : FTs g w ss i j ts) : ∀ (k : Nat) (ar : Option Nat), ((nodesAs k ar i ts).map toNode).Nodup ∧
    ∀ y ∈ nodesAs k ar i ts, y.2.1 = i → y.2.2.1 = j → ∃ p0, ss = [.part p0] ∧ rank g (g.left y.1) ≤ rank g p0 := by
  induction h with
  | nil => exact fun k ar => ⟨by simp [nodesAs], fun y hy => by simp [nodesAs] at hy⟩
  | @word a ss i m j ts c hr ih =>
    intro k ar
    have em : m = i + 1 := by
      cases c.one with
      | word e h2 => cases h2; rfl
    obtain ⟨h1, h2⟩ := ih (k + 0) ar
    obtain ⟨_, h3⟩ := nodes_in G hr (k + 0) ar
    have e : nodesAs k ar i (.leaf a :: ts) = nodesAs (k + 0) ar m ts := by
      rw [nodesAs]
      simp only [nodesA, Nt.Tree.says, List.nil_append, List.length_cons, List.length_nil, cntT]
      rw [em]
    rw [e]
    refine ⟨h1, fun y hy e1 _ => ?_⟩
    have := h3 y hy
    omega
  | @part p ss i m j r x ks ts c fr hk hr ih1 ih2 =>
    intro k ar
    have lt : i < m := c.one.lt G.ne (by simp)
    have em : m = i + (Nt.saysAll ks).length := hk.len
    obtain ⟨a1, a2⟩ := ih1 (k + 1) (some k)
    obtain ⟨b1, b2⟩ := ih2 (k + cntT (.node r ks)) ar
    obtain ⟨_, a3⟩ := nodes_in G hk (k + 1) (some k)
    obtain ⟨mj, b3⟩ := nodes_in G hr (k + cntT (.node r ks)) ar
    have e : nodesAs k ar i (.node r ks :: ts) = (r, i, m, ar) :: (nodesAs (k + 1) (some k) i ks ++ nodesAs (k + cntT (.node r ks)) ar m ts) := by
      rw [nodesAs]
      simp only [nodesA, Nt.Tree.says]
      rw [← em]
      simp
    have el : g.left r = p := (left_of fr.at_).trans fr.left
    have inA : ∀ y ∈ nodesAs (k + 1) (some k) i ks, y.2.1 = i → y.2.2.1 = m → rank g (g.left y.1) < rank g p := fun y hy e1 e2 => by
      obtain ⟨q, hq, hle⟩ := a2 y hy e1 e2
      have := G.ranked r x q fr.at_ hq
      rw [fr.left] at this
      omega
    rw [e]
    constructor
    · rw [List.map_cons, List.map_append]
      refine List.nodup_cons.mpr ⟨fun hm => ?_, List.nodup_append.mpr ⟨a1, b1, fun y hy z hz eq => ?_⟩⟩
      · rcases List.mem_append.mp hm with z | z
        · obtain ⟨y, hy, ey⟩ := List.mem_map.mp z
          have hy3 := a3 y hy
          obtain ⟨e1, e2, e3⟩ := toNode_inj hy3.2.1 (z := (r, i, m, ar)) lt ey
          have := inA y hy e2 e3
          rw [e1, el] at this
          omega
        · obtain ⟨y, hy, ey⟩ := List.mem_map.mp z
          have hy3 := b3 y hy
          obtain ⟨e1, e2, e3⟩ := toNode_inj hy3.2.1 (z := (r, i, m, ar)) lt ey
          have e2 : y.2.1 = i := e2
          omega
      · obtain ⟨y', hy', rfl⟩ := List.mem_map.mp hy
        obtain ⟨z', hz', rfl⟩ := List.mem_map.mp hz
        have h1 := a3 y' hy'
        have h2 := b3 z' hz'
        obtain ⟨e1, e2, e3⟩ := toNode_inj h1.2.1 h2.2.1 eq
        omega
    · intro y hy e1 e2
      have last : m = j → ss = [] := fun z => by
        cases ss with
        | nil => rfl
        | cons s ss =>
          have := c.rest.lt G.ne (by simp)
          omega
      rcases List.mem_cons.mp hy with z | z
      · subst z
        have e2 : m = j := e2
        rw [last e2]
        refine ⟨p, rfl, ?_⟩
        show rank g (g.left r) ≤ rank g p
        rw [el]
        exact Nat.le_refl _
      · rcases List.mem_append.mp z with z | z
        · have h3 := a3 y z
          have ej : m = j := by omega
          rw [last ej]
          exact ⟨p, rfl, Nat.le_of_lt (inA y z e1 (by omega))⟩
        · have h3 := b3 y z
          omega
/-! ### parents -/
def Cov (y x : Nd) : Prop := y.2.1 ≤ x.2.1 ∧ x.2.2.1 ≤ y.2.2.1
/-- a list of rules from place k on: each one's rule around is the last one ahead that covers it -/
def Par (k : Nat) (ar : Option Nat) (L : List Nd) : Prop := ∀ j x, L[j]? = some x →
  (x.2.2.2 = ar ∧ ∀ j' y, j' < j → L[j']? = some y → ¬ Cov y x) ∨
    ∃ j' y, j' < j ∧ x.2.2.2 = some (k + j') ∧ L[j']? = some y ∧ Cov y x ∧ ∀ j'' z, j' < j'' → j'' < j → L[j'']? = some z → ¬ Cov z x
theorem parents (G : Good g) {ss : List Sign} {i j : Nat} {ts : List Tree} (h : FTs g w ss i j ts) : ∀ (k : Nat) (ar : Option Nat), Par k ar (nodesAs k ar i ts) := by
  induction h with
  | nil => exact fun k ar j x hx => by simp [nodesAs] at hx
  | @word a ss i m j ts c hr ih =>
    intro k ar
    have em : m = i + 1 := by
      cases c.one with
      | word e h2 => cases h2; rfl
    have e : nodesAs k ar i (.leaf a :: ts) = nodesAs (k + 0) ar m ts := by
      rw [nodesAs]
      simp only [nodesA, Nt.Tree.says, List.nil_append, List.length_cons, List.length_nil, cntT]
      rw [em]
    rw [e]
    exact ih (k + 0) ar
  | @part p ss i m j r x ks ts c fr hk hr ih1 ih2 =>
    intro k ar
    have lt : i < m := c.one.lt G.ne (by simp)
    have em : m = i + (Nt.saysAll ks).length := hk.len
    have pa := ih1 (k + 1) (some k)
    have pb := ih2 (k + cntT (.node r ks)) ar
    obtain ⟨_, a3⟩ := nodes_in G hk (k + 1) (some k)
    obtain ⟨mj, b3⟩ := nodes_in G hr (k + cntT (.node r ks)) ar
    have e : nodesAs k ar i (.node r ks :: ts) = (r, i, m, ar) :: (nodesAs (k + 1) (some k) i ks ++ nodesAs (k + cntT (.node r ks)) ar m ts) := by
      rw [nodesAs]
      simp only [nodesA, Nt.Tree.says]
      rw [← em]
      simp
    have la : (nodesAs (k + 1) (some k) i ks).length = cntTs ks := nodesAs_len ks (k + 1) (some k) i
    rw [e]
    generalize hA : nodesAs (k + 1) (some k) i ks = A at pa a3 la
    have eC : cntT (.node r ks) = 1 + cntTs ks := by simp [cntT]
    rw [eC] at pb b3 ⊢
    generalize hB : nodesAs (k + (1 + cntTs ks)) ar m ts = B at pb b3
    intro n y hy
    cases n with
    | zero =>
      have : y = (r, i, m, ar) := (Option.some.inj hy).symm
      subst this
      exact .inl ⟨rfl, fun j' _ hj => absurd hj (Nat.not_lt_zero _)⟩
    | succ n =>
      have hy : (A ++ B)[n]? = some y := hy
      by_cases hn : n < A.length
      · rw [List.getElem?_append_left hn] at hy
        have hyA := a3 y (List.mem_of_getElem? hy)
        rcases pa n y hy with ⟨h1, h2⟩ | ⟨j', z, h1, h2, h3, h4, h5⟩
        · refine .inr ⟨0, (r, i, m, ar), Nat.succ_pos n, h1, rfl, ⟨hyA.1, hyA.2.2⟩, fun j'' z l1 l2 hz => ?_⟩
          cases j'' with
          | zero => omega
          | succ q =>
            have hz : (A ++ B)[q]? = some z := hz
            rw [List.getElem?_append_left (by omega)] at hz
            exact h2 q z (by omega) hz
        · refine .inr ⟨j' + 1, z, by omega, by rw [h2, Nat.add_assoc, Nat.add_comm 1], ?_, h4, fun j'' u l1 l2 hu => ?_⟩
          · show (A ++ B)[j']? = some z
            rw [List.getElem?_append_left (by omega)]
            exact h3
          · cases j'' with
            | zero => omega
            | succ q =>
              have hu : (A ++ B)[q]? = some u := hu
              rw [List.getElem?_append_left (by omega)] at hu
              exact h5 q u (by omega) (by omega) hu
      · rw [List.getElem?_append_right (by omega)] at hy
        have hyB := b3 y (List.mem_of_getElem? hy)
        -- what stands in A, or the rule itself, doesn't cover it
        have noA : ∀ q z, q < A.length + 1 → ((r, i, m, ar) :: (A ++ B))[q]? = some z → ¬ Cov z y := fun q z hq hz cv => by
          cases q with
          | zero =>
            have : z = (r, i, m, ar) := (Option.some.inj hz).symm
            subst this
            have : y.2.2.1 ≤ m := cv.2
            omega
          | succ q =>
            have hz : (A ++ B)[q]? = some z := hz
            rw [List.getElem?_append_left (by omega)] at hz
            have h1 := a3 z (List.mem_of_getElem? hz)
            have := cv.2
            omega
        rcases pb _ y hy with ⟨h1, h2⟩ | ⟨j', z, h1, h2, h3, h4, h5⟩
        · refine .inl ⟨h1, fun q z hq hz => ?_⟩
          by_cases c1 : q < A.length + 1
          · exact noA q z c1 hz
          · cases q with
            | zero => omega
            | succ q =>
              have hz : (A ++ B)[q]? = some z := hz
              rw [List.getElem?_append_right (by omega)] at hz
              exact h2 _ z (by omega) hz
        · refine .inr ⟨A.length + 1 + j', z, by omega, ?_, ?_, h4, fun q u l1 l2 hu => ?_⟩
          · rw [h2, la]
            congr 1
            omega
          · rw [show A.length + 1 + j' = (A.length + j') + 1 by omega]
            show (A ++ B)[A.length + j']? = some z
            rw [List.getElem?_append_right (by omega), Nat.add_sub_cancel_left]
            exact h3
          · cases q with
            | zero => omega
            | succ q =>
              have hu : (A ++ B)[q]? = some u := hu
              rw [List.getElem?_append_right (by omega)] at hu
              exact h5 _ u (by omega) (by omega) hu
end
end Gs
/-! # What a text's tree is like; the names of its rules -/
namespace Gs
open Nt (Sign Rule Grammar Tree)
open Sq14 (Node)
/-- the tree of a text -/
structure TreeOk (n : Nat) (T : List Nat × List Nd) : Prop where
  few : T.1.length ≤ 2000 ∧ T.2.length ≤ 2000
  first : ∃ x0, T.2[0]? = some x0 ∧ x0.2.1 = 0 ∧ x0.2.2.1 = n
  within : ∀ x ∈ T.2, x.2.1 < x.2.2.1 ∧ x.2.2.1 ≤ n
  once : (T.2.map toNode).Nodup
  par : Par 0 none T.2
theorem treeOk {g : Grammar} {w : List Nat} (G : Good g) (hp : g.parts ≤ 32) (hw : w.length ≤ 24) {T : List Nat × List Nd} (h : readT g w = some T) : TreeOk w.length T := by
  have few := readT_few G hp hw h
  unfold readT at h
  by_cases c : w = [] ∨ ¬ Ds g w [.part 0] 0 w.length
  · rw [firstOf_none G c] at h
    cases h
  · have d0 : Ds g w [.part 0] 0 w.length := Classical.byContradiction fun z => c (.inr z)
    obtain ⟨r, x, ks, e, fr, ft⟩ := firstOf_some G (fun z => c (.inl z)) d0
    rw [e] at h
    have fts : FTs g w [.part 0] 0 w.length [.node r ks] := .part ⟨d0, .nil, fun m' h1 h2 h3 => by cases h3; omega⟩ fr ft .nil
    have eN : T.2 = nodesAs 0 none 0 [.node r ks] := by
      cases h
      show nodesA 0 none 0 (.node r ks) = _
      simp [nodesAs]
    obtain ⟨_, h1⟩ := nodes_in G fts 0 none
    have hlen := ft.len
    refine ⟨few, ?_, ?_, ?_, ?_⟩
    · refine ⟨(r, 0, 0 + (Nt.saysAll ks).length, none), ?_, rfl, hlen.symm⟩
      rw [eN]
      simp [nodesAs, nodesA]
    · rw [eN]
      exact fun y hy => ⟨(h1 y hy).2.1, (h1 y hy).2.2⟩
    · rw [eN]
      exact (nodes_once G fts 0 none).1
    · rw [eN]
      exact parents G fts 0 none
/-- a firm text: its words' names are distinct -/
def Firm (t : List Wd) : Prop := (t.map (·.1)).Nodup
theorem drop_take_get {t : List Wd} {i n : Nat} (h : i + n ≤ t.length) (hn : 0 < n) : (((t.drop i).take n).map (·.1)).length = n ∧ ∃ y, t[i]? = some y ∧ (((t.drop i).take n).map (·.1))[0]? = some y.1 := by
  have hi : i < t.length := by omega
  refine ⟨by rw [List.length_map, List.length_take, List.length_drop]; omega, t[i], List.getElem?_eq_getElem hi, ?_⟩
  rw [List.getElem?_map, List.getElem?_take, if_pos hn, List.getElem?_drop, Nat.add_zero, List.getElem?_eq_getElem hi]
  rfl
theorem key_inj {t : List Wd} (f : Firm t) {x y : Nd} (hx : x.2.1 < x.2.2.1 ∧ x.2.2.1 ≤ t.length) (hy : y.2.1 < y.2.2.1 ∧ y.2.2.1 ≤ t.length) (h : keyOf t x = keyOf t y) : toNode x = toNode y := by
  unfold keyOf at h
  obtain ⟨h1, h2⟩ := Prod.mk.inj h
  obtain ⟨lx, u, hu, hu0⟩ := drop_take_get (t := t) (i := x.2.1) (n := x.2.2.1 - x.2.1) (by omega) (by omega)
  obtain ⟨ly, v, hv, hv0⟩ := drop_take_get (t := t) (i := y.2.1) (n := y.2.2.1 - y.2.1) (by omega) (by omega)
  rw [h2] at lx hu0
  have en : x.2.2.1 - x.2.1 = y.2.2.1 - y.2.1 := lx.symm.trans ly
  have ev : u.1 = v.1 := Option.some.inj (hu0.symm.trans hv0)
  have ei : x.2.1 = y.2.1 := by
    have g1 : (t.map (·.1))[x.2.1]? = some u.1 := by rw [List.getElem?_map, hu]; rfl
    have g2 : (t.map (·.1))[y.2.1]? = some u.1 := by rw [List.getElem?_map, hv, ev]; rfl
    have hl : x.2.1 < (t.map (·.1)).length := (List.getElem?_eq_some_iff.mp g1).1
    exact (List.getElem?_inj hl f).mp (g1.trans g2.symm)
  unfold toNode
  rw [en, h1, ei]
theorem keys_once {t : List Wd} (f : Firm t) {T : List Nat × List Nd} (ok : TreeOk t.length T) : (T.2.map (keyOf t)).Nodup := by
  have h := ok.once
  unfold List.Nodup at h ⊢
  rw [List.pairwise_map] at h ⊢
  refine List.Pairwise.imp_of_mem (fun {x y} hx hy hne e => hne ?_) h
  exact key_inj f (ok.within x hx) (ok.within y hy) e
end Gs
/-! # The mirror's house and the document's house -/
namespace Gs
open Nt (Sign Rule Grammar Tree)
open Sq14 (Node House)
def rowOf (t : Option (List Nat × List Nd)) : List Nat := match t with
  | none => []
  | some T => T.1
/-- words' names are distinct and were given -/
def FirmB (n : Nat) (t : List Wd) : Prop := Firm t ∧ t.length ≤ 24 ∧ ∀ y ∈ t, y.1 < n
structure Sim (k : Nat) (m : HM) (h : House) : Prop where
  g : h.g = m.g
  text : h.text = m.text
  next : h.next = m.next
  keys : h.keys = m.names
  nodes : h.nodes = (nodesOf m.tree).map toNode
  row : h.row = rowOf m.tree
  order : m.order = h.names
  tree : m.tree = readT m.g (m.text.map (·.2))
  past : h.past = m.elder.reverse
  future : h.future = m.later.reverse
  sum : m.elder.length + m.later.length ≤ 64
  firm : FirmB m.next m.text
  firms : ∀ t, t ∈ m.elder ∨ t ∈ m.later → FirmB m.next t
  marks : h.marks.Perm m.marks
  mkeys : (m.marks.map (·.1)).Nodup
  mlen : m.marks.length ≤ 64
  good : Good m.g
  lim : LimG m.g
  names : m.names.length ≤ 2000 * k
  known : ∀ x ∈ nodesOf m.tree, keyOf m.text x ∈ m.names
section
variable {k : Nat} {m : HM} {h : House}
theorem Sim.order_is (s : Sim k m h) : m.order = (nodesOf m.tree).map fun x => m.names.idxOf (keyOf m.text x) := by
  rw [s.order]
  unfold Sq14.House.names
  rw [s.nodes, List.map_map]
  refine List.map_congr_left fun x hx => ?_
  show (Sq14.nameOf h.keys (Sq14.keyOf h.text (toNode x))).getD 0 = _
  rw [s.keys, s.text, key_eq, name_idx (s.known x hx)]
theorem Sim.treeOk (s : Sim k m h) {T : List Nat × List Nd} (e : m.tree = some T) : TreeOk m.text.length T := by
  have := Gs.treeOk s.good s.lim.parts (w := m.text.map (·.2)) (by rw [List.length_map]; exact s.firm.2.1) (T := T) (by rw [← s.tree, e])
  rwa [List.length_map] at this
theorem Sim.fit (s : Sim k m h) (hk : k ≤ 400) : HM.Fit m := by
  refine ⟨s.good, s.lim, s.firm.2.1, by have := s.sum; omega, by have := s.sum; omega, fun t ht => (s.firms t (.inl ht)).2.1, fun t ht => (s.firms t (.inr ht)).2.1, by have := s.names; omega, ?_, s.mlen⟩
  rw [s.order_is, List.length_map, s.tree]
  exact nodes_few s.good s.lim.parts (by rw [List.length_map]; exact s.firm.2.1)
theorem idx_inj {l : List NRule} {x y : NRule} (hx : x ∈ l) (h : l.idxOf x = l.idxOf y) (hy : y ∈ l) : x = y := by
  have h1 := List.getElem_idxOf (List.idxOf_lt_length_of_mem hx)
  have h2 := List.getElem_idxOf (List.idxOf_lt_length_of_mem hy)
  rw [← h1, ← h2]
  congr 1
theorem Sim.order_nodup (s : Sim k m h) : m.order.Nodup := by
  rw [s.order_is]
  cases e : m.tree with
  | none => exact List.nodup_nil
  | some T =>
    have hk := keys_once s.firm.1 (s.treeOk e)
    have kn := s.known
    rw [e] at kn
    unfold List.Nodup at hk ⊢
    rw [List.pairwise_map] at hk ⊢
    exact List.Pairwise.imp_of_mem (fun {x y} hx hy hne eq => hne (idx_inj (kn x hx) eq (kn y hy))) hk
theorem Sim.tidy (s : Sim k m h) : Tidy m := by
  refine ⟨fun e => ?_, fun T e => ?_, s.order_nodup⟩
  · rw [s.order_is, e]
    rfl
  · have ok := s.treeOk e
    obtain ⟨x0, h0, h1, h2⟩ := ok.first
    refine ⟨ok.few.1, ?_, fun x hx => ⟨Nat.le_of_lt (ok.within x hx).1, fun q hq => ?_⟩, x0, h0, h1, h2⟩
    · rw [s.order_is, List.length_map, e]
      rfl
    · obtain ⟨j, hj⟩ := List.getElem?_of_mem hx
      rcases ok.par j x hj with ⟨a1, _⟩ | ⟨j', y, a1, a2, a3, _⟩
      · rw [a1] at hq
        cases hq
      · rw [a2] at hq
        have : q = j' := by
          have := Option.some.inj hq
          omega
        rw [this]
        exact (List.getElem?_eq_some_iff.mp a3).1
end
end Gs
/-! # A text is read: mirror and document alike -/
namespace Gs
open Nt (Sign Rule Grammar Tree)
open Sq14 (Node House)
/-- what reading a text leaves -/
structure ReadIs (m : HM) (h : House) (text : List Wd) (nx : Nat) (u : House) : Prop where
  g : u.g = m.g
  txt : u.text = text
  next : u.next = nx
  keys : u.keys = (m.take text).names
  nodes : u.nodes = (nodesOf (m.take text).tree).map toNode
  row : u.row = rowOf (m.take text).tree
  order : (m.take text).order = u.names
  known : ∀ x ∈ nodesOf (m.take text).tree, keyOf text x ∈ (m.take text).names
  came : u.came = sortN ((m.take text).order.filter fun x => decide (x ∉ m.order))
  went : u.went = sortN (m.order.filter fun x => decide (x ∉ (m.take text).order))
  past : u.past = h.past
  future : u.future = h.future
  marks : u.marks = h.marks
theorem foldl_told (text : List Wd) (l : List Nd) (keys : List NRule) : ((l.map toNode).map (Sq14.keyOf text)).foldl Sq14.told keys = l.foldl (fun n x => addKey n (keyOf text x)) keys := by
  rw [List.map_map, List.foldl_map]
  congr 1
  funext n x
  exact told_eq n _
theorem read_is {m : HM} {h : House} (eg : h.g = m.g) (ek : h.keys = m.names) (eo : m.order = h.names) (text : List Wd) (nx : Nat) : ReadIs m h text nx (h.read text nx) := by
  -- the tree
  have enodes : (match Sq14.firstOf h.g (text.map fun (w : Wd) => w.2) with
    | some t => Sq14.nodesOf 0 t
    | none => []) = (nodesOf (readT m.g (text.map (·.2)))).map toNode := by
    unfold readT
    rw [eg]
    cases Sq14.firstOf m.g (text.map fun (w : Wd) => w.2) with
    | none => rfl
    | some t => exact (nodes_map t 0 none 0).symm
  have erow : (match Sq14.firstOf h.g (text.map fun (w : Wd) => w.2) with
    | some t => t.row
    | none => []) = rowOf (readT m.g (text.map (·.2))) := by
    unfold readT
    rw [eg]
    cases Sq14.firstOf m.g (text.map fun (w : Wd) => w.2) with
    | none => rfl
    | some t => rfl
  have etake := take_is text (nodesOf (readT m.g (text.map (·.2)))) m.names []
  have enames : (m.take text).names = (nodesOf (readT m.g (text.map (·.2)))).foldl (fun n x => addKey n (keyOf text x)) m.names := by
    show ((nodesOf (readT m.g (text.map (·.2)))).foldl (takeOne text) (m.names, [])).1 = _
    rw [etake]
  have eorder : (m.take text).order = (nodesOf (readT m.g (text.map (·.2)))).map fun x => ((m.take text).names).idxOf (keyOf text x) := by
    show ((nodesOf (readT m.g (text.map (·.2)))).foldl (takeOne text) (m.names, [])).2 = _
    rw [etake, enames, List.nil_append]
  have ekeys : (h.read text nx).keys = (m.take text).names := by
    show ((match Sq14.firstOf h.g (text.map fun (w : Wd) => w.2) with
      | some t => Sq14.nodesOf 0 t
      | none => []).map (Sq14.keyOf text)).foldl Sq14.told h.keys = _
    rw [enodes, foldl_told, ek, enames]
  have hn : (h.read text nx).nodes = (nodesOf (m.take text).tree).map toNode := enodes
  have known : ∀ x ∈ nodesOf (m.take text).tree, keyOf text x ∈ (m.take text).names := fun x hx => by
    rw [enames]
    exact fold_mem (keyOf text) _ _ x hx
  have hord : (m.take text).order = (h.read text nx).names := by
    unfold Sq14.House.names
    rw [hn, List.map_map, eorder]
    refine List.map_congr_left fun x hx => ?_
    show _ = (Sq14.nameOf (h.read text nx).keys (Sq14.keyOf text (toNode x))).getD 0
    rw [ekeys, key_eq, name_idx (known x hx)]
  have cont : ∀ (a b : List Nat), (a.filter fun x => !b.contains x) = a.filter fun x => decide (x ∉ b) := fun a b => List.filter_congr fun x _ => by
    by_cases hx : x ∈ b <;> simp [hx]
  refine ⟨eg, rfl, rfl, ekeys, hn, erow, hord, known, ?_, ?_, rfl, rfl, rfl⟩
  · have : (h.read text nx).came = Sq14.rising ((h.read text nx).names.filter fun x => !h.names.contains x) := rfl
    rw [this, rising_is, cont, ← hord, ← eo]
  · have : (h.read text nx).went = Sq14.rising (h.names.filter fun x => !(h.read text nx).names.contains x) := rfl
    rw [this, rising_is, cont, ← hord, ← eo]
/-- what a change tells -/
theorem tells_is {m : HM} {h u : House} {text : List Wd} {nx : Nat} (r : ReadIs m h text nx u) : u.tells.value :: u.tells.out = (tells m.order (m.take text).order).map fun (n : Nat) => (n : Int) := by
  unfold Sq14.House.tells tells
  have hl : u.nodes.length = (m.take text).order.length := by
    rw [r.order]
    unfold Sq14.House.names
    rw [List.length_map]
  rw [r.came, r.went, hl]
  rfl
end Gs
/-! # Changes alike -/
namespace Gs
open Nt (Sign Rule Grammar Tree)
open Sq14 (Node House)
section
variable {k : Nat} {m m1 : HM} {h : House} {nx : Nat} {text : List Wd} {pa fu : List (List Wd)}
theorem Sim.like (s : Sim k m h) (e1 : m1.g = m.g) (e2 : m1.names = m.names) (e3 : m1.order = m.order) (e4 : m1.marks = m.marks) (e5 : m1.next = nx) (hf : FirmB nx text) (hfs : ∀ t, t ∈ m1.elder ∨ t ∈ m1.later → FirmB nx t)
    (hs : m1.elder.length + m1.later.length ≤ 64) (hp : pa = m1.elder.reverse) (hfu : fu = m1.later.reverse) :
    Sim (k + 1) (m1.take text) { h.read text nx with past := pa, future := fu } ∧ (h.read text nx).tells.value :: (h.read text nx).tells.out = (tells m.order (m1.take text).order).map fun (n : Nat) => (n : Int) := by
  have r := read_is (m := m1) (h := h) (by rw [e1]; exact s.g) (by rw [e2]; exact s.keys) (by rw [e3]; exact s.order) text nx
  have t := tells_is r
  rw [e3] at t
  refine ⟨⟨r.g, r.txt, ?_, r.keys, r.nodes, r.row, r.order, rfl, hp, hfu, hs, ?_, ?_, ?_, ?_, ?_, ?_, ?_, ?_, r.known⟩, t⟩
  · show nx = m1.next
    exact e5.symm
  · show FirmB m1.next text
    rw [e5]
    exact hf
  · intro t ht
    show FirmB m1.next t
    rw [e5]
    exact hfs t ht
  · show (h.read text nx).marks.Perm m1.marks
    rw [r.marks, e4]
    exact s.marks
  · show (m1.marks.map (·.1)).Nodup
    rw [e4]
    exact s.mkeys
  · show m1.marks.length ≤ 64
    rw [e4]
    exact s.mlen
  · show Good m1.g
    rw [e1]
    exact s.good
  · show LimG m1.g
    rw [e1]
    exact s.lim
  · have h1 := (HM.take_len m1 text).2
    have h2 := nodes_few (g := m1.g) (w := text.map (·.2)) (by rw [e1]; exact s.good) (by rw [e1]; exact s.lim.parts) (by rw [List.length_map]; exact hf.2.1)
    have h3 := s.names
    rw [e2] at h1
    omega
end
end Gs
/-! # Texts stay firm -/
namespace Gs
open Nt (Sign Rule Grammar Tree)
theorem FirmB.up {n n' : Nat} {t : List Wd} (h : FirmB n t) (le : n ≤ n') : FirmB n' t := ⟨h.1, h.2.1, fun y hy => Nat.lt_of_lt_of_le (h.2.2 y hy) le⟩
theorem firm_sub {t u : List Wd} (h : Firm t) (s : u.Sublist t) : Firm u := List.Nodup.sublist (s.map _) h
theorem new_names (n : Nat) (l : List Nat) : (newWords n l).map (·.1) = (List.range l.length).map fun k => n + k := by
  unfold newWords
  rw [List.map_fst_zip]
  rw [List.length_map, List.length_range]
  exact Nat.le_refl _
theorem edit_firm {n : Nat} {t : List Wd} {i d : Nat} {l : List Nat} (h : FirmB n t) (hi : i + d ≤ t.length) (hl : t.length - d + l.length ≤ 24) : FirmB (n + l.length) (t.take i ++ newWords n l ++ t.drop (i + d)) := by
  have hnew : ∀ y ∈ newWords n l, n ≤ y.1 ∧ y.1 < n + l.length := fun y hy => by
    have : y.1 ∈ (newWords n l).map (·.1) := List.mem_map_of_mem hy
    rw [new_names] at this
    obtain ⟨k, hk, e⟩ := List.mem_map.mp this
    have := List.mem_range.mp hk
    omega
  have sub : (t.take i ++ t.drop (i + d)).Sublist t := by
    conv => rhs; rw [← List.take_append_drop i t]
    exact (List.Sublist.refl _).append (by rw [← List.drop_drop]; exact List.drop_sublist d _)
  refine ⟨?_, by rw [edit_len hi]; exact hl, fun y hy => ?_⟩
  · unfold Firm
    rw [List.map_append, List.map_append]
    have h1 := firm_sub h.1 sub
    unfold Firm at h1
    rw [List.map_append] at h1
    obtain ⟨a1, a2, a3⟩ := List.nodup_append.mp h1
    refine List.nodup_append.mpr ⟨List.nodup_append.mpr ⟨a1, ?_, fun x hx y hy e => ?_⟩, a2, fun x hx y hy e => ?_⟩
    · rw [new_names]
      exact List.Pairwise.map _ (fun a b hab e => hab (by omega)) (List.nodup_range (n := l.length))
    · obtain ⟨x', hx', rfl⟩ := List.mem_map.mp hx
      obtain ⟨y', hy', rfl⟩ := List.mem_map.mp hy
      have := h.2.2 x' (List.mem_of_mem_take hx')
      have := hnew y' hy'
      omega
    · rcases List.mem_append.mp hx with z | z
      · exact a3 x z y hy e
      · obtain ⟨x', hx', rfl⟩ := List.mem_map.mp z
        obtain ⟨y', hy', rfl⟩ := List.mem_map.mp hy
        have := h.2.2 y' (List.mem_of_mem_drop hy')
        have := hnew x' hx'
        omega
  · rcases List.mem_append.mp hy with z | z
    · rcases List.mem_append.mp z with z | z
      · have := h.2.2 y (List.mem_of_mem_take z)
        omega
      · exact (hnew y z).2
    · have := h.2.2 y (List.mem_of_mem_drop z)
      omega
theorem move_perm {α : Type} {t : List α} {i d to : Nat} (h : i + d ≤ t.length) : ((t.take i ++ t.drop (i + d)).take to ++ (t.drop i).take d ++ (t.take i ++ t.drop (i + d)).drop to).Perm t := by
  have e1 : ((t.take i ++ t.drop (i + d)).take to ++ (t.drop i).take d ++ (t.take i ++ t.drop (i + d)).drop to).Perm ((t.drop i).take d ++ ((t.take i ++ t.drop (i + d)).take to ++ (t.take i ++ t.drop (i + d)).drop to)) := by
    rw [List.append_assoc]
    exact (List.perm_append_comm_assoc _ _ _)
  rw [List.take_append_drop] at e1
  refine e1.trans ?_
  have e2 : ((t.drop i).take d ++ (t.take i ++ t.drop (i + d))).Perm (t.take i ++ ((t.drop i).take d ++ t.drop (i + d))) := List.perm_append_comm_assoc _ _ _
  refine e2.trans ?_
  rw [← List.drop_drop, List.take_append_drop, List.take_append_drop]
theorem move_firm {n : Nat} {t : List Wd} {i d to : Nat} (h : FirmB n t) (hi : i + d ≤ t.length) : FirmB n ((t.take i ++ t.drop (i + d)).take to ++ (t.drop i).take d ++ (t.take i ++ t.drop (i + d)).drop to) := by
  have p := move_perm (to := to) hi
  have pn := (p.map (fun y : Wd => y.1)).nodup_iff
  exact ⟨pn.mpr h.1, by rw [p.length_eq]; exact h.2.1, fun y hy => h.2.2 y (p.mem_iff.mp hy)⟩
end Gs
/-! # The calls that change: mirror and document alike -/
namespace Gs
open Nt (Sign Rule Grammar Tree)
open Sq14 (Node House)
/-- both did alike -/
def Alike (k : Nat) (m : HM) (res : Int ⊕ (HM × List Nat)) (r : House × Sq14.Out) : Prop := Sim (k + 1) (resOf m res).1 r.1 ∧ (resOf m res).2 = r.2.value :: r.2.out
section
variable {k : Nat} {m : HM} {h : House}
theorem Sim.up (s : Sim k m h) : Sim (k + 1) m h := { s with names := by have := s.names; omega }
theorem Sim.refuse (s : Sim k m h) (z : Int) : Alike k m (.inl z) (h, Sq14.says z) := ⟨s.up, rfl⟩
theorem past_is (e : List (List Wd)) (t : List Wd) : (t :: e.reverse).take 64 = (lastN 64 (e ++ [t])).reverse := by
  have : t :: e.reverse = (e ++ [t]).reverse := by simp
  rw [this, List.take_reverse]
  rfl
/-- a step that can be undone -/
theorem Sim.change (s : Sim k m h) {m1 : HM} {nx : Nat} {text : List Wd} (e1 : m1 = { m with next := nx }) (hn : m.next ≤ nx) (hf : FirmB nx text) : Alike k m (.inr (m1.step text)) (h.change text nx, (h.change text nx).tells) := by
  subst e1
  have L := s.like (m1 := { m with next := nx, elder := lastN 64 (m.elder ++ [m.text]), later := [] }) (nx := nx) (text := text) (pa := (h.text :: h.past).take Sq14.STEPS) (fu := []) rfl rfl rfl rfl rfl hf (fun t ht => ?_) (by show (lastN 64 _).length + 0 ≤ 64; have := lastN_len 64 (m.elder ++ [m.text]); omega) (by rw [s.text, s.past]; exact past_is _ _) rfl
  · exact ⟨L.1, L.2.symm⟩
  · rcases ht with z | z
    · rcases List.mem_append.mp (lastN_mem z) with z | z
      · exact (s.firms t (.inl z)).up hn
      · rw [List.mem_singleton.mp z]
        exact s.firm.up hn
    · cases z
theorem Sim.edit (s : Sim k m h) (i n : Nat) (l : List Nat) : Alike k m (editA m i n l) (h.step (.edit i n l)) := by
  unfold editA
  show Alike k m _ (if h.text.length < i + n ∨ (l.any fun w => decide (h.g.words ≤ w)) = true then (h, Sq14.says (-1)) else if Sq14.TEXT < h.text.length - n + l.length then (h, Sq14.says (-5)) else _)
  rw [s.text, s.g, s.next]
  by_cases c : i + n ≤ m.text.length ∧ ∀ x ∈ l, x < m.g.words
  · have nc : ¬ (m.text.length < i + n ∨ (l.any fun w => decide (m.g.words ≤ w)) = true) := by
      rintro (z | z)
      · omega
      · obtain ⟨x, hx, hw⟩ := List.any_eq_true.mp z
        have := c.2 x hx
        have := of_decide_eq_true hw
        omega
    rw [if_neg (fun z => z c), if_neg nc]
    by_cases c2 : 24 < m.text.length - n + l.length
    · rw [if_pos c2, if_pos (show Sq14.TEXT < _ from c2)]
      exact s.refuse _
    · rw [if_neg c2, if_neg (show ¬ Sq14.TEXT < _ from c2)]
      have := s.change (m1 := { m with next := m.next + l.length }) (nx := m.next + l.length) (text := m.text.take i ++ newWords m.next l ++ m.text.drop (i + n)) rfl (Nat.le_add_right _ _) (edit_firm s.firm c.1 (by omega))
      rw [List.append_assoc] at this
      unfold HM.edit
      rw [List.append_assoc]
      exact this
  · have nc : m.text.length < i + n ∨ (l.any fun w => decide (m.g.words ≤ w)) = true := by
      rcases Nat.lt_or_ge m.text.length (i + n) with z | z
      · exact .inl z
      · right
        refine Classical.byContradiction fun hn => c ⟨z, fun x hx => ?_⟩
        rcases Nat.lt_or_ge x m.g.words with y | y
        · exact y
        · exact absurd (List.any_eq_true.mpr ⟨x, hx, decide_eq_true y⟩) hn
    rw [if_pos c, if_pos nc]
    exact s.refuse _
end
end Gs
/-! # move, undo, redo alike -/
namespace Gs
open Nt (Sign Rule Grammar Tree)
open Sq14 (Node House)
section
variable {k : Nat} {m : HM} {h : House}
theorem Sim.move (s : Sim k m h) (i n to : Nat) : Alike k m (moveA m i n to) (h.step (.move i n to)) := by
  unfold moveA
  show Alike k m _ (if n = 0 ∨ h.text.length < i + n ∨ h.text.length < to + n then (h, Sq14.says (-1)) else _)
  rw [s.text, s.next]
  by_cases c : 0 < n ∧ i + n ≤ m.text.length ∧ to + n ≤ m.text.length
  · rw [if_neg (fun z => z c), if_neg (by omega)]
    have := s.change (m1 := m) (nx := m.next) (text := (m.text.take i ++ m.text.drop (i + n)).take to ++ (m.text.drop i).take n ++ (m.text.take i ++ m.text.drop (i + n)).drop to) rfl (Nat.le_refl _) (move_firm s.firm c.2.1)
    unfold HM.move
    rw [List.append_assoc] at this
    simp only
    rw [List.append_assoc]
    exact this
  · rw [if_pos c, if_pos (by omega)]
    exact s.refuse _
theorem last_of {α : Type} {l : List α} (h : l ≠ []) : ∃ es t, l = es ++ [t] := by
  rcases List.eq_nil_or_concat l with z | ⟨es, t, z⟩
  · exact absurd z h
  · exact ⟨es, t, by rw [z, List.concat_eq_append]⟩
theorem Sim.undo (s : Sim k m h) : Alike k m (undoA m) (h.step .undo) := by
  unfold undoA
  have hp := s.past
  by_cases c : m.elder = []
  · rw [if_pos c]
    rw [c] at hp
    unfold Sq14.House.step
    rw [show h.past = [] from hp]
    exact s.refuse _
  · rw [if_neg c]
    obtain ⟨es, t, hes⟩ := last_of c
    rw [hes, List.reverse_append] at hp
    have hp : h.past = t :: es.reverse := hp
    have e : h.step .undo = ({ h.read t h.next with past := es.reverse, future := h.text :: h.future }, ({ h.read t h.next with past := es.reverse, future := h.text :: h.future } : House).tells) := by
      unfold Sq14.House.step
      rw [hp]
    rw [e, s.next]
    have eu : m.undo = HM.change { m with later := m.later ++ [m.text], elder := es } t := by
      unfold HM.undo
      rw [hes]
      simp
    rw [eu]
    have hs := s.sum
    rw [hes, List.length_append] at hs
    have L := s.like (m1 := { m with later := m.later ++ [m.text], elder := es }) (nx := m.next) (text := t) (pa := es.reverse) (fu := h.text :: h.future) rfl rfl rfl rfl rfl (s.firms t (.inl (by rw [hes]; exact List.mem_append_right _ List.mem_cons_self))) (fun u hu => ?_) (by show es.length + (m.later ++ [m.text]).length ≤ 64; rw [List.length_append]; simp at hs ⊢; omega) rfl (by rw [s.text, s.future]; simp)
    · exact ⟨L.1, L.2.symm⟩
    · rcases hu with z | z
      · exact s.firms u (.inl (by rw [hes]; exact List.mem_append_left _ z))
      · rcases List.mem_append.mp z with z | z
        · exact s.firms u (.inr z)
        · rw [List.mem_singleton.mp z]
          exact s.firm
theorem Sim.redo (s : Sim k m h) : Alike k m (redoA m) (h.step .redo) := by
  unfold redoA
  have hp := s.future
  by_cases c : m.later = []
  · rw [if_pos c]
    rw [c] at hp
    unfold Sq14.House.step
    rw [show h.future = [] from hp]
    exact s.refuse _
  · rw [if_neg c]
    obtain ⟨es, t, hes⟩ := last_of c
    rw [hes, List.reverse_append] at hp
    have hp : h.future = t :: es.reverse := hp
    have e : h.step .redo = ({ h.read t h.next with past := (h.text :: h.past).take Sq14.STEPS, future := es.reverse }, ({ h.read t h.next with past := (h.text :: h.past).take Sq14.STEPS, future := es.reverse } : House).tells) := by
      unfold Sq14.House.step
      rw [hp]
    rw [e, s.next]
    have eu : m.redo = HM.change { m with elder := m.elder ++ [m.text], later := es } t := by
      unfold HM.redo
      rw [hes]
      simp
    rw [eu]
    have hs := s.sum
    rw [hes, List.length_append] at hs
    have L := s.like (m1 := { m with elder := m.elder ++ [m.text], later := es }) (nx := m.next) (text := t) (pa := (h.text :: h.past).take Sq14.STEPS) (fu := es.reverse) rfl rfl rfl rfl rfl (s.firms t (.inr (by rw [hes]; exact List.mem_append_right _ List.mem_cons_self))) (fun u hu => ?_) (by show (m.elder ++ [m.text]).length + es.length ≤ 64; rw [List.length_append]; simp at hs ⊢; omega) (by
      rw [s.text, s.past, List.take_of_length_le (by simp at hs ⊢; show _ ≤ 64; omega)]
      simp) rfl
    · exact ⟨L.1, L.2.symm⟩
    · rcases hu with z | z
      · rcases List.mem_append.mp z with z | z
        · exact s.firms u (.inl z)
        · rw [List.mem_singleton.mp z]
          exact s.firm
      · exact s.firms u (.inr (by rw [hes]; exact List.mem_append_left _ z))
end
end Gs
/-! # tree, words, node, at alike -/
namespace Gs
open Nt (Sign Rule Grammar Tree)
open Sq14 (Node House)
theorem find_idx {α : Type} (f : α → Nat) (n : Nat) : ∀ l : List α, (l.find? fun x => f x == n) = l[(l.map f).idxOf n]?
  | [] => by simp
  | x :: l => by
    rw [List.find?_cons, List.map_cons, List.idxOf_cons]
    by_cases c : f x = n
    · have : (f x == n) = true := by simpa using c
      rw [this]
      simp
    · have : (f x == n) = false := by simpa using c
      rw [this]
      simp only [cond_false, List.getElem?_cons_succ]
      exact find_idx f n l
theorem last_none {α : Type} {p : α → Bool} {l : List α} (h : ∀ y ∈ l, p y = false) : (l.filter p).getLast? = none := by
  have : l.filter p = [] := List.filter_eq_nil_iff.mpr fun y hy z => by rw [h y hy] at z; cases z
  rw [this]
  rfl
theorem last_some {α : Type} {p : α → Bool} {l : List α} {j : Nat} {y : α} (hy : l[j]? = some y) (hp : p y = true) (h : ∀ j' z, j < j' → l[j']? = some z → p z = false) : (l.filter p).getLast? = some y := by
  have hj := (List.getElem?_eq_some_iff.mp hy).1
  have e : l = l.take j ++ y :: l.drop (j + 1) := by
    conv => lhs; rw [← List.take_append_drop j l]
    rw [List.drop_eq_getElem_cons hj, (List.getElem?_eq_some_iff.mp hy).2]
  have hd : (l.drop (j + 1)).filter p = [] := List.filter_eq_nil_iff.mpr fun z hz q => by
    obtain ⟨i, hi⟩ := List.getElem?_of_mem hz
    rw [List.getElem?_drop] at hi
    rw [h _ z (by omega) hi] at q
    cases q
  rw [e, List.filter_append, List.filter_cons, if_pos hp, hd]
  simp
theorem over_last {α : Type} (p : α → Bool) (l : List α) : (l.filter p).getLast? = (((List.range l.length).filter fun k => (l[k]?).any p).getLast?).bind fun k => l[k]? := by
  by_cases c : ∃ y ∈ l, p y = true
  · -- the last place
    obtain ⟨j, y, hy, hp, hl⟩ : ∃ (j : Nat) (y : α), l[j]? = some y ∧ p y = true ∧ ∀ (j' : Nat) (z : α), j < j' → l[j']? = some z → p z = false := by
      induction l with
      | nil => obtain ⟨y, hy, _⟩ := c; cases hy
      | cons x l ih =>
        by_cases d : ∃ y ∈ l, p y = true
        · obtain ⟨j, y, hy, hp, hl⟩ := ih d
          refine ⟨j + 1, y, hy, hp, fun j' z hj hz => ?_⟩
          cases j' with
          | zero => omega
          | succ q => exact hl q z (by omega) hz
        · obtain ⟨y, hy, hp⟩ := c
          rcases List.mem_cons.mp hy with e | e
          · subst e
            refine ⟨0, y, rfl, hp, fun j' z hj hz => ?_⟩
            cases j' with
            | zero => omega
            | succ q =>
              have hz : l[q]? = some z := hz
              cases e : p z with
              | false => rfl
              | true => exact absurd ⟨z, List.mem_of_getElem? hz, e⟩ d
          · exact absurd ⟨y, e, hp⟩ d
    rw [last_some hy hp hl]
    have hj := (List.getElem?_eq_some_iff.mp hy).1
    have : ((List.range l.length).filter fun k => (l[k]?).any p).getLast? = some j := by
      refine last_some (j := j) (by rw [List.getElem?_range hj]) (by simp only [hy]; exact hp) fun j' z hlt hz => ?_
      have hz' := List.getElem?_eq_some_iff.mp hz
      obtain ⟨h1, h2⟩ := hz'
      rw [List.getElem_range] at h2
      subst h2
      rw [List.length_range] at h1
      obtain ⟨u, hu⟩ : ∃ u, l[j']? = some u := ⟨l[j'], List.getElem?_eq_getElem h1⟩
      simp only [hu]
      exact hl j' u hlt hu
    rw [this]
    exact hy.symm
  · have c' : ∀ y ∈ l, p y = false := fun y hy => by
      cases e : p y with
      | false => rfl
      | true => exact absurd ⟨y, hy, e⟩ c
    rw [last_none c', last_none]
    · rfl
    · intro k hk
      obtain ⟨u, hu⟩ : ∃ u, l[k]? = some u := ⟨l[k]'(List.mem_range.mp hk), List.getElem?_eq_getElem _⟩
      simp only [hu]
      exact c' u (List.mem_of_getElem? hu)
section
variable {k : Nat} {m : HM} {h : House}
theorem Sim.same (s : Sim k m h) {l : List Nat} {o : Sq14.Out} (e : l.map (fun (n : Nat) => (n : Int)) = o.value :: o.out) : Alike k m (.inr (m, l)) (h, o) := ⟨s.up, e⟩
theorem Sim.treeC (s : Sim k m h) : Alike k m (treeA m) (h.step .tree) := by
  unfold treeA
  show Alike k m _ (if h.nodes = [] then (h, Sq14.says (-2)) else (h, ⟨h.nodes.length, Sq14.ints (h.names ++ h.row)⟩))
  cases e : m.tree with
  | none =>
    rw [if_pos (by rw [s.nodes, e]; rfl)]
    exact s.refuse _
  | some T =>
    obtain ⟨x0, h0, _⟩ := (s.treeOk e).first
    rw [if_neg (by
      rw [s.nodes, e]
      show ¬ T.2.map toNode = []
      intro z
      rw [List.map_eq_nil_iff.mp z] at h0
      cases h0)]
    refine s.same ?_
    have e1 : h.nodes.length = m.order.length := by
      rw [s.order]
      unfold Sq14.House.names
      rw [List.length_map]
    have e2 : h.row = T.1 := by rw [s.row, e]; rfl
    rw [e1, e2, ← s.order]
    rfl
theorem Sim.wordsC (s : Sim k m h) : Alike k m (wordsA m) (h.step .words) := by
  refine s.same (o := ⟨h.text.length, Sq14.ints (h.text.flatMap fun w => [w.1, w.2])⟩) ?_
  rw [s.text]
  rfl
theorem Sim.names_at (s : Sim k m h) (j : Nat) : m.order[j]? = ((nodesOf m.tree)[j]?).map fun x => h.nameAt (toNode x) := by
  rw [s.order]
  unfold Sq14.House.names
  rw [s.nodes, List.getElem?_map, List.getElem?_map]
  cases (nodesOf m.tree)[j]? <;> rfl
theorem Sim.name_is (s : Sim k m h) (n : Nat) : h.name n = ((nodesOf m.tree)[m.order.idxOf n]?).map toNode := by
  unfold Sq14.House.name
  rw [find_idx, s.order]
  unfold Sq14.House.names
  rw [s.nodes, List.getElem?_map]
theorem Sim.len (s : Sim k m h) : m.order.length = (nodesOf m.tree).length := by
  rw [s.order_is, List.length_map]
theorem Sim.name_none (s : Sim k m h) {n : Nat} (c : n ∉ m.order) : h.name n = none := by
  rw [s.name_is, List.idxOf_eq_length c, s.len, List.getElem?_eq_none (Nat.le_refl _)]
  rfl
theorem Sim.name_some (s : Sim k m h) {n : Nat} (c : n ∈ m.order) : ∃ x, (nodesOf m.tree)[m.order.idxOf n]? = some x ∧ h.name n = some (toNode x) ∧ h.nameAt (toNode x) = n := by
  have hl := List.idxOf_lt_length_of_mem c
  have hl' := hl
  rw [s.len] at hl'
  refine ⟨(nodesOf m.tree)[m.order.idxOf n], List.getElem?_eq_getElem hl', ?_, ?_⟩
  · rw [s.name_is, List.getElem?_eq_getElem hl']
    rfl
  · have := s.names_at (m.order.idxOf n)
    rw [List.getElem?_eq_getElem hl, List.getElem?_eq_getElem hl', List.getElem_idxOf hl] at this
    exact (Option.some.inj this).symm
theorem cov_is {x y : Nd} (hx : x.2.1 < x.2.2.1) (hy : y.2.1 < y.2.2.1) : Sq14.covers (toNode y) (toNode x).i ((toNode x).i + (toNode x).n) = true ↔ Cov y x := by
  unfold Sq14.covers Cov toNode
  simp only [Bool.and_eq_true, decide_eq_true_eq]
  omega
theorem take_while_at {α : Type} [DecidableEq α] : ∀ {l : List α} {j : Nat} {x : α}, l.Nodup → l[j]? = some x → (l.takeWhile fun y => y != x) = l.take j
  | y :: l, 0, x, hn, h => by
    have : y = x := Option.some.inj h
    subst this
    simp
  | y :: l, j + 1, x, hn, h => by
    have h : l[j]? = some x := h
    obtain ⟨h1, h2⟩ := List.nodup_cons.mp hn
    have ne : y ≠ x := fun e => h1 (by rw [e]; exact List.mem_of_getElem? h)
    rw [List.takeWhile_cons_of_pos (by simpa using ne), List.take_succ_cons, take_while_at h2 h]
theorem Sim.around_is (s : Sim k m h) {T : List Nat × List Nd} (e : m.tree = some T) {j : Nat} {x : Nd} (hx : T.2[j]? = some x) :
    (match h.around (toNode x) with
      | some y => h.nameAt y + 1
      | none => 0) = (match x.2.2.2 with
      | none => 0
      | some k => m.order.getD k 0 + 1) := by
  have ok := s.treeOk e
  have hn : h.nodes = T.2.map toNode := by rw [s.nodes, e]; rfl
  have hat : (T.2.map toNode)[j]? = some (toNode x) := by rw [List.getElem?_map, hx]; rfl
  have hmx := ok.within x (List.mem_of_getElem? hx)
  unfold Sq14.House.around
  rw [hn, take_while_at ok.once hat]
  rcases ok.par j x hx with ⟨h1, h2⟩ | ⟨j', y, h1, h2, h3, h4, h5⟩
  · rw [h1, last_none fun y hy => ?_]
    obtain ⟨q, hq⟩ := List.getElem?_of_mem hy
    rw [List.getElem?_take] at hq
    split at hq
    · rename_i lt
      rw [List.getElem?_map] at hq
      cases e2 : T.2[q]? with
      | none => rw [e2] at hq; cases hq
      | some u =>
        rw [e2] at hq
        cases hq
        cases e3 : Sq14.covers (toNode u) (toNode x).i ((toNode x).i + (toNode x).n) with
        | false => rfl
        | true => exact absurd ((cov_is hmx.1 (ok.within u (List.mem_of_getElem? e2)).1).mp e3) (h2 q u lt e2)
    · cases hq
  · rw [h2, last_some (j := j') (y := toNode y) (by rw [List.getElem?_take, if_pos h1, List.getElem?_map, h3]; rfl) ((cov_is hmx.1 (ok.within y (List.mem_of_getElem? h3)).1).mpr h4) fun q z hq hz => ?_]
    · have := s.names_at j'
      rw [e] at this
      have h3' : (nodesOf (some T))[j']? = some y := h3
      rw [h3'] at this
      show h.nameAt (toNode y) + 1 = m.order.getD (0 + j') 0 + 1
      rw [Nat.zero_add, List.getD_eq_getElem?_getD, this]
      rfl
    · rw [List.getElem?_take] at hz
      split at hz
      · rename_i lt
        rw [List.getElem?_map] at hz
        cases e2 : T.2[q]? with
        | none => rw [e2] at hz; cases hz
        | some u =>
          rw [e2] at hz
          cases hz
          cases e3 : Sq14.covers (toNode u) (toNode x).i ((toNode x).i + (toNode x).n) with
          | false => rfl
          | true => exact absurd ((cov_is hmx.1 (ok.within u (List.mem_of_getElem? e2)).1).mp e3) (h5 q u hq lt e2)
      · cases hz
theorem tree_of_nodes {t : Option (List Nat × List Nd)} {j : Nat} {x : Nd} (h : (nodesOf t)[j]? = some x) : ∃ T, t = some T ∧ T.2[j]? = some x := by
  cases t with
  | none => simp [nodesOf] at h
  | some T => exact ⟨T, rfl, h⟩
theorem Sim.nodeC (s : Sim k m h) (n : Nat) : Alike k m (nodeA m n) (h.step (.node n)) := by
  unfold nodeA wantA
  show Alike k m _ (if h.keys.length ≤ n then (h, Sq14.says (-2)) else match h.name n with
    | none => (h, Sq14.says (-3))
    | some x => (h, ⟨x.rule, Sq14.ints [x.i, x.n, match h.around x with
      | some y => h.nameAt y + 1
      | none => 0]⟩))
  rw [s.keys]
  by_cases c : m.names.length ≤ n
  · rw [if_pos c, if_pos c]
    exact s.refuse _
  · rw [if_neg c, if_neg c]
    by_cases d : n ∈ m.order
    · rw [if_neg (fun z => z d)]
      obtain ⟨x, hx, hn, he⟩ := s.name_some d
      rw [hn, hx]
      obtain ⟨T, eT, hT⟩ := tree_of_nodes hx
      refine s.same ?_
      rw [s.around_is eT hT]
      rfl
    · rw [if_pos d, s.name_none d]
      exact s.refuse _
theorem Sim.atC (s : Sim k m h) (i j : Nat) : Alike k m (atA m i j) (h.step (.at_ i j)) := by
  unfold atA
  show Alike k m _ (if j ≤ i ∨ h.text.length < j then (h, Sq14.says (-1)) else match h.innermost i j with
    | none => (h, Sq14.says (-2))
    | some x => (h, Sq14.says (h.nameAt x)))
  rw [s.text]
  by_cases c : i < j ∧ j ≤ m.text.length
  · rw [if_neg (fun z => z c), if_neg (by omega)]
    cases e : m.tree with
    | none =>
      have : h.innermost i j = none := by
        unfold Sq14.House.innermost
        rw [s.nodes, e]
        rfl
      rw [this]
      exact s.refuse _
    | some T =>
      have ok := s.treeOk e
      obtain ⟨x0, h0, h1, h2⟩ := ok.first
      have hn : h.nodes = T.2.map toNode := by rw [s.nodes, e]; rfl
      have ei : h.innermost i j = ((T.2.filter fun x => decide (x.2.1 ≤ i) && decide (j ≤ x.2.2.1)).getLast?).map toNode := by
        unfold Sq14.House.innermost
        rw [hn, List.filter_map, List.getLast?_map]
        congr 2
        refine List.filter_congr fun x hx => ?_
        have := ok.within x hx
        show (decide (x.2.1 ≤ i) && decide (j ≤ x.2.1 + (x.2.2.1 - x.2.1))) = _
        rw [Nat.add_sub_cancel' (Nat.le_of_lt this.1)]
      have eo := over_last (fun x : Nd => decide (x.2.1 ≤ i) && decide (j ≤ x.2.2.1)) T.2
      have eN : overN T.2 i j = (List.range T.2.length).filter fun k => (T.2[k]?).any (fun x : Nd => decide (x.2.1 ≤ i) && decide (j ≤ x.2.2.1)) := by
        unfold overN
        refine List.filter_congr fun q _ => ?_
        cases T.2[q]? <;> rfl
      rw [← eN] at eo
      have eo : (T.2.filter fun x : Nd => decide (x.2.1 ≤ i) && decide (j ≤ x.2.2.1)).getLast? = ((overN T.2 i j).getLast?).bind fun q => T.2[q]? := eo
      have hm0 : x0 ∈ T.2.filter fun x : Nd => decide (x.2.1 ≤ i) && decide (j ≤ x.2.2.1) := List.mem_filter.mpr ⟨List.mem_of_getElem? h0, by simp only [Bool.and_eq_true, decide_eq_true_eq]; omega⟩
      cases e2 : (T.2.filter fun x : Nd => decide (x.2.1 ≤ i) && decide (j ≤ x.2.2.1)).getLast? with
      | none =>
        rw [List.getLast?_eq_none_iff.mp e2] at hm0
        cases hm0
      | some y =>
        rw [e2] at eo
        cases e3 : (overN T.2 i j).getLast? with
        | none => rw [e3] at eo; cases eo
        | some q =>
          rw [e3] at eo
          have hq : T.2[q]? = some y := eo.symm
          rw [ei, e2]
          show Alike k m (.inr (m, [m.order.getD ((overN T.2 i j).getLast?.getD 0) 0])) (h, Sq14.says (h.nameAt (toNode y)))
          rw [e3]
          refine s.same ?_
          have := s.names_at q
          rw [e] at this
          have hq' : (nodesOf (some T))[q]? = some y := hq
          rw [hq'] at this
          show [((m.order.getD q 0 : Nat) : Int)] = [((h.nameAt (toNode y) : Nat) : Int)]
          rw [List.getD_eq_getElem?_getD, this]
          rfl
  · rw [if_pos c, if_pos (by omega)]
    exact s.refuse _
end
end Gs
/-! # mark, marks alike -/
namespace Gs
open Nt (Sign Rule Grammar Tree)
open Sq14 (Node House)
/-- a name's mark: found alike in lists with the same marks -/
theorem find_mark {l : List (Nat × Nat)} (hn : (l.map (·.1)).Nodup) {n : Nat} {y : Nat × Nat} : (l.find? fun x => x.1 == n) = some y ↔ y ∈ l ∧ y.1 = n := by
  induction l with
  | nil => simp
  | cons x l ih =>
    obtain ⟨h1, h2⟩ := List.nodup_cons.mp hn
    rw [List.find?_cons]
    by_cases c : x.1 = n
    · have e : (x.1 == n) = true := by simpa using c
      rw [e]
      constructor
      · intro h
        cases h
        exact ⟨List.mem_cons_self, c⟩
      · rintro ⟨hy, hyn⟩
        rcases List.mem_cons.mp hy with z | z
        · rw [z]
        · exact absurd (List.mem_map_of_mem (f := (·.1)) z) (by rw [hyn, ← c]; exact h1)
    · have e : (x.1 == n) = false := by simpa using c
      rw [e]
      show (l.find? fun x => x.1 == n) = some y ↔ _
      rw [ih h2]
      constructor
      · exact fun ⟨a, b⟩ => ⟨List.mem_cons_of_mem _ a, b⟩
      · rintro ⟨hy, hyn⟩
        rcases List.mem_cons.mp hy with z | z
        · exact absurd (by rw [← z]; exact hyn) c
        · exact ⟨z, hyn⟩
theorem find_perm {l l' : List (Nat × Nat)} (p : l.Perm l') (hn : (l'.map (·.1)).Nodup) (n : Nat) : (l.find? fun x => x.1 == n) = l'.find? fun x => x.1 == n := by
  have hn' : (l.map (·.1)).Nodup := ((p.map (·.1)).nodup_iff).mpr hn
  cases e : l.find? fun x => x.1 == n with
  | some y => exact ((find_mark hn).mpr ⟨p.mem_iff.mp ((find_mark hn').mp e).1, ((find_mark hn').mp e).2⟩).symm
  | none =>
    cases e2 : l'.find? fun x => x.1 == n with
    | none => rfl
    | some y =>
      have := (find_mark hn').mpr ⟨p.mem_iff.mpr ((find_mark hn).mp e2).1, ((find_mark hn).mp e2).2⟩
      rw [e] at this
      cases this
theorem put_perm : ∀ {l : List (Nat × Nat)} (n v : Nat), (l.map (·.1)).Nodup → ((l.filter fun x => x.1 != n) ++ [(n, v)]).Perm (putM l n v)
  | [], n, v, _ => by simp [putM]
  | x :: l, n, v, hn => by
    obtain ⟨h1, h2⟩ := List.nodup_cons.mp hn
    by_cases c : x.1 = n
    · have e1 : putM (x :: l) n v = (n, v) :: l := by
        unfold putM
        rw [if_pos (by simp [c])]
        rw [List.map_cons, if_pos c, c]
        congr 1
        refine (List.map_congr_left fun y hy => ?_).trans (List.map_id _)
        rw [if_neg (fun z => h1 (List.mem_map.mpr ⟨y, hy, z.trans c.symm⟩))]
        rfl
      have e2 : ((x :: l).filter fun x => x.1 != n) = l := by
        rw [List.filter_cons, if_neg (by simp [c])]
        refine List.filter_eq_self.mpr fun y hy => ?_
        have : y.1 ≠ n := fun z => h1 (List.mem_map.mpr ⟨y, hy, z.trans c.symm⟩)
        simpa using this
      rw [e1, e2]
      exact List.perm_append_singleton _ _
    · have e1 : putM (x :: l) n v = x :: putM l n v := by
        unfold putM
        rw [List.any_cons]
        have : decide (x.1 = n) = false := by simpa using c
        rw [this, Bool.false_or]
        by_cases d : (l.any fun x => decide (x.1 = n)) = true
        · rw [if_pos d, if_pos d, List.map_cons, if_neg c]
        · rw [if_neg d, if_neg d]
          rfl
      have e2 : ((x :: l).filter fun x => x.1 != n) = x :: l.filter fun x => x.1 != n := by
        rw [List.filter_cons, if_pos (by simpa using c)]
      rw [e1, e2]
      exact (put_perm n v h2).cons x
theorem rest_is (l : List (Nat × Nat)) (n : Nat) : (l.filter fun x => x.1 != n) = dropM l n := by
  unfold dropM
  refine List.filter_congr fun x _ => ?_
  by_cases c : x.1 = n <;> simp [c]
theorem rest_keys {l : List (Nat × Nat)} (n : Nat) (h : (l.map (·.1)).Nodup) : ((l.filter fun x => x.1 != n).map (·.1)).Nodup := List.Nodup.sublist (List.filter_sublist.map _) h
theorem put_keys {l : List (Nat × Nat)} (n v : Nat) (h : (l.map (·.1)).Nodup) : ((putM l n v).map (·.1)).Nodup := by
  refine (((put_perm n v h).map (·.1)).nodup_iff).mp ?_
  rw [List.map_append]
  refine List.nodup_append.mpr ⟨rest_keys n h, by simp, fun a ha b hb e => ?_⟩
  obtain ⟨y, hy, rfl⟩ := List.mem_map.mp ha
  have hb : b = n := by simpa using hb
  have := (List.mem_filter.mp hy).2
  simp [e, hb] at this
section
variable {k : Nat} {m : HM} {h : House}
theorem Sim.setMarks (s : Sim k m h) {l l' : List (Nat × Nat)} (p : l.Perm l') (hk : (l'.map (·.1)).Nodup) (hl : l'.length ≤ 64) : Sim (k + 1) { m with marks := l' } { h with marks := l } :=
  ⟨s.g, s.text, s.next, s.keys, s.nodes, s.row, s.order, s.tree, s.past, s.future, s.sum, s.firm, s.firms, p, hk, hl, s.good, s.lim, by have := s.names; show m.names.length ≤ _; omega, s.known⟩
theorem Sim.markC (s : Sim k m h) (n v : Nat) : Alike k m (markA m n v) (h.step (.mark n v)) := by
  unfold markA wantA
  show Alike k m _ (if Sq14.LARGE < v then (h, Sq14.says (-1)) else if h.keys.length ≤ n then (h, Sq14.says (-2)) else if (h.name n).isNone = true then (h, Sq14.says (-3)) else
    if v = 0 then ({ h with marks := h.marks.filter fun x => x.1 != n }, Sq14.says (h.marks.filter fun x => x.1 != n).length) else if Sq14.MARKS ≤ (h.marks.filter fun x => x.1 != n).length then (h, Sq14.says (-5)) else ({ h with marks := (h.marks.filter fun x => x.1 != n) ++ [(n, v)] }, Sq14.says ((h.marks.filter fun x => x.1 != n).length + 1 : Nat)))
  have ek : h.keys.length = m.names.length := by rw [s.keys]
  rw [ek]
  have eL : Sq14.LARGE = 1000000000000000000 := by decide
  rw [eL]
  by_cases c0 : 1000000000000000000 < v
  · rw [if_pos c0, if_pos c0]
    exact s.refuse _
  rw [if_neg c0, if_neg c0]
  by_cases c : m.names.length ≤ n
  · rw [if_pos c, if_pos c]
    exact s.refuse _
  rw [if_neg c, if_neg c]
  by_cases d : n ∈ m.order
  · rw [if_neg (fun z => z d)]
    obtain ⟨x, _, hn, _⟩ := s.name_some d
    have pr : (h.marks.filter fun x => x.1 != n).Perm (m.marks.filter fun x => x.1 != n) := s.marks.filter _
    have eo : others m.marks n = (h.marks.filter fun x => x.1 != n).length := by
      rw [pr.length_eq, rest_is]
      rfl
    rw [hn]
    have isn : ¬ (some (toNode x)).isNone = true := by simp
    rw [if_neg isn]
    show Alike k m (if v ≠ 0 ∧ 64 ≤ others m.marks n then .inl (-5) else .inr ({ m with marks := setMark m.marks n v }, [(setMark m.marks n v).length])) _
    by_cases v0 : v = 0
    · rw [if_neg (fun z => z.1 v0), if_pos v0]
      have es : setMark m.marks n v = m.marks.filter fun x => x.1 != n := by
        unfold setMark
        rw [if_pos v0, rest_is]
      rw [es]
      have l1 : (m.marks.filter fun x => x.1 != n).length ≤ 64 := Nat.le_trans (List.length_filter_le _ _) s.mlen
      refine ⟨s.setMarks pr (rest_keys n s.mkeys) l1, ?_⟩
      show [(((m.marks.filter fun x => x.1 != n).length : Nat) : Int)] = [(((h.marks.filter fun x => x.1 != n).length : Nat) : Int)]
      rw [pr.length_eq]
    · rw [if_neg v0]
      by_cases c2 : 64 ≤ others m.marks n
      · rw [if_pos ⟨v0, c2⟩, if_pos (show Sq14.MARKS ≤ _ by rw [← eo]; exact c2)]
        exact s.refuse _
      · rw [if_neg (fun z => c2 z.2), if_neg (show ¬ Sq14.MARKS ≤ _ by rw [← eo]; exact c2)]
        have es : setMark m.marks n v = putM m.marks n v := by
          unfold setMark
          rw [if_neg v0]
        rw [es]
        have pp : ((h.marks.filter fun x => x.1 != n) ++ [(n, v)]).Perm (putM m.marks n v) := (pr.append_right _).trans (put_perm n v s.mkeys)
        have pl := pp.length_eq
        rw [List.length_append, List.length_singleton] at pl
        refine ⟨s.setMarks pp (put_keys n v s.mkeys) (by rw [← pl, ← eo]; omega), ?_⟩
        show [(((putM m.marks n v).length : Nat) : Int)] = [((((h.marks.filter fun x => x.1 != n).length + 1 : Nat)) : Int)]
        rw [pl]
  · rw [if_pos d, s.name_none d]
    have isn : (none : Option Node).isNone = true := rfl
    rw [if_pos isn]
    exact s.refuse _
theorem filter_map_if {α β : Type} (p : α → Bool) (f : α → β) (g : α → Option β) : ∀ l : List α, (∀ x ∈ l, g x = if p x then some (f x) else none) → l.filterMap g = (l.filter p).map f
  | [], _ => rfl
  | x :: l, h => by
    have hx := h x List.mem_cons_self
    have ih := filter_map_if p f g l fun y hy => h y (List.mem_cons_of_mem _ hy)
    cases c : p x with
    | true =>
      rw [c, if_pos rfl] at hx
      rw [List.filterMap_cons, hx, List.filter_cons, if_pos c, List.map_cons, ← ih]
    | false =>
      rw [c, if_neg (by simp)] at hx
      rw [List.filterMap_cons, hx, List.filter_cons, if_neg (by rw [c]; simp), ← ih]
theorem Sim.marksC (s : Sim k m h) : Alike k m (marksA m) (h.step .marks) := by
  obtain ⟨L, hL⟩ : ∃ L, L = h.nodes.filterMap fun x => (h.marks.find? fun m => m.1 == h.nameAt x).map fun m => [m.1, m.2, x.i, x.n] := ⟨_, rfl⟩
  have key : L = (awakeOf m).map (markRow m) := by
    rw [hL, s.nodes, List.filterMap_map]
    have ea : awakeOf m = ((nodesOf m.tree).filter fun x => (markAt m.marks (h.nameAt (toNode x))).isSome).map fun x => h.nameAt (toNode x) := by
      unfold awakeOf
      have : m.order = (nodesOf m.tree).map fun x => h.nameAt (toNode x) := by
        rw [s.order]
        unfold Sq14.House.names
        rw [s.nodes, List.map_map]
        rfl
      rw [this, List.filter_map]
      rfl
    rw [ea, List.map_map]
    refine filter_map_if _ _ _ _ fun x hx => ?_
    obtain ⟨j, hj⟩ := List.getElem?_of_mem hx
    have hoj := s.names_at j
    rw [hj] at hoj
    have hoj : m.order[j]? = some (h.nameAt (toNode x)) := hoj
    have hjl := (List.getElem?_eq_some_iff.mp hoj)
    obtain ⟨jl, je⟩ := hjl
    have eidx : m.order.idxOf (h.nameAt (toNode x)) = j := by
      rw [← je]
      exact s.order_nodup.idxOf_getElem _ _
    have em : markAt m.marks (h.nameAt (toNode x)) = ((h.marks.find? fun m => m.1 == h.nameAt (toNode x))).map (·.2) := by
      rw [find_perm s.marks s.mkeys]
      unfold markAt
      congr 2
    show (h.marks.find? fun m => m.1 == h.nameAt (toNode x)).map (fun m => [m.1, m.2, (toNode x).i, (toNode x).n]) = if (markAt m.marks (h.nameAt (toNode x))).isSome = true then some (markRow m (h.nameAt (toNode x))) else none
    unfold markRow
    rw [eidx, hj, em]
    cases e : h.marks.find? fun m => m.1 == h.nameAt (toNode x) with
    | none => rfl
    | some y =>
      have hy : (y.1 == h.nameAt (toNode x)) = true := List.find?_some (p := fun m : Nat × Nat => m.1 == h.nameAt (toNode x)) e
      have hy : y.1 = h.nameAt (toNode x) := by simpa using hy
      show some [y.1, y.2, (toNode x).i, (toNode x).n] = some ([h.nameAt (toNode x), y.2] ++ [x.2.1, x.2.2.1 - x.2.1])
      rw [hy]
      rfl
  have z : Alike k m (.inr (m, (awakeOf m).length :: (m.marks.length - (awakeOf m).length) :: (awakeOf m).flatMap (markRow m))) (h, ⟨L.length, Sq14.ints (((h.marks.length - L.length) : Nat) :: L.flatten)⟩) := by
    refine s.same ?_
    have e1 : L.length = (awakeOf m).length := by rw [key, List.length_map]
    have e2 : L.flatten = (awakeOf m).flatMap (markRow m) := by rw [key]; rfl
    rw [e1, e2, s.marks.length_eq]
    rfl
  have e : h.step .marks = (h, ⟨L.length, Sq14.ints (((h.marks.length - L.length) : Nat) :: L.flatten)⟩) := by rw [hL]; rfl
  rw [e]
  exact z
end
end Gs
/-! # begin alike -/
namespace Gs
open Nt (Sign Rule Grammar Tree)
open Sq14 (Node House)
def toRule (x : NRule) : Rule := ⟨x.1, x.2.map Nt.signOf⟩
theorem signOf_inj {a b : Nat} (h : Nt.signOf a = Nt.signOf b) : a = b := by
  rw [← sign_number a, ← sign_number b, h]
theorem map_sign_inj : ∀ {l l' : List Nat}, l.map Nt.signOf = l'.map Nt.signOf → l = l'
  | [], [], _ => rfl
  | [], _ :: _, h => by simp at h
  | _ :: _, [], h => by simp at h
  | a :: l, b :: l', h => by
    rw [List.map_cons, List.map_cons] at h
    injection h with h1 h2
    rw [signOf_inj h1, map_sign_inj h2]
theorem toRule_inj {x y : NRule} (h : toRule x = toRule y) : x = y := by
  unfold toRule at h
  injection h with h1 h2
  exact Prod.ext h1 (map_sign_inj h2)
theorem gram_rules (n p : Nat) (rs : List NRule) : (gramOf n p rs).rules = rs.map toRule := rfl
/-- rules out of numbers: told alike, or the document's have one of a wrong length -/
theorem told_alike : ∀ (f : Nat) (ns : List Nat), ns.length ≤ f → (∀ rs, rulesTold ns = some rs → Nt.rulesOf f ns = some (rs.map toRule)) ∧ (rulesTold ns = none → Nt.rulesOf f ns = none ∨ ∃ R, Nt.rulesOf f ns = some R ∧ ∃ x ∈ R, ¬ (1 ≤ x.right.length ∧ x.right.length ≤ 8))
  | f, [], h => by
    refine ⟨fun rs e => ?_, fun e => ?_⟩
    · rw [rulesTold] at e
      cases e
      cases f <;> rfl
    · rw [rulesTold] at e
      cases e
  | f, [a], h => by
    refine ⟨fun rs e => ?_, fun e => .inl ?_⟩
    · rw [rulesTold] at e
      cases e
    · cases f <;> rfl
  | 0, p :: n :: l, h => by simp at h
  | f + 1, p :: n :: l, h => by
    have hl : (l.drop n).length ≤ f := by
      rw [List.length_drop]
      simp at h
      omega
    obtain ⟨i1, i2⟩ := told_alike f (l.drop n) hl
    have eN : Nt.rulesOf (f + 1) (p :: n :: l) = if l.length < n then none else (Nt.rulesOf f (l.drop n)).map fun x => ⟨p, (l.take n).map Nt.signOf⟩ :: x := rfl
    refine ⟨fun rs e => ?_, fun e => ?_⟩
    · rw [rulesTold] at e
      split at e
      · rename_i c
        cases e2 : rulesTold (l.drop n) with
        | none => rw [e2] at e; cases e
        | some r =>
          rw [e2] at e
          cases e
          rw [eN, if_neg (by omega), i1 r e2]
          rfl
      · cases e
    · rw [eN]
      by_cases c : l.length < n
      · rw [if_pos c]
        exact .inl rfl
      · rw [if_neg c]
        rw [rulesTold] at e
        by_cases d : 1 ≤ n ∧ n ≤ 8 ∧ n ≤ l.length
        · rw [if_pos d] at e
          have e2 : rulesTold (l.drop n) = none := by
            cases e3 : rulesTold (l.drop n) with
            | none => rfl
            | some r => rw [e3] at e; cases e
          rcases i2 e2 with z | ⟨R, hR, x, hx, hn⟩
          · rw [z]
            exact .inl rfl
          · rw [hR]
            exact .inr ⟨_, rfl, x, List.mem_cons_of_mem _ hx, hn⟩
        · cases e3 : Nt.rulesOf f (l.drop n) with
          | none => exact .inl rfl
          | some R =>
            refine .inr ⟨_, rfl, _, List.mem_cons_self, ?_⟩
            show ¬ (1 ≤ ((l.take n).map Nt.signOf).length ∧ ((l.take n).map Nt.signOf).length ≤ 8)
            rw [List.length_map, List.length_take]
            omega
theorem knows_sign (n p : Nat) (rs : List NRule) (s : Nat) : (gramOf n p rs).knows (Nt.signOf s) = signOk s n p := by
  unfold Nt.signOf signOk
  by_cases c : s < 64
  · rw [if_pos c, if_neg (by omega)]
    rfl
  · rw [if_neg c, if_pos (by omega)]
    show decide (s - 64 < p) = decide (s < 64 + p)
    by_cases d : s - 64 < p
    · rw [decide_eq_true d, decide_eq_true (by omega)]
    · rw [decide_eq_false d, decide_eq_false (by omega)]
theorem nodup_map {rs : List NRule} : (rs.map toRule).Nodup ↔ rs.Nodup := by
  unfold List.Nodup
  rw [List.pairwise_map]
  exact ⟨fun h => h.imp fun hne e => hne (by rw [e]), fun h => h.imp fun hne e => hne (toRule_inj e)⟩
theorem ok_is {n p : Nat} {rs : List NRule} (hc : countsOk n p = true) (hl : ∀ x ∈ rs, 1 ≤ x.2.length ∧ x.2.length ≤ 8) : (gramOf n p rs).ok = true ↔ rulesOk rs n p := by
  unfold countsOk at hc
  have hc := of_decide_eq_true hc
  unfold Nt.Grammar.ok rulesOk
  rw [gram_rules]
  simp only [Bool.and_eq_true, decide_eq_true_eq, List.all_eq_true, List.length_map, nodup_map]
  have e1 : (gramOf n p rs).words = n := rfl
  have e2 : (gramOf n p rs).parts = p := rfl
  rw [e1, e2]
  have W : Nt.WORDS = 64 := rfl
  have Pp : Nt.PARTS = 32 := rfl
  have Rr : Nt.RULES = 64 := rfl
  have Ll : Nt.LONG = 8 := rfl
  rw [W, Pp, Rr, Ll]
  constructor
  · rintro ⟨-, -, -, -, h5, h6, h7⟩
    refine ⟨h5, h6, fun x hx => ?_⟩
    obtain ⟨a, b, c, d⟩ := h7 (toRule x) (List.mem_map_of_mem hx)
    refine ⟨a, fun s hs => ?_⟩
    rw [← knows_sign n p rs]
    exact d (Nt.signOf s) (List.mem_map_of_mem hs)
  · rintro ⟨h5, h6, h7⟩
    refine ⟨hc.1, hc.2.1, hc.2.2.1, hc.2.2.2, h5, h6, fun y hy => ?_⟩
    obtain ⟨x, hx, rfl⟩ := List.mem_map.mp hy
    obtain ⟨a, b⟩ := h7 x hx
    have := hl x hx
    refine ⟨a, ?_, ?_, fun s hs => ?_⟩
    · show 1 ≤ (x.2.map Nt.signOf).length
      rw [List.length_map]
      exact this.1
    · show (x.2.map Nt.signOf).length ≤ 8
      rw [List.length_map]
      exact this.2
    · obtain ⟨s', hs', rfl⟩ := List.mem_map.mp hs
      rw [knows_sign]
      exact b s' hs'
theorem signOf_part {s q : Nat} (h : Nt.signOf s = .part q) : s = 64 + q := by
  have := sign_number s
  rw [h] at this
  exact this.symm
theorem part_sign (q : Nat) : Nt.signOf (64 + q) = .part q := by
  unfold Nt.signOf
  rw [if_neg (by omega), Nat.add_sub_cancel_left]
theorem alone_is {n p : Nat} {rs : List NRule} {a b : Nat} : b ∈ (gramOf n p rs).alone a ↔ AloneN rs a b := by
  rw [mem_alone, gram_rules]
  unfold AloneN
  constructor
  · rintro ⟨y, hy, h1, h2⟩
    obtain ⟨x, hx, rfl⟩ := List.mem_map.mp hy
    have h1 : x.1 = a := h1
    have h2 : x.2.map Nt.signOf = [.part b] := h2
    have e : x.2 = [64 + b] := map_sign_inj (by rw [h2, List.map_singleton, part_sign])
    rw [← h1, ← e]
    exact hx
  · intro h
    refine ⟨toRule (a, [64 + b]), List.mem_map_of_mem h, rfl, ?_⟩
    show [64 + b].map Nt.signOf = _
    rw [List.map_singleton, part_sign]
theorem reach_is {n p : Nat} {rs : List NRule} {a b : Nat} : Reach (gramOf n p rs) a b ↔ ReachN rs a b := by
  constructor
  · intro h
    induction h with
    | one h => exact .one (alone_is.mp h)
    | more h1 h2 ih => exact .more ih (alone_is.mp h2)
  · intro h
    induction h with
    | one h => exact .one (alone_is.mpr h)
    | more h1 h2 ih => exact .more ih (alone_is.mpr h2)
end Gs
/-! # begin, the first house, each call alike -/
namespace Gs
open Nt (Sign Rule Grammar Tree)
open Sq14 (Node House)
theorem fresh_sim (k : Nat) {g : Grammar} (G : Good g) (L : LimG g) : Sim k (HM.fresh g) { Sq14.fresh with g := g } := by
  have e : readT g [] = none := by
    unfold readT Sq14.firstOf
    rw [if_pos rfl]
    rfl
  have fb : FirmB 0 [] := ⟨List.nodup_nil, Nat.zero_le _, fun y hy => by cases hy⟩
  exact ⟨rfl, rfl, rfl, rfl, rfl, rfl, rfl, e.symm, rfl, rfl, Nat.zero_le _, fb, (fun t ht => by rcases ht with z | z <;> cases z), List.Perm.refl _, List.nodup_nil, Nat.zero_le _, G, L, Nat.zero_le _, fun x hx => by cases hx⟩
theorem good_is {n p : Nat} {rs : List NRule} (hc : countsOk n p = true) (hl : ∀ x ∈ rs, 1 ≤ x.2.length ∧ x.2.length ≤ 8) (hr : rulesOk rs n p) (hs : (gramOf n p rs).sound = true) : Good (gramOf n p rs) ∧ LimG (gramOf n p rs) := by
  have hc := of_decide_eq_true hc
  refine ⟨⟨fun r x hx e => ?_, fun x hx s hs => ?_, fun x hx => ?_, hc.2.2.1, hs⟩, ⟨hc.2.1, hc.2.2.2, ?_, fun x hx => ?_⟩⟩
  · obtain ⟨y, hy, rfl⟩ := List.mem_map.mp (List.mem_of_getElem? hx)
    have := hl y hy
    have e : y.2.map Nt.signOf = [] := e
    rw [List.map_eq_nil_iff.mp e] at this
    exact absurd this.1 (by simp)
  · obtain ⟨y, hy, rfl⟩ := List.mem_map.mp hx
    obtain ⟨s', hs', rfl⟩ := List.mem_map.mp hs
    rw [knows_sign]
    exact (hr.2.2 y hy).2 s' hs'
  · obtain ⟨y, hy, rfl⟩ := List.mem_map.mp hx
    exact (hr.2.2 y hy).1
  · rw [gram_rules, List.length_map]
    exact hr.1
  · obtain ⟨y, hy, rfl⟩ := List.mem_map.mp hx
    show (y.2.map Nt.signOf).length ≤ 8
    rw [List.length_map]
    exact (hl y hy).2
theorem first_sim : Sim 0 (HM.fresh ⟨1, 1, []⟩) Sq14.fresh := by
  have G : Good ⟨1, 1, []⟩ := {
    ne := fun r x hx => by simp at hx
    kn := fun x hx => (by cases hx)
    left := fun x hx => (by cases hx)
    parts := Nat.le_refl _
    sound := by decide }
  exact fresh_sim 0 G ⟨by decide, by decide, by decide, fun x hx => by cases hx⟩
section
variable {k : Nat} {m : HM} {h : House}
theorem sound_alike {n p : Nat} {rs : List NRule} (hc : countsOk n p = true) (hr : rulesOk rs n p) : (gramOf n p rs).sound = true ↔ ∀ q, q < p → ¬ ReachN rs q q := by
  have kn : Kn (gramOf n p rs) := fun a b hb => by
    have := alone_is.mp hb
    have := (hr.2.2 _ this).2 (64 + b) List.mem_cons_self
    unfold signOk at this
    rw [if_pos (by omega)] at this
    have := of_decide_eq_true this
    show b < p
    omega
  rw [sound_iff kn]
  constructor
  · exact fun z q hq c => z q hq (reach_is.mpr c)
  · exact fun z q hq c => z q hq (reach_is.mp c)
theorem Sim.beginC (s : Sim k m h) (n p : Nat) (ns : List Nat) : Alike k m (beginA n p ns) (h.step (.begin_ n p ns)) := by
  show Alike k m _ (if n = 0 ∨ Nt.WORDS < n ∨ p = 0 ∨ Nt.PARTS < p then (h, Sq14.says (-1)) else match Nt.rulesOf ns.length ns with
    | none => (h, Sq14.says (-3))
    | some rs => if (⟨n, p, rs⟩ : Grammar).ok = false then (h, Sq14.says (-3)) else if (⟨n, p, rs⟩ : Grammar).sound = false then (h, Sq14.says (-4)) else ({ Sq14.fresh with g := ⟨n, p, rs⟩ }, Sq14.says 0))
  have W : Nt.WORDS = 64 := rfl
  have Pp : Nt.PARTS = 32 := rfl
  rw [W, Pp]
  cases hc : countsOk n p with
  | false =>
    have c := of_decide_eq_false hc
    rw [beginA_counts hc, if_pos (by omega)]
    exact s.refuse _
  | true =>
    have c := of_decide_eq_true hc
    rw [if_neg (by omega)]
    obtain ⟨t1, t2⟩ := told_alike ns.length ns (Nat.le_refl _)
    cases e : rulesTold ns with
    | none =>
      rw [beginA_none hc e]
      rcases t2 e with z | ⟨R, hR, x, hx, hn⟩
      · rw [z]
        exact s.refuse _
      · rw [hR]
        have no : (⟨n, p, R⟩ : Grammar).ok = false := by
          cases z : (⟨n, p, R⟩ : Grammar).ok with
          | false => rfl
          | true =>
            exfalso
            unfold Nt.Grammar.ok at z
            simp only [Bool.and_eq_true, decide_eq_true_eq, List.all_eq_true] at z
            obtain ⟨-, -, -, -, -, -, z⟩ := z
            have := z x hx
            exact hn ⟨this.2.1, this.2.2.1⟩
        show Alike k m _ (if (⟨n, p, R⟩ : Grammar).ok = false then (h, Sq14.says (-3)) else _)
        rw [if_pos no]
        exact s.refuse _
    | some rs =>
      have hl := told_len e
      rw [t1 rs e]
      show Alike k m _ (if (gramOf n p rs).ok = false then (h, Sq14.says (-3)) else if (gramOf n p rs).sound = false then (h, Sq14.says (-4)) else ({ Sq14.fresh with g := gramOf n p rs }, Sq14.says 0))
      by_cases hr : rulesOk rs n p
      · have ok := (ok_is hc hl).mpr hr
        rw [if_neg (by rw [ok]; simp)]
        by_cases hs : ∀ q, q < p → ¬ ReachN rs q q
        · have so := (sound_alike hc hr).mpr hs
          rw [beginA_ok hc e hr hs, if_neg (by rw [so]; simp)]
          obtain ⟨G, L⟩ := good_is hc hl hr so
          exact ⟨fresh_sim _ G L, rfl⟩
        · have so : (gramOf n p rs).sound = false := by
            cases z : (gramOf n p rs).sound with
            | false => rfl
            | true => exact absurd ((sound_alike hc hr).mp z) hs
          rw [beginA_sound hc e hr hs, if_pos so]
          exact s.refuse _
      · have ok : (gramOf n p rs).ok = false := by
          cases z : (gramOf n p rs).ok with
          | false => rfl
          | true => exact absurd ((ok_is hc hl).mp z) hr
        rw [beginA_rules hc e hr, if_pos ok]
        exact s.refuse _
end
end Gs
/-! # each call alike; all calls alike -/
namespace Gs
open Nt (Sign Rule Grammar Tree)
open Sq14 (Node House)
/-- the call as the document's machine has it -/
def rawOf (c : CallN) : List (List Int) := ((c.p : Int) :: c.args.map fun (n : Nat) => (n : Int)) :: match c.lst with
  | none => []
  | some l => [l.map fun (n : Nat) => (n : Int)]
theorem toNat_ints (l : List Nat) : (l.map fun (n : Nat) => (n : Int)).map Int.toNat = l := by
  rw [List.map_map]
  exact (List.map_congr_left fun x _ => rfl).trans (List.map_id _)
section
variable {k : Nat} {m : HM} {h : House}
theorem step_by {A : Int ⊕ (HM × List Nat)} {q : Sq14.Call} {raw : List (List Int)} (e : Sq14Neutral.callOf raw = some q) (z : Alike k m A (h.step q)) : Sim (k + 1) (resOf m A).1 (Sq14Neutral.step h raw).1 ∧ (resOf m A).2 = (Sq14Neutral.step h raw).2 := by
  unfold Sq14Neutral.step
  rw [e]
  exact z
theorem call1 (x y : Nat) (l : List Nat) : Sq14Neutral.callOf [[1, (x : Int), (y : Int)], l.map fun (n : Nat) => (n : Int)] = some (.begin_ x y l) := by
  have : Sq14Neutral.callOf [[1, (x : Int), (y : Int)], l.map fun (n : Nat) => (n : Int)] = some (.begin_ x y ((l.map fun (n : Nat) => (n : Int)).map Int.toNat)) := rfl
  rw [this, toNat_ints]
theorem call2 (x y : Nat) (l : List Nat) : Sq14Neutral.callOf [[2, (x : Int), (y : Int)], l.map fun (n : Nat) => (n : Int)] = some (.edit x y l) := by
  have : Sq14Neutral.callOf [[2, (x : Int), (y : Int)], l.map fun (n : Nat) => (n : Int)] = some (.edit x y ((l.map fun (n : Nat) => (n : Int)).map Int.toNat)) := rfl
  rw [this, toNat_ints]
theorem step_alike (s : Sim k m h) {c : CallN} (hc : c.ok) : Sim (k + 1) (stepA m c).1 (Sq14Neutral.step h (rawOf c)).1 ∧ (stepA m c).2 = (Sq14Neutral.step h (rawOf c)).2 := by
  obtain ⟨p, args, lst⟩ := c
  obtain ⟨h1, h2, h3, h4⟩ := hc
  have h1 : 1 ≤ p := h1
  have h2 : p ≤ 11 := h2
  have h3 : args.length = sizes p := h3
  have h4 : lst.isSome = true ↔ p = 1 ∨ p = 2 := h4
  unfold stepA
  have nl : ¬ (p = 1 ∨ p = 2) → lst = none := fun z => by
    cases lst with
    | none => rfl
    | some l => exact absurd (h4.mp rfl) z
  have sl : (p = 1 ∨ p = 2) → ∃ l, lst = some l := fun z => by
    cases lst with
    | none => exact absurd (h4.mpr z) (by simp)
    | some l => exact ⟨l, rfl⟩
  have a0 : args.length = 0 → args = [] := fun z => List.eq_nil_of_length_eq_zero z
  have a1 : args.length = 1 → ∃ x, args = [x] := fun z => List.length_eq_one_iff.mp z
  have a2 : args.length = 2 → ∃ x y, args = [x, y] := fun z => match args, z with
    | [x, y], _ => ⟨x, y, rfl⟩
  have a3 : args.length = 3 → ∃ x y w, args = [x, y, w] := fun z => match args, z with
    | [x, y, w], _ => ⟨x, y, w, rfl⟩
  have cases_ : p = 1 ∨ p = 2 ∨ p = 3 ∨ p = 4 ∨ p = 5 ∨ p = 6 ∨ p = 7 ∨ p = 8 ∨ p = 9 ∨ p = 10 ∨ p = 11 := by omega
  rcases cases_ with rfl | rfl | rfl | rfl | rfl | rfl | rfl | rfl | rfl | rfl | rfl
  · obtain ⟨x, y, rfl⟩ := a2 h3
    obtain ⟨l, rfl⟩ := sl (.inl rfl)
    exact step_by (call1 x y l) (s.beginC x y l)
  · obtain ⟨x, y, rfl⟩ := a2 h3
    obtain ⟨l, rfl⟩ := sl (.inr rfl)
    exact step_by (call2 x y l) (s.edit x y l)
  · obtain ⟨x, y, w, rfl⟩ := a3 h3
    obtain rfl := nl (by omega)
    exact step_by (q := .move x y w) rfl (s.move x y w)
  · obtain rfl := a0 h3
    obtain rfl := nl (by omega)
    exact step_by (q := .undo) rfl s.undo
  · obtain rfl := a0 h3
    obtain rfl := nl (by omega)
    exact step_by (q := .redo) rfl s.redo
  · obtain rfl := a0 h3
    obtain rfl := nl (by omega)
    exact step_by (q := .tree) rfl s.treeC
  · obtain rfl := a0 h3
    obtain rfl := nl (by omega)
    exact step_by (q := .words) rfl s.wordsC
  · obtain ⟨x, rfl⟩ := a1 h3
    obtain rfl := nl (by omega)
    exact step_by (q := .node x) rfl (s.nodeC x)
  · obtain ⟨x, y, rfl⟩ := a2 h3
    obtain rfl := nl (by omega)
    exact step_by (q := .at_ x y) rfl (s.atC x y)
  · obtain ⟨x, y, rfl⟩ := a2 h3
    obtain rfl := nl (by omega)
    exact step_by (q := .mark x y) rfl (s.markC x y)
  · obtain rfl := a0 h3
    obtain rfl := nl (by omega)
    exact step_by (q := .marks) rfl s.marksC
theorem run_alike : ∀ (cs : List CallN) (k : Nat) (m : HM) (h : House), Sim k m h → (∀ c ∈ cs, c.ok) → runA m cs = PyFlat.played Sq14Neutral.step h (cs.map rawOf)
  | [], k, m, h, s, hc => rfl
  | c :: cs, k, m, h, s, hc => by
    obtain ⟨s1, e1⟩ := step_alike s (hc c List.mem_cons_self)
    show (stepA m c).2 :: runA (stepA m c).1 cs = (Sq14Neutral.step h (rawOf c)).2 :: PyFlat.played Sq14Neutral.step (Sq14Neutral.step h (rawOf c)).1 (cs.map rawOf)
    rw [e1, run_alike cs (k + 1) _ _ s1 fun d hd => hc d (List.mem_cons_of_mem _ hd)]
/-- the state behind some calls is that of the document -/
theorem state_alike : ∀ (cs : List CallN) (k : Nat) (m : HM) (h : House), Sim k m h → (∀ c ∈ cs, c.ok) → ∃ h', Sim (k + cs.length) (cs.foldl (fun m c => (stepA m c).1) m) h'
  | [], k, m, h, s, hc => ⟨h, s⟩
  | c :: cs, k, m, h, s, hc => by
    obtain ⟨s1, e1⟩ := step_alike s (hc c List.mem_cons_self)
    obtain ⟨h', z⟩ := state_alike cs (k + 1) _ _ s1 fun d hd => hc d (List.mem_cons_of_mem _ hd)
    refine ⟨h', ?_⟩
    rw [List.length_cons, show k + (cs.length + 1) = k + 1 + cs.length by omega]
    exact z
theorem answers_alike {cs : List CallN} (hc : ∀ c ∈ cs, c.ok) : answersA cs = PyFlat.told (PyFlat.played Sq14Neutral.step Sq14Neutral.start (cs.map rawOf)) := by
  unfold answersA
  rw [run_alike cs 0 _ _ first_sim hc]
  rfl
end
end Gs
/-! # the list handed in, as calls -/
namespace Gs
open Nt (Sign Rule Grammar Tree)
def asInts (l : List Nat) : List Int := l.map fun (n : Nat) => (n : Int)
theorem asInts_drop (l : List Nat) (n : Nat) : (asInts l).drop n = asInts (l.drop n) := by
  unfold asInts
  rw [List.map_drop]
theorem asInts_take (l : List Nat) (n : Nat) : (asInts l).take n = asInts (l.take n) := by
  unfold asInts
  rw [List.map_take]
theorem row_is {ns : List Nat} {x t : List Int} (h : PyFlat.row (asInts ns) = some (x, t)) : ∃ l r, ns = l.length :: l ++ r ∧ x = asInts l ∧ t = asInts r := by
  cases ns with
  | nil => cases h
  | cons n r =>
    have e : PyFlat.row (asInts (n :: r)) = if 0 ≤ ((n : Nat) : Int) ∧ ((n : Nat) : Int).toNat ≤ (asInts r).length then some ((asInts r).take ((n : Nat) : Int).toNat, (asInts r).drop ((n : Nat) : Int).toNat) else none := rfl
    rw [e] at h
    split at h
    · rename_i c
      have c2 := c.2
      unfold asInts at c2
      rw [Int.toNat_natCast, List.length_map] at c2
      rw [Int.toNat_natCast, asInts_take, asInts_drop] at h
      obtain ⟨h1, h2⟩ := Prod.mk.inj (Option.some.inj h)
      refine ⟨r.take n, r.drop n, ?_, h1.symm, h2.symm⟩
      rw [List.cons_append, List.take_append_drop, List.length_take, Nat.min_eq_left c2]
    · cases h
/-- how many numbers, how many lists a call has -/
theorem shape_is {p : Nat} {n k : Nat} (h : PySq14.shape (p : Int) = some (n, k)) : 1 ≤ p ∧ p ≤ 11 ∧ n = sizes p ∧ k = if p = 1 ∨ p = 2 then 1 else 0 := by
  have cs : p = 1 ∨ p = 2 ∨ p = 3 ∨ p = 4 ∨ p = 5 ∨ p = 6 ∨ p = 7 ∨ p = 8 ∨ p = 9 ∨ p = 10 ∨ p = 11 ∨ ¬ (1 ≤ p ∧ p ≤ 11) := by omega
  rcases cs with rfl | rfl | rfl | rfl | rfl | rfl | rfl | rfl | rfl | rfl | rfl | c
  · have e : PySq14.shape ((1 : Nat) : Int) = some (2, 1) := rfl
    rw [e] at h
    cases h
    exact ⟨by decide, by decide, rfl, rfl⟩
  · have e : PySq14.shape ((2 : Nat) : Int) = some (2, 1) := rfl
    rw [e] at h
    cases h
    exact ⟨by decide, by decide, rfl, rfl⟩
  · have e : PySq14.shape ((3 : Nat) : Int) = some (3, 0) := rfl
    rw [e] at h
    cases h
    exact ⟨by decide, by decide, rfl, rfl⟩
  · have e : PySq14.shape ((4 : Nat) : Int) = some (0, 0) := rfl
    rw [e] at h
    cases h
    exact ⟨by decide, by decide, rfl, rfl⟩
  · have e : PySq14.shape ((5 : Nat) : Int) = some (0, 0) := rfl
    rw [e] at h
    cases h
    exact ⟨by decide, by decide, rfl, rfl⟩
  · have e : PySq14.shape ((6 : Nat) : Int) = some (0, 0) := rfl
    rw [e] at h
    cases h
    exact ⟨by decide, by decide, rfl, rfl⟩
  · have e : PySq14.shape ((7 : Nat) : Int) = some (0, 0) := rfl
    rw [e] at h
    cases h
    exact ⟨by decide, by decide, rfl, rfl⟩
  · have e : PySq14.shape ((8 : Nat) : Int) = some (1, 0) := rfl
    rw [e] at h
    cases h
    exact ⟨by decide, by decide, rfl, rfl⟩
  · have e : PySq14.shape ((9 : Nat) : Int) = some (2, 0) := rfl
    rw [e] at h
    cases h
    exact ⟨by decide, by decide, rfl, rfl⟩
  · have e : PySq14.shape ((10 : Nat) : Int) = some (2, 0) := rfl
    rw [e] at h
    cases h
    exact ⟨by decide, by decide, rfl, rfl⟩
  · have e : PySq14.shape ((11 : Nat) : Int) = some (0, 0) := rfl
    rw [e] at h
    cases h
    exact ⟨by decide, by decide, rfl, rfl⟩
  · exfalso
    unfold PySq14.shape at h
    have ne : ∀ q : Nat, 1 ≤ q → q ≤ 11 → ¬ ((p : Nat) : Int) = (q : Int) := fun q h1 h2 e => c (by omega)
    rw [if_neg (show ¬ ((p : Nat) : Int) = 1 from ne 1 (by decide) (by decide))] at h
    rw [if_neg (show ¬ ((p : Nat) : Int) = 2 from ne 2 (by decide) (by decide))] at h
    rw [if_neg (show ¬ ((p : Nat) : Int) = 3 from ne 3 (by decide) (by decide))] at h
    rw [if_neg (show ¬ ((p : Nat) : Int) = 4 from ne 4 (by decide) (by decide))] at h
    rw [if_neg (show ¬ ((p : Nat) : Int) = 5 from ne 5 (by decide) (by decide))] at h
    rw [if_neg (show ¬ ((p : Nat) : Int) = 6 from ne 6 (by decide) (by decide))] at h
    rw [if_neg (show ¬ ((p : Nat) : Int) = 7 from ne 7 (by decide) (by decide))] at h
    rw [if_neg (show ¬ ((p : Nat) : Int) = 8 from ne 8 (by decide) (by decide))] at h
    rw [if_neg (show ¬ ((p : Nat) : Int) = 9 from ne 9 (by decide) (by decide))] at h
    rw [if_neg (show ¬ ((p : Nat) : Int) = 10 from ne 10 (by decide) (by decide))] at h
    rw [if_neg (show ¬ ((p : Nat) : Int) = 11 from ne 11 (by decide) (by decide))] at h
    cases h
theorem call_is {ns : List Nat} {c : List (List Int)} {t : List Int} (h : PyFlat.call PySq14.shape (asInts ns) = some (c, t)) : ∃ (d : CallN) (r : List Nat), ns = d.flat ++ r ∧ c = rawOf d ∧ t = asInts r ∧ d.ok := by
  cases ns with
  | nil => cases h
  | cons p r =>
    have e : PyFlat.call PySq14.shape (asInts (p :: r)) = match PySq14.shape (p : Int) with
      | none => none
      | some (n, k) => if (asInts r).length < n then none else match PyFlat.rows k ((asInts r).drop n) with
        | none => none
        | some (xs, t) => some ((((p : Nat) : Int) :: (asInts r).take n) :: xs, t) := rfl
    rw [e] at h
    cases es : PySq14.shape (p : Int) with
    | none => rw [es] at h; cases h
    | some nk =>
      obtain ⟨n, k⟩ := nk
      rw [es] at h
      have h : (if (asInts r).length < n then none else match PyFlat.rows k ((asInts r).drop n) with
        | none => none
        | some (xs, t) => some ((((p : Nat) : Int) :: (asInts r).take n) :: xs, t)) = some (c, t) := h
      obtain ⟨p1, p2, en, ek⟩ := shape_is es
      by_cases lt : (asInts r).length < n
      · rw [if_pos lt] at h
        cases h
      · rw [if_neg lt, asInts_drop, asInts_take] at h
        have len : (asInts r).length = r.length := List.length_map _
        rw [len] at lt
        by_cases c12 : p = 1 ∨ p = 2
        · rw [if_pos c12] at ek
          subst ek
          have e1 : PyFlat.rows 1 (asInts (r.drop n)) = match PyFlat.row (asInts (r.drop n)) with
            | none => none
            | some (x, s) => some ([x], s) := by
            show (match PyFlat.row (asInts (r.drop n)) with
              | none => none
              | some (x, s) => match (some ([], s) : Option (List (List Int) × List Int)) with
                | none => none
                | some (xs, t) => some (x :: xs, t)) = _
            cases PyFlat.row (asInts (r.drop n)) with
            | none => rfl
            | some y => rfl
          rw [e1] at h
          cases er : PyFlat.row (asInts (r.drop n)) with
          | none => rw [er] at h; cases h
          | some y =>
            obtain ⟨x, s⟩ := y
            rw [er] at h
            obtain ⟨l, r', h1, h2, h3⟩ := row_is er
            obtain ⟨g1, g2⟩ := Prod.mk.inj (Option.some.inj h)
            refine ⟨⟨p, r.take n, some l⟩, r', ?_, ?_, ?_, p1, p2, ?_, ?_⟩
            · show p :: r = (p :: r.take n ++ (l.length :: l)) ++ r'
              rw [List.cons_append, List.cons_append, List.append_assoc, ← h1, List.take_append_drop]
            · rw [← g1, h2]
              rfl
            · rw [← g2, h3]
            · show (r.take n).length = sizes p
              rw [List.length_take, ← en]
              omega
            · exact ⟨fun _ => c12, fun _ => rfl⟩
        · rw [if_neg c12] at ek
          subst ek
          obtain ⟨g1, g2⟩ := Prod.mk.inj (Option.some.inj h)
          refine ⟨⟨p, r.take n, none⟩, r.drop n, ?_, ?_, ?_, p1, p2, ?_, ?_⟩
          · show p :: r = (p :: r.take n ++ []) ++ r.drop n
            rw [List.append_nil, List.cons_append, List.take_append_drop]
          · rw [← g1]
            rfl
          · exact g2.symm
          · show (r.take n).length = sizes p
            rw [List.length_take, ← en]
            omega
          · exact ⟨fun z => (by cases z), fun z => absurd z c12⟩
theorem calls_is : ∀ (f : Nat) (ns : List Nat) (raw : List (List (List Int))), PyFlat.calls PySq14.shape f (asInts ns) = some raw → ∃ cs : List CallN, ns = cs.flatMap CallN.flat ∧ raw = cs.map rawOf ∧ ∀ c ∈ cs, c.ok
  | f, [], raw, h => by
    have : raw = [] := by
      cases f <;> exact (Option.some.inj h).symm
    subst this
    exact ⟨[], rfl, rfl, fun c hc => by cases hc⟩
  | 0, p :: r, raw, h => by cases h
  | f + 1, p :: r, raw, h => by
    have e : PyFlat.calls PySq14.shape (f + 1) (asInts (p :: r)) = match PyFlat.call PySq14.shape (asInts (p :: r)) with
      | none => none
      | some (c, t) => match PyFlat.calls PySq14.shape f t with
        | none => none
        | some cs => some (c :: cs) := rfl
    rw [e] at h
    cases ec : PyFlat.call PySq14.shape (asInts (p :: r)) with
    | none => rw [ec] at h; cases h
    | some y =>
      obtain ⟨c, t⟩ := y
      rw [ec] at h
      have h : (match PyFlat.calls PySq14.shape f t with
        | none => none
        | some cs => some (c :: cs)) = some raw := h
      obtain ⟨d, r', h1, h2, h3, h4⟩ := call_is ec
      cases eq : PyFlat.calls PySq14.shape f t with
      | none => rw [eq] at h; cases h
      | some cs =>
        rw [eq] at h
        rw [h3] at eq
        obtain ⟨ds, g1, g2, g3⟩ := calls_is f r' cs eq
        refine ⟨d :: ds, ?_, ?_, fun c hc => ?_⟩
        · rw [h1, g1, List.flatMap_cons]
        · have := Option.some.inj h
          rw [← this, h2, g2]
          rfl
        · rcases List.mem_cons.mp hc with z | z
          · rw [z]
            exact h4
          · exact g3 c z
theorem whole_id (c : List (List Int)) : PySq14.whole c = c := by
  unfold PySq14.whole
  split <;> rfl
/-- what is handed in, as calls; what is due -/
theorem asked_is {ns : List Nat} (h : PySq14.answers_asked (asInts ns) = true) : ∃ cs : List CallN, ns = cs.flatMap CallN.flat ∧ (∀ c ∈ cs, c.ok) ∧ (∀ c ∈ cs, ∀ l, c.lst = some l → l.length ≤ 1024) ∧ cs.length ≤ 120 ∧ PySq14.answers (asInts ns) = answersA cs ∧ (answersA cs).length ≤ 10000000 := by
  unfold PySq14.answers_asked at h
  cases e : PyFlat.calls PySq14.shape (asInts ns).length (asInts ns) with
  | none => rw [e] at h; cases h
  | some raw =>
    rw [e] at h
    have h : (!raw.isEmpty && PyFlat.atMost 120 raw && PyInside.calls PySq14.bound raw && Sq14Neutral.asked (raw.map PySq14.whole) && PyFlat.short 10000000 (PySq14.answers (asInts ns))) = true := h
    simp only [Bool.and_eq_true] at h
    obtain ⟨⟨⟨⟨_, h2⟩, h3⟩, _⟩, h5⟩ := h
    obtain ⟨cs, g1, g2, g3⟩ := calls_is _ ns raw e
    have ew : raw.map PySq14.whole = cs.map rawOf := by
      rw [g2, List.map_map]
      exact List.map_congr_left fun c _ => whole_id _
    have ea : PySq14.answers (asInts ns) = answersA cs := by
      rw [answers_alike g3]
      unfold PySq14.answers PySq14.calls
      rw [e]
      show PyFlat.told (PyFlat.played Sq14Neutral.step Sq14Neutral.start (raw.map PySq14.whole)) = _
      rw [ew]
    refine ⟨cs, g1, g3, fun c hc l hl => ?_, ?_, ea, ?_⟩
    · unfold PyInside.calls at h3
      rw [g2, List.all_map, List.all_eq_true] at h3
      have h3 := h3 c hc
      have h3 : PyInside.call PySq14.bound (rawOf c) = true := h3
      obtain ⟨p, args, lst⟩ := c
      have hl : lst = some l := hl
      subst hl
      have p12 : p = 1 ∨ p = 2 := (g3 _ hc).2.2.2.mp rfl
      unfold PyInside.call rawOf at h3
      have h3 : (PyInside.each (PySq14.bound (p : Int)).1 (args.map fun (n : Nat) => (n : Int)) && PyInside.lists (PySq14.bound (p : Int)).2 [l.map fun (n : Nat) => (n : Int)]) = true := h3
      rw [Bool.and_eq_true] at h3
      have h3 := h3.2
      have eb : (PySq14.bound (p : Int)).2 = [(0, 18446744073709551615, 0, 1024)] := by
        rcases p12 with rfl | rfl <;> rfl
      rw [eb] at h3
      unfold PyInside.lists at h3
      simp only [Bool.and_eq_true, decide_eq_true_eq, List.length_map] at h3
      exact h3.1.1.2
    · unfold PyFlat.atMost at h2
      have := of_decide_eq_true h2
      rw [g2, List.length_map] at this
      exact this
    · unfold PyFlat.short at h5
      rw [ea] at h5
      exact of_decide_eq_true h5
/-- the states on the way -/
theorem states_fit {cs : List CallN} (hc : ∀ c ∈ cs, c.ok) (hl : cs.length ≤ 120) (i : Nat) : HM.Fit ((cs.take i).foldl (fun m c => (stepA m c).1) (HM.fresh ⟨1, 1, []⟩)) ∧ Tidy ((cs.take i).foldl (fun m c => (stepA m c).1) (HM.fresh ⟨1, 1, []⟩)) := by
  obtain ⟨h', s⟩ := state_alike (cs.take i) 0 _ _ first_sim fun c h => hc c (List.mem_of_mem_take h)
  have : 0 + (cs.take i).length ≤ 400 := by
    rw [List.length_take]
    omega
  exact ⟨s.fit this, s.tidy⟩
end Gs
/-! # Rules of my own, first part: enumerate of a tuple; xs != []; a local that is one of several defs that may raise -/
namespace Gr
open PySem PySem.Spec PyProof.Rows L2

/-! ### enumerate(t), t a tuple -/
def IteT (K : PySem.W.Frag) (a : Addr) : It :=
  ⟨fun i H => ∃ (xs : List V) (x : V), SqT K H a xs ∧ xs[i]? = some x, fun i H v H' => ∃ T x, v = .ref T ∧ H T = none ∧ H' = upd H T (.tup [.int (i : Nat), x]) ∧ ∀ xs, SqT K H a xs → xs[i]? = some x, fun i H => ∃ xs : List V, SqT K H a xs ∧ xs.length = i⟩
theorem tup_ne_enum {h : Heap} {a e it : Addr} {its : Array Value} {i : Int} {old : Value} (p : IsTup h a its) (q : IsEnum h e it i old) : e ≠ a := by
  rintro rfl
  obtain ⟨o, ho, _, n, hd⟩ := p
  have z := ho.symm.trans q
  have z := Option.some.inj z
  rw [z] at hd
  cases hd
theorem tup_ne_iter {h : Heap} {a it : Addr} {its : Array Value} {i : Nat} (p : IsTup h a its) (q : h.IsTupleIter it a i) : a ≠ it := by
  rintro rfl
  obtain ⟨o, ho, _, n, hd⟩ := p
  obtain ⟨o', ho', _, hd'⟩ := q
  rw [ho] at ho'
  cases ho'
  rw [hd] at hd'
  cases hd'
theorem turn_enumT {P : Program} {w : World} {K : PySem.W.Frag} {elts : List Expr} {kk : Nat} {tpos : Pos} (a e it : Addr) :
    Turn P w K (.Tuple elts kk tpos) (IteT K a) [e, it] e (fun i h => (∃ old, IsEnum h e it ((i : Nat) : Int) old) ∧ h.IsTupleIter it a i ∧ e ≠ it) where
  mem := by simp
  obj := fun i h st b hb => by
    obtain ⟨⟨old, he⟩, ⟨o, ho, hc, hd⟩, _⟩ := st
    rcases List.mem_cons.mp hb with z | z
    · subst z; exact ⟨_, he, fun v q => nomatch q⟩
    · obtain rfl : b = it := by simpa using z
      exact ⟨o, ho, fun v q => by rw [hd] at q; cases q⟩
  keep := fun i h h' st k => ⟨⟨st.1.choose, k e (by simp) _ st.1.choose_spec⟩, st.2.1.at fun o q => k it (by simp) o q, st.2.2⟩
  item := by
    intro X hP hw hK hc i pins s σ H E I hf st hg
    subst hP hw hK
    obtain ⟨⟨old, he⟩, hit, hne⟩ := st
    obtain ⟨xs, x, hq, hx⟩ := hg
    obtain ⟨its, rv, p, hz⟩ := I.tuple hq
    obtain ⟨u, hu, ru⟩ := rv.get hx
    have hel : e < s.heap.objs.size := Heap.lt_size he
    have hil : it < s.heap.objs.size := by obtain ⟨_, q, _⟩ := hit; exact Heap.lt_size q
    have hi : i < its.toArray.size := by
      have := (List.getElem?_eq_some_iff.mp hu).1
      simpa using this
    have hea := tup_ne_enum p he
    have hai := tup_ne_iter p hit
    refine wpAny_pyNext_enum_itemD (Draws.tuple (A := X.A.in1) (I.ok.hd hc) it a hai its.toArray) he ⟨hit, p⟩ hi hne (by simp [hne, hea]) fun v h' tk hv ho hit' hT hsz hk => ?_
    obtain rfl : v = u := by
      have e1 : its[i]? = some v := by simpa using hv
      exact Option.some.inj (e1.symm.trans hu)
    refine ⟨_, rfl, wpAny_letOwnedTupleGo_enum (s := { s with heap := h', toks := tk + 1 }) ho fun h'' he' sb => ?_⟩
    have hT2 : h''.get? s.heap.objs.size = some { cls := .type "tuple", data := .seq #[.int i tk, v] } := (sb.2 _ (Nat.ne_of_gt hel)).trans hT
    have new : ObjOk X.prog X.w (upd H s.heap.objs.size (.tup [.int (i : Nat), x])) h'' s.heap.objs.size (.tup [.int (i : Nat), x]) :=
      ⟨by show 2 ≤ sizeLine; decide, [.int i tk, v], .cons ⟨_, rfl⟩ (.cons ru .nil), ⟨_, hT2, rfl, _, rfl⟩⟩
    have I1 : Inv X pins σ (upd H s.heap.objs.size (.tup [.int (i : Nat), x])) { s with heap := h'', toks := tk + 1 } :=
      I.turnedNew (ch := [e, it]) (fun b ob hb q => (sb.2 b fun z => hb (by simp [z])).trans (hk b ob (fun z => hb (by simp [z])) (fun z => hb (by simp [z])) q)) hf (Nat.le_refl _) new
    refine ⟨.ref s.heap.objs.size, _, I1, rfl, ⟨_, x, rfl, I.hok.fresh (Nat.le_refl _), rfl, fun ys hy => by rw [I.tuple_inj hy hq]; exact hx⟩, ⟨⟨v, ?_⟩, hit'.1.at fun o q => (sb.2 it (Ne.symm hne)).trans q, hne⟩, fun b hb => ?_⟩
    · rw [show ((i + 1 : Nat) : Int) = (i : Int) + 1 by omega]; exact he'
    · have hb' : b < s.heap.objs.size := by
        rcases List.mem_cons.mp hb with z | z
        · subst z; exact hel
        · obtain rfl : b = it := by simpa using z
          exact hil
      rw [upd_ne (Nat.ne_of_lt hb')]
      exact (hf b hb).1
  done := by
    intro X hP hw hK hc i pins s σ H E I hf st hg
    subst hP hw hK
    obtain ⟨⟨old, he⟩, hit, hne⟩ := st
    obtain ⟨xs, hq, hx⟩ := hg
    obtain ⟨its, rv, p, hz⟩ := I.tuple hq
    obtain ⟨f0, f1, f2, f3, f4, f5⟩ := hf it (by simp)
    have hl := rv.length
    have hai := tup_ne_iter p hit
    have e : i = its.toArray.size := by simp; omega
    refine wpAny_pyNext_enum_endD (n := its.toArray.size) (Draws.tuple (A := X.A.in1) (I.ok.hd hc) it a hai its.toArray) he ⟨by rw [← e]; exact hit, p⟩ fun h' eb => ⟨rfl, I.turned (t' := s.toks) (fun b o hb q => eb b o hb q) f0 f1 f3 f4 f5⟩
  self := fun A i s Q E st h => wpAny_pyIter_enum st.1.choose_spec h
/-- enumerate(v) is made, v told by what its iterator is at first -/
theorem meets_enum1 {v : Value} {o : Obj} {G : Heap → Prop} (B : Begins v o G) :
    Meets (Builtin.«enumerate.__new__» ⟨[.type "enumerate", v], []⟩) (fun _ R s => G s.heap ∧
      R (.ok (.ret (.ref (s.heap.push o).objs.size))) { s with heap := (s.heap.push o).push { cls := .type "enumerate", data := .fields #[.none, .bool false, .ref s.heap.objs.size, rawInt 0, .none, .none] } }) :=
  .of_wp fun prog w A R s h => by
    obtain ⟨hp, g, d, tk, os⟩ := s
    obtain ⟨h1, h⟩ := h
    have hsub := sub_enumerate
    have it : ∀ {A' : Around} {E : Value → Shared → Prop} {Q : Value → Shared → Prop}, Q (.ref hp.objs.size) ⟨hp.push o, g, d, tk, os⟩ → wpAny (model prog w) A' (pyIter v) Q E ⟨hp, g, d, tk, os⟩ := fun q => B.iter prog w _ _ ⟨hp, g, d, tk, os⟩ _ h1 q
    wp_walk using it
    refine wpAny_stack_any fun st => wpAny_pure ?_
    split
    · rename_i c _ _ _ _ _
      cases (c == Value.type "enumerate") <;> (wp_walk using it; exact ⟨_, rfl, h⟩)
    · wp_walk using it
      exact ⟨_, rfl, h⟩
section
variable {prog : Program} {w : World} {A : Around} {E : Value → Shared → Prop} {s : Shared}
theorem call_enumT {a : Addr} {its : Array Value} {Q : Value → Shared → Prop} (hT : s.heap.IsTuple a its)
    (h : ∀ h', IsEnum h' (s.heap.objs.size + 1) s.heap.objs.size 0 .none → h'.IsTupleIter s.heap.objs.size a 0 → (∀ b o, s.heap.get? b = some o → h'.get? b = some o) → Q (.ref (s.heap.objs.size + 1)) { s with heap := h' }) :
    wpAny (model prog w) A (call (.type "enumerate") [.ref a]) Q E s := by
  refine callType_new F.called_enumerate (by decide) (F.typeCall_enumerate_1 _) (F.newCall_enumerate_1 _) (fun obj => F.args_object_init_2 obj _) F.entry_enumerate_new (meets_enum1 (begins_tuple a its)) ⟨hT, ?_⟩
  have hz : (s.heap.push { cls := .type "tuple_iterator", data := .fields #[.ref a, .int 0 0] }).objs.size = s.heap.objs.size + 1 := Heap.size_push ..
  have he : IsEnum ((s.heap.push { cls := .type "tuple_iterator", data := .fields #[.ref a, .int 0 0] }).push { cls := .type "enumerate", data := .fields #[.none, .bool false, .ref s.heap.objs.size, rawInt 0, .none, .none] }) (s.heap.objs.size + 1) s.heap.objs.size 0 .none := by
    have q := Heap.get?_push_size (s.heap.push { cls := .type "tuple_iterator", data := .fields #[.ref a, .int 0 0] }) (o := { cls := .type "enumerate", data := .fields #[.none, .bool false, .ref s.heap.objs.size, rawInt 0, .none, .none] }) rfl
    rw [hz] at q
    exact q
  show _ ∧ _
  rw [hz]
  exact ⟨⟨_, he, rfl⟩, h _ he ⟨_, Heap.get?_push_of_some _ (Heap.get?_push_size _ rfl), rfl, rfl⟩ fun b o x => Heap.get?_push_of_some _ (Heap.get?_push_of_some _ x)⟩
end
def iEnumT (K : PySem.W.Frag) (ta : TA) : TI := fun σ H R => ta σ H fun vs H1 => ∃ a xs, vs = [.ref a] ∧ SqT K H1 a xs ∧ R (IteT K a) H1
theorem pi_enumT {X : Cx} {e : Expr} {ta : TA} {p pos tpos : Pos} {elts : List Expr} {kk : Nat} (hg : Gl X "enumerate") (hm : X.mg "enumerate" = none) (ha : PA X [e] ta) (hs : starEach [e] X.env = [(false, eval e X.env)] := by rfl) :
    PI X (.Tuple elts kk tpos) (.Call (.Name "enumerate" p) [e] [] pos) (iEnumT X.K ta) := by
  refine ⟨fun pins s σ H R I h => ?_⟩
  refine Call_ (ld_blt I hg hm boot_enumerate (PyProof.Rows.callWith_type1 (thn (ha.run pos pins s σ H _ I h) fun us s1 ⟨vs, H1, I1, r1, q1⟩ => ?_) hs rfl))
  obtain ⟨a, xs, rfl, hq, q⟩ := q1
  obtain ⟨u, rfl, rx⟩ := vals1 r1
  cases rx
  obtain ⟨its, rv, p', hz⟩ := I1.tuple hq
  refine call_enumT (show s1.heap.IsTuple a its.toArray from p') fun h' he hit hk => wpAny_pyIter_enum he ?_
  have I2 : Inv X pins σ H1 { s1 with heap := h' } := I1.kept (t' := s1.toks) hk
  refine ⟨s1.heap.objs.size + 1, [s1.heap.objs.size + 1, s1.heap.objs.size], _, _, H1, rfl, I2, turn_enumT a (s1.heap.objs.size + 1) s1.heap.objs.size, ⟨⟨.none, he⟩, hit, Nat.succ_ne_self _⟩, fun b hb => ?_, q⟩
  have hle : s1.heap.objs.size ≤ b := by
    rcases List.mem_cons.mp hb with z | z
    · rw [z]; exact Nat.le_add_right _ _
    · rw [List.mem_singleton.mp z]; exact Nat.le_refl _
  exact I1.fpOk hle (I1.hok.fresh hle)

/-! ### xs != [] -/
/-- a list against an empty one -/
def rNeE (K : PySem.W.Frag) : R2 := fun x y H Q => ∃ a b xs, x = .ref a ∧ y = .ref b ∧ SqL K H a xs ∧ SqL K H b [] ∧ Q (.bl (!xs.isEmpty)) H
theorem op_neE {X : Cx} (hu : X.A.units < cLine) : OpR X (compareOp .NotEq) (rNeE X.K) := by
  intro pins s σ H x y v u Q I rx ry h
  obtain ⟨a, b, xs, rfl, rfl, ha, hb, q⟩ := h
  cases rx
  cases ry
  obtain ⟨its, rv, p, _⟩ := I.list ha
  obtain ⟨its2, rv2, p2, _⟩ := I.list hb
  cases rv2
  show wpAny _ _ (richCompare .NotEq (.ref a) (.ref b)) _ _ s
  cases rv with
  | nil =>
    refine SeqAt.RcNeAt.lists (e := fun _ => true) p.isList p2.isList rfl hu (fun j h1 h2 => absurd h1 (by simp)) X.prog X.w _ _ ⟨.bl _, H, I, ?_, q⟩
    rfl
  | cons r t => exact SeqAt.RcNeAt.lists_lengths p.isList p2.isList (by simp) hu X.prog X.w _ _ ⟨.bl _, H, I, rfl, q⟩
end Gr
/-! # Rules of my own, second part: a dict whose keys are (whole number, tuple of whole numbers), its values whole numbers -/
namespace Gr
open PySem PySem.Spec PyProof.Rows L2

/-- a number that is not negative, as a value, as a key -/
abbrev vN (n : Nat) : V := V.int (n : Int)
abbrev kN (n : Nat) : NestedKey := NestedKey.num (n : Int)
abbrev NKey := Nat × List Nat
def nk (k : NKey) : NestedKey := .tup [.num k.1, .tup (k.2.map kN)]
theorem nums_inj : ∀ {a b : List Nat}, a.map kN = b.map kN → a = b
  | [], [], _ => rfl
  | [], _ :: _, h => by cases h
  | _ :: _, [], h => by cases h
  | x :: a, y :: b, h => by
    injection h with h1 h2
    injection h1 with h1
    rw [nums_inj h2, Int.ofNat.inj h1]
theorem nk_inj {a b : NKey} (h : nk a = nk b) : a = b := by
  unfold nk at h
  injection h with h
  injection h with h1 h2
  injection h1 with h1
  injection h2 with h2 _
  injection h2 with h2
  exact Prod.ext (Int.ofNat.inj h1) (nums_inj h2)
abbrev NEs := List (NestedKey × Addr × Value)
def rawD (P : Program) (w : World) (d : Addr) (xs : NEs) : Heap → Prop := fun h => ∃ o es ep, h.get? d = some o ∧ o.ExactDict ∧ o.data = .dict es ep ∧ es.toList = xs.map (entryOfKey (nestedKind P w)) ∧ (xs.map (·.1)).Nodup
/-- the dict at d, as what is true of its own object -/
def nmO (P : Program) (w : World) (d : Addr) (xs : NEs) : HO := .ext (rawD P w d xs)
/-- the tuple at a is the key k -/
def KeyAt (H : Hp) (k : NKey) (a : Addr) : Prop := ∃ b, H a = some (.tup [.int k.1, .ref b]) ∧ H b = some (.tup (k.2.map vN))
/-- the dict at d has the keys ks, the i-th with value i -/
def NamesAt (P : Program) (w : World) (H : Hp) (d : Addr) (ks : List NKey) : Prop := ∃ xs : NEs, H d = some (nmO P w d xs) ∧ ks.length ≤ sizeLine ∧ (d == sysModules) = false ∧ xs.map (·.1) = ks.map nk ∧
  (∀ (i : Nat) (x : NestedKey × Addr × Value), xs[i]? = some x → ∃ t, x.2.2 = Value.int ((i : Nat) : Int) t) ∧ ∀ (i : Nat) (x : NestedKey × Addr × Value) (k : NKey), xs[i]? = some x → ks[i]? = some k → KeyAt H k x.2.1
theorem KeyAt.mono {H H' : Hp} {k : NKey} {a : Addr} (h : KeyAt H k a) (t : ∀ b xs, H b = some (.tup xs) → H' b = some (.tup xs)) : KeyAt H' k a := by
  obtain ⟨b, h1, h2⟩ := h
  exact ⟨b, t _ _ h1, t _ _ h2⟩
theorem NamesAt.mono {P : Program} {w : World} {H H' : Hp} {d : Addr} {ks : List NKey} (h : NamesAt P w H d ks) (hd : ∀ o, H d = some o → H' d = some o) (t : ∀ b xs, H b = some (.tup xs) → H' b = some (.tup xs)) : NamesAt P w H' d ks := by
  obtain ⟨xs, h1, h2, h3, h4, h5, h6⟩ := h
  exact ⟨xs, hd _ h1, h2, h3, h4, h5, fun i x k a b => (h6 i x k a b).mono t⟩
theorem raw_ok {P : Program} {w : World} {H : Hp} {h : Heap} {d : Addr} {xs : NEs} (r : rawD P w d xs h) : ObjOk P w H h d (nmO P w d xs) := by
  obtain ⟨o, es, ep, ho, r⟩ := id r
  exact ⟨⟨o, es, ep, ho, r⟩, ⟨o, ho⟩, fun h1 h2 ⟨o, es, ep, e, z⟩ k => ⟨o, es, ep, k o e, z⟩⟩
theorem ints_nested {h : Heap} : ∀ {ns : List Nat} {its : List Value}, Vals (ns.map vN) its → NestedAll h (ns.map kN) its
  | [], _, r => by cases r; exact .nil
  | n :: ns, _, r => by
    cases r with
    | cons a b =>
      obtain ⟨t, rfl⟩ := a
      exact .cons (.int _ t) (ints_nested b)
theorem depth_nums : ∀ ns : List Nat, NestedKey.depthAll (ns.map kN) = 0
  | [] => rfl
  | n :: ns => by
    rw [List.map_cons, NestedKey.depthAll, depth_nums ns]
    simp [NestedKey.depth]
section
variable {X : Cx} {pins : List (Addr × Obj)} {σ : L2.St} {H : Hp} {s : Shared} {a d : Addr} {k : NKey} {ks : List NKey}
theorem key_is (I : Inv X pins σ H s) (h : KeyAt H k a) : (nestedKind X.prog X.w).is s.heap (nk k) a := by
  obtain ⟨b, h1, h2⟩ := h
  obtain ⟨_, its, r1, o1, e1, c1, n1, d1⟩ := I.hok a _ h1
  obtain ⟨_, its2, r2, o2, e2, c2, n2, d2⟩ := I.hok b _ h2
  refine ⟨?_, ?_⟩
  · cases r1 with
    | cons ra rb =>
      obtain ⟨t, rfl⟩ := ra
      cases rb with
      | cons rc rd =>
        cases rd
        cases rc
        exact .tup e1 c1 d1 (.cons (.int _ t) (.cons (.tup e2 c2 d2 (ints_nested r2)) .nil))
  · simp [nk, NestedKey.depth, NestedKey.depthAll, depth_nums]
theorem names_of (I : Inv X pins σ H s) {xs : NEs} (hx : H d = some (nmO X.prog X.w d xs)) (h1 : xs.map (·.1) = ks.map nk) (h2 : ∀ (i : Nat) (x : NestedKey × Addr × Value) (k : NKey), xs[i]? = some x → ks[i]? = some k → KeyAt H k x.2.1) : s.heap.DictOfH (nestedKind X.prog X.w) d xs := by
  obtain ⟨⟨o, es, ep, e1, e2, e3, e4, e5⟩, _, _⟩ := I.hok d _ hx
  refine ⟨o, es, ep, e1, e2, e3, e4, fun x hm => ?_, e5⟩
  obtain ⟨i, hi, e⟩ := List.getElem_of_mem hm
  have hxi : xs[i]? = some x := by rw [List.getElem?_eq_getElem hi, e]
  have hki : (ks.map nk)[i]? = some x.1 := by rw [← h1, List.getElem?_map, hxi]; rfl
  rw [List.getElem?_map] at hki
  cases hk : ks[i]? with
  | none => rw [hk] at hki; cases hki
  | some k =>
    rw [hk] at hki
    have := Option.some.inj hki
    rw [← this]
    exact key_is I (h2 i x k hxi hk)
theorem NamesAt.dict (I : Inv X pins σ H s) (h : NamesAt X.prog X.w H d ks) : s.TypeIs (.ref d) "dict" ∧ (∀ b, Value.ref d = .ref b → ∃ ob, s.heap.get? b = some ob ∧ ob.dict = none) := by
  obtain ⟨xs, h1, h2, h3, h4, h5, h6⟩ := h
  have hm := names_of I h1 h4 h6
  refine ⟨hm.typeIs, fun b q => ?_⟩
  cases q
  obtain ⟨ob, _, _, e1, e2, _⟩ := hm
  exact ⟨ob, e1, e2.2.1⟩
/-- what is found at a key -/
theorem at_key {xs : NEs} (h1 : xs.map (·.1) = ks.map nk) (hn : (xs.map (·.1)).Nodup) {i : Nat} {x : NestedKey × Addr × Value} (hx : xs[i]? = some x) (hk : ks[i]? = some k) : atKey xs (nk k) = some x.2 := by
  have e : x.1 = nk k := by
    have : (xs.map (·.1))[i]? = some x.1 := by rw [List.getElem?_map, hx]; rfl
    rw [h1, List.getElem?_map, hk] at this
    exact (Option.some.inj this).symm
  clear h1 hk
  unfold atKey
  induction xs generalizing i with
  | nil => simp at hx
  | cons y ys ih =>
    rw [List.find?_cons]
    rw [List.map_cons, List.nodup_cons] at hn
    cases i with
    | zero =>
      cases hx
      simp [e]
    | succ i =>
      have hne : ¬ y.1 = nk k := fun z => hn.1 (by rw [z, ← e]; exact List.mem_map.mpr ⟨x, List.mem_of_getElem? (by simpa using hx), rfl⟩)
      simp only [hne, decide_false]
      exact ih hn.2 (by simpa using hx)
theorem at_key_none {xs : NEs} (h1 : xs.map (·.1) = ks.map nk) (hk : k ∉ ks) : atKey xs (nk k) = none := by
  unfold atKey
  rw [List.find?_eq_none.mpr]
  · rfl
  · intro x hx
    have : x.1 ∈ ks.map nk := by rw [← h1]; exact List.mem_map.mpr ⟨x, hx, rfl⟩
    obtain ⟨k', hk', e⟩ := List.mem_map.mp this
    simp only [decide_eq_true_eq]
    intro z
    rw [z] at e
    rw [nk_inj e] at hk'
    exact hk hk'
end
/-! ### {} -/
def tDNewN (P : Program) (w : World) : TE := fun _ H Q => ∀ p, H p = none → NamesAt P w (upd H p (nmO P w p [])) p [] → Q (.ref p) (upd H p (nmO P w p []))
theorem pe_dnewN {X : Cx} {pos : Pos} : PE X (.Dict [] [] pos) (tDNewN X.prog X.w) := ⟨fun pins s σ H Q I h => by
  have r : rawD X.prog X.w s.heap.objs.size [] (s.heap.push { cls := .type "dict", data := .dict #[] }) := ⟨_, #[], 0, Heap.get?_push_size _ rfl, ⟨rfl, rfl, rfl⟩, rfl, rfl, List.nodup_nil⟩
  have hn := I.hok.fresh (Nat.le_refl s.heap.objs.size)
  exact wpAny_Dict_empty ⟨.ref s.heap.objs.size, _, I.laid (a := s.heap.objs.size) (o := nmO X.prog X.w s.heap.objs.size []) (t' := s.toks) (fun _ _ q => Heap.get?_push_of_some _ q) (Nat.le_refl _) (raw_ok r), rfl,
    h _ hn ⟨[], upd_same, Nat.zero_le _, beq_eq_false_iff_ne.mpr (Ne.symm (Nat.ne_of_lt I.big)), rfl, fun i x e => (by simp at e), fun i x k e => (by simp at e)⟩⟩⟩
/-! ### len(d) -/
def rLenN (P : Program) (w : World) : List V → Hp → VK → Prop := fun vs H Q => ∃ d ks, vs = [.ref d] ∧ NamesAt P w H d ks ∧ Q (.int (ks.length : Nat)) H
theorem call_lenN {X : Cx} : CallR X (.builtin "len") (rLenN X.prog X.w) := by
  intro pins s σ H xs us Q I r h
  obtain ⟨d, ks, rfl, hN, q⟩ := h
  obtain ⟨u, rfl, rx⟩ := vals1 r
  obtain rfl : u = .ref d := rx
  obtain ⟨ys, h1, h2, h3, h4, h5, h6⟩ := hN
  have hl : ys.length = ks.length := by
    have := congrArg List.length h4
    simpa using this
  refine call_len_dictH h3 (names_of I h1 h4 h6) (by rw [hl]; rw [sizeLine_eq] at h2; omega) ?_
  rw [hl]
  exact ⟨.int (ks.length : Nat), H, I.tok _, ⟨_, rfl⟩, q⟩
/-! ### d.setdefault(k, len(d)) -/
def tSetdN (P : Program) (w : World) (to te tf : TE) : TE := fun σ H Q => to σ H fun x H1 => ∃ d, x = .ref d ∧ (∃ ks, NamesAt P w H1 d ks) ∧ te σ H1 fun y H2 => tf σ H2 fun z H3 => ∃ (ks : List NKey) (k : NKey) (a : Addr), y = .ref a ∧ NamesAt P w H3 d ks ∧ KeyAt H3 k a ∧ z = .int (ks.length : Nat) ∧ ks.length < sizeLine ∧
  (k ∈ ks → ∀ i : Int, Q (.int i) H3) ∧ (k ∉ ks → ∀ o, NamesAt P w (upd H3 d o) d (ks ++ [k]) → Q z (upd H3 d o))
section
variable {X : Cx} {o e f : Expr} {to te tf : TE} {apos cpos : Pos}
theorem pe_setdN (hu : X.A.units + 9 < cLine) (ho : PE X o to) (he : PE X e te) (hf : PE X f tf) (m : M2 X o "setdefault" apos e f cpos) : PE X (.Call (.Attribute o "setdefault" apos) [e, f] [] cpos) (tSetdN X.prog X.w to te tf) := by
  refine ⟨fun pins s σ H Q I h => ?_⟩
  refine wpAny_Call_method m.base m.few m.line PySem.F.plainAttrs_dict PySem.F.slot_dict_setdefault PySem.F.type_dict_setdefault (thn (ho.run pins s σ H _ I h) fun u s1 ⟨x, H1, I1, rx, d, ex, ⟨ks0, hN0⟩, q1⟩ => ?_)
  subst ex
  obtain rfl : u = Value.ref d := rx
  obtain ⟨t1, t2⟩ := hN0.dict I1
  refine ⟨t1, t2, ?_⟩
  rw [m.trees]
  refine Calls.callWith_builtin rfl (Calls.evalArgs_plain (Calls.spliced_cons (thn (he.run pins s1 σ H1 _ I1 q1) fun iv s2 ⟨y, H2, I2, ry, q2⟩ =>
    Calls.spliced_cons (thn (hf.run pins s2 σ H2 _ I2 q2) fun fv s3 ⟨z, H3, I3, rz, ks, k, a, ey, hN, hK, ez, hlt, q3, q4⟩ => Calls.spliced_nil ?_))))
  subst ey ez
  obtain rfl : iv = Value.ref a := ry
  obtain ⟨tk, rfl⟩ := rz
  obtain ⟨xs, h1, h2, h3, h4, h5, h6⟩ := hN
  have hm := names_of I3 h1 h4 h6
  have hn : (xs.map (·.1)).Nodup := by
    obtain ⟨_, _, _, _, _, _, _, _, z⟩ := hm
    exact z
  have hl : xs.length = ks.length := by
    have := congrArg List.length h4
    simpa using this
  refine call_setdefault_heap (knd := nestedKind X.prog X.w) (hsz := by rw [hl]; exact h2) (by show X.A.units + 1 + 8 < cLine; omega) (key_is I3 hK) h3 hm (fun p hp => ?_) fun hnone h' hm' hs => ?_
  · -- there already
    by_cases hk : k ∈ ks
    · obtain ⟨i, hi, e⟩ := List.getElem_of_mem hk
      have hki : ks[i]? = some k := by rw [List.getElem?_eq_getElem hi, e]
      have hxi : xs[i]? = some xs[i] := List.getElem?_eq_getElem (by rw [hl]; exact hi)
      have := at_key h4 hn hxi hki
      rw [this] at hp
      cases hp
      obtain ⟨t, et⟩ := h5 i _ hxi
      refine ⟨.int (i : Nat), H3, I3.tok _, ?_, q3 hk _⟩
      rw [et]
      exact ⟨t, rfl⟩
    · rw [at_key_none h4 hk] at hp
      cases hp
  · have hk : k ∉ ks := fun hk => by
      obtain ⟨i, hi, e⟩ := List.getElem_of_mem hk
      have hki : ks[i]? = some k := by rw [List.getElem?_eq_getElem hi, e]
      have hxi : xs[i]? = some xs[i] := List.getElem?_eq_getElem (by rw [hl]; exact hi)
      rw [at_key h4 hn hxi hki] at hnone
      cases hnone
    have es : storedH xs (nk k) a (.int (ks.length : Nat) tk) = xs ++ [(nk k, a, .int (ks.length : Nat) tk)] := by
      unfold storedH
      rw [hnone]
      rfl
    rw [es] at hm'
    have hr : rawD X.prog X.w d (xs ++ [(nk k, a, .int (ks.length : Nat) tk)]) h' := by
      obtain ⟨o', es', ep', f1, f2, f3, f4, _, f6⟩ := hm'
      exact ⟨o', es', ep', f1, f2, f3, f4, f6⟩
    have he : ∃ q, h'.get? d = some q := let ⟨q, _, _, hq, _⟩ := hr; ⟨q, hq⟩
    refine ⟨.int (ks.length : Nat), _, d_write (t' := s3.toks + (nestedKind X.prog X.w).draws (nk k)) I3 (by rw [h1]; exact True.intro) hs he (raw_ok hr), ⟨tk, rfl⟩, q4 hk _ ⟨_, upd_same, ?_, h3, ?_, ?_, ?_⟩⟩
    · rw [List.length_append]; show ks.length + 1 ≤ sizeLine; omega
    · rw [List.map_append, List.map_append, h4]; rfl
    · intro i x hx
      rw [List.getElem?_append] at hx
      split at hx
      · exact h5 i x hx
      · rename_i hge
        have : i - xs.length = 0 := by
          rcases Nat.eq_zero_or_pos (i - xs.length) with z | z
          · exact z
          · rw [List.getElem?_eq_none (by show 1 ≤ _; exact z)] at hx; cases hx
        rw [this] at hx
        cases hx
        exact ⟨tk, by rw [show i = ks.length by omega]⟩
    · have tups : ∀ b ys, H3 b = some (.tup ys) → upd H3 d (nmO X.prog X.w d (xs ++ [(nk k, a, .int (ks.length : Nat) tk)])) b = some (.tup ys) := fun b ys hb => by
        rw [upd_ne (ne_of hb h1 (by intro z; cases z))]
        exact hb
      intro i x k' hx hk'
      rw [List.getElem?_append] at hx hk'
      split at hx
      · rename_i hlt'
        rw [if_pos (by omega)] at hk'
        exact (h6 i x k' hx hk').mono tups
      · rename_i hge
        have : i - xs.length = 0 := by
          rcases Nat.eq_zero_or_pos (i - xs.length) with z | z
          · exact z
          · rw [List.getElem?_eq_none (by show 1 ≤ _; exact z)] at hx; cases hx
        rw [this] at hx
        rw [if_neg (by omega), show i - ks.length = 0 by omega] at hk'
        cases hx
        cases hk'
        exact hK.mono tups
/-! ### d[k] -/
def tGetN (P : Program) (w : World) (to te : TE) : TE := fun σ H Q => to σ H fun x H1 => te σ H1 fun y H2 => ∃ (d a : Addr) (ks : List NKey) (k : NKey) (i : Nat), x = .ref d ∧ y = .ref a ∧ NamesAt P w H2 d ks ∧ KeyAt H2 k a ∧ ks[i]? = some k ∧ Q (.int (i : Nat)) H2
theorem pe_getN {pos : Pos} (hu : X.A.units + 9 < cLine) (ho : PE X o to) (he : PE X e te) (hs : NoSl e) : PE X (.Subscript o e pos) (tGetN X.prog X.w to te) := by
  refine ⟨fun pins s σ H Q I h => ?_⟩
  refine subD_of PySem.F.slot_dict_getitem.lookup hs (thn (ho.run pins s σ H _ I h) fun u s1 ⟨x, H1, I1, rx, q1⟩ => thn (he.run pins s1 σ H1 _ I1 q1) fun iv s2 ⟨y, H2, I2, ry, d, a, ks, k, i, ex, ey, hN, hK, hi, q2⟩ => ?_)
  subst ex ey
  obtain rfl : u = Value.ref d := rx
  obtain rfl : iv = Value.ref a := ry
  refine ⟨(hN.dict I2).1, ?_⟩
  obtain ⟨xs, h1, h2, h3, h4, h5, h6⟩ := hN
  have hm := names_of I2 h1 h4 h6
  have hn : (xs.map (·.1)).Nodup := by
    obtain ⟨_, _, _, _, _, _, _, _, z⟩ := hm
    exact z
  have hl : xs.length = ks.length := by
    have := congrArg List.length h4
    simpa using this
  have hil : i < xs.length := by rw [hl]; exact (List.getElem?_eq_some_iff.mp hi).1
  have hxi : xs[i]? = some xs[i] := List.getElem?_eq_getElem hil
  obtain ⟨t, et⟩ := h5 i _ hxi
  refine wpAny_getItem_heap (knd := nestedKind X.prog X.w) (by show X.A.units + 1 + 8 < cLine; omega) (key_is I2 hK) hm (at_key h4 hn hxi hi) ?_
  refine ⟨.int (i : Nat), H2, I2.tok _, ?_, q2⟩
  rw [et]
  exact ⟨t, rfl⟩
end
end Gr
/-! # Rules of my own, third part: set(xs) of at most 64 keys of any kind that lies in the heap, and its len. The table's own laws are HandS.TupSets'; here its searches are told for any HeapKind -/
namespace Gr
open PySem PySem.Spec PyProof.Rows
section
variable {K : Type} [DecidableEq K] {P : Program} {w : World} (knd : HeapKind P w K)
/-- what a set asks of its keys besides -/
structure Plain (knd : HeapKind P w K) : Prop where
  ofA : ∀ {A : Around} {E : Value → Shared → Prop} {s : Shared} {k : K} {b : Addr} {Q : Bool → Shared → Prop}, knd.is s.heap k b → Q false s → wpAny (model P w) A (ofAClassStatement 8 (.ref b)) Q E s
  byV : ∀ {A : Around} {E : Value → Shared → Prop} {s : Shared} {k : K} {b : Addr} {Q : Bool → Shared → Prop}, knd.is s.heap k b → Q true s → wpAny (model P w) A (hashByValue 8 (.ref b)) Q E s
  keep : ∀ {h h' : Heap} {k : K} {b : Addr}, knd.is h k b → (∀ c o, h.get? c = some o → h'.get? c = some o) → knd.is h' k b
abbrev Ent (K : Type) := Addr × K
def entRows (L : List (Ent K)) : List (Int × Value) := L.map fun p => (knd.hash p.2, Value.ref p.1)
def entHs (L : List (Ent K)) : List Int := L.map fun p => knd.hash p.2
/-- at a stands a set with the entries L -/
structure SetAt (h : Heap) (a : Addr) (L : List (Ent K)) (es : Array (Int × Value)) (ep : Nat) (t : SetTable) : Prop where
  ob : ∃ o, h.get? a = some o ∧ o.ExactSet ∧ o.data = .set es ep t
  rows : es.toList = entRows knd L
  tab : L2.TabOk t (entHs knd L)
  nd : (L.map (·.2)).Nodup
  key : ∀ p ∈ L, knd.is h p.2 p.1
  plain : t.plain = true
  led : w.params.followText "set-order" = true ∨ t.led = true
  room : L.length * 5 < t.mask * 3
  few : L.length ≤ 64
variable {knd}
theorem rows_len {L : List (Ent K)} {es : Array (Int × Value)} (h : es.toList = entRows knd L) : es.size = L.length := by
  rw [← Array.length_toList, h]
  exact List.length_map ..
theorem row_at {L : List (Ent K)} {es : Array (Int × Value)} (h : es.toList = entRows knd L) {i : Nat} {p : Ent K} (hp : L[i]? = some p) : es[i]? = some (knd.hash p.2, Value.ref p.1) := by
  rw [← Array.getElem?_toList, h, entRows, List.getElem?_map, hp]
  rfl
variable {A : Around} {E : Value → Shared → Prop} {s : Shared} {a : Addr} {L : List (Ent K)} {es : Array (Int × Value)} {ep : Nat} {t : SetTable}
theorem tab_size (T : L2.TabOk t (entHs knd L)) : t.place.size = L.length := T.sz.trans (List.length_map ..)
theorem fits_of (T : L2.TabOk t (entHs knd L)) (h : es.toList = entRows knd L) (hm : L.length ≤ t.mask) : t.fits es.size = true := by
  have h1 := tab_size T
  have h2 := rows_len h
  unfold SetTable.fits SetTable.fill
  rw [T.dm, Bool.and_eq_true, beq_iff_eq, decide_eq_true_eq]
  exact ⟨by omega, by simp only [List.size_toArray, List.length_nil]; omega⟩
/-- what is asked behind a search of alike keys -/
theorem seen_none (pl : Plain knd) {k : K} {b : Addr} {Q : Bool → Shared → Prop} (hk : knd.is s.heap k b) : ∀ {ys : List Value}, (∀ y ∈ ys, ∃ k' c, y = Value.ref c ∧ knd.is s.heap k' c) → Q false s → wpAny (model P w) A (searchCouldBeSeen (.ref b) ys) Q E s := by
  intro ys hy h
  unfold searchCouldBeSeen
  refine wpAny_bind (wpAny_forIn_list _ (fun rest r s' => r.1 = none ∧ s' = s ∧ ∀ y ∈ rest, y ∈ ys) _ (fun v rest r s' ⟨hr, hs, hall⟩ => ?_) (fun r s' ⟨hr, hs, _⟩ => ?_) _ _ ⟨rfl, rfl, fun y h => h⟩)
  · subst hs
    obtain ⟨k', c, rfl, hc⟩ := hy v (hall v List.mem_cons_self)
    have go : ∀ y ∈ rest, y ∈ ys := fun y h => hall y (List.mem_cons_of_mem _ h)
    dsimp only
    by_cases hv : (b == c || (carriedByValue (.ref b) && carriedByValue (.ref c))) = true
    · exact L2.wp_if_pos hv (wpAny_pure ⟨rfl, rfl, go⟩)
    · refine L2.wp_if_neg hv (wpAny_bind (knd.quiet hk ?_))
      simp only [Bool.not_true, Bool.false_eq_true, if_false]
      refine wpAny_bind (knd.quiet hc ?_)
      simp only [Bool.not_true, Bool.false_eq_true, if_false]
      refine wpAny_bind (pl.ofA hk ?_)
      simp only [Bool.false_eq_true, if_false]
      refine wpAny_bind (pl.ofA hc ?_)
      simp only [Bool.false_eq_true, if_false]
      exact wpAny_pure ⟨rfl, rfl, go⟩
  · obtain ⟨r1, r2⟩ := r
    simp only at hr
    subst hr hs
    exact wpAny_pure h
/-- the probe at the c-th step of a hash's way -/
abbrev prb (t : SetTable) (h : Int) (c : Nat) : SetTable.Probe := L2.nth t.mask (L2.runAt t.mask (SetTable.bits h % (t.mask + 1)) (SetTable.bits h)) c
theorem prb_dummy (t : SetTable) (h : Int) : ∀ c, (prb t h c).dummy = none
  | 0 => rfl
  | c + 1 => by
    show (L2.nth t.mask _ (c + 1)).dummy = none
    rw [L2.nth_succ]
    unfold L2.adv
    split <;> exact prb_dummy t h c
theorem prb_way (t : SetTable) (h : Int) (c q : Nat) : (L2.nth t.mask (prb t h c) q).j = L2.way t.mask h (c + q) := by
  show (L2.nth t.mask (L2.nth t.mask _ c) q).j = (L2.nth t.mask _ (c + q)).j
  rw [← L2.nth_add]
/-- THE SEARCH from the c-th step on, for adding: the first empty place of the way is the K-th -/
theorem srch (pl : Plain knd) (R : SetAt knd s.heap a L es ep t) {x : Addr} {k : K} (hx : knd.is s.heap k x) (hu : knd.room A) {N : Nat} (hNf : N < 10 * SetTable.turns t.mask)
    (hN : L2.way t.mask (knd.hash k) N ∉ t.place.toList) (hNb : ∀ c, c < N → L2.way t.mask (knd.hash k) c ∈ t.place.toList) {Q : SetFound → Shared → Prop}
    (yes : k ∈ L.map (·.2) → Q (.there none) s) (no : k ∉ L.map (·.2) → Q (.free (L2.way t.mask (knd.hash k) N) false) s) :
    ∀ (f c : Nat) (stand : Option SetTable.Probe), stand.getD (t.probeStart (knd.hash k)) = prb t (knd.hash k) c → c ≤ N → N - c < f →
      (∀ (i : Nat) (p : Ent K), L[i]? = some p → p.2 = k → ∃ c', c ≤ c' ∧ c' < N ∧ t.place.toList[i]? = some (L2.way t.mask (knd.hash k) c')) →
      wpAny (model P w) A (setSearchFrom a (.ref x) (knd.hash k) true f stand) Q E s := by
  have hfit : t.fits es.size = true := fits_of R.tab R.rows (by have := R.room; omega)
  have gw : ¬ t.gaveWay = true := by unfold SetTable.gaveWay; rw [L2.mask_odd R.tab.mok]; decide
  obtain ⟨o, ho, hex, hd⟩ := id R.ob
  have hashAt : ∀ (i : Nat) (p : Ent K), L[i]? = some p → (fun i => (es[i]?.map (·.1)).getD 0) i = knd.hash p.2 := fun i p hp => by
    simp only [row_at R.rows hp, Option.map_some, Option.getD_some]
  intro f
  induction f with
  | zero => intro c stand _ _ h _; omega
  | succ f ih =>
    intro c stand hst hc hf hre
    rw [L2.setSearchFrom_succ]
    refine wpAny_bind (wpAny_setState_of ho hd hfit ?_)
    dsimp only
    refine L2.wp_if_neg gw ?_
    try refine wpAny_bind (wpAny_pure ?_)
    have spec := L2.go_spec t R.tab.ris R.tab.dm (fun i => (es[i]?.map (·.1)).getD 0) (knd.hash k) (10 * SetTable.turns t.mask) (N - c) (prb t (knd.hash k) c) (prb_dummy _ _ _) (by omega)
      (fun q hq => by rw [prb_way]; exact hNb (c + q) (by omega)) (by rw [prb_way, show c + (N - c) = N by omega]; exact hN)
    rcases spec with ⟨q, i, hq, hi, hh, hno, hpr⟩ | ⟨hno, hpr⟩
    · rw [prb_way] at hi
      have enx : L2.nth t.mask (prb t (knd.hash k) c) (q + 1) = prb t (knd.hash k) (c + (q + 1)) := (L2.nth_add t.mask c _ (q + 1)).symm
      have hpr' : t.probe (fun i => (es[i]?.map (·.1)).getD 0) (knd.hash k) (stand.getD (t.probeStart (knd.hash k))) = some (.candidate (L2.way t.mask (knd.hash k) (c + q)) i (prb t (knd.hash k) (c + (q + 1)))) := by
        rw [hst, ← prb_way, ← enx]
        exact hpr
      rw [hpr']
      dsimp only
      have hil : i < L.length := by
        have h1 := (List.getElem?_eq_some_iff.mp hi).1
        rw [Array.length_toList, tab_size R.tab] at h1
        exact h1
      obtain ⟨p, hp⟩ : ∃ p, L[i]? = some p := ⟨_, List.getElem?_eq_getElem hil⟩
      have hm := List.mem_of_getElem? hp
      have hent := row_at R.rows hp
      have hsl : t.slot (L2.way t.mask (knd.hash k) (c + q)) = .live i := L2.slot_live R.tab.ris hi
      have rest : wpAny (model P w) A (L2.searchRest a (.ref x) (knd.hash k) true f es t (L2.way t.mask (knd.hash k) (c + q)) i (prb t (knd.hash k) (c + (q + 1)))) Q E s := by
        unfold L2.searchRest
        rw [hent]
        dsimp only
        refine wpAny_bind (wpAny_holding (knd.eqBool hu (R.key p hm) hx ?_))
        refine wpAny_bind (wpAny_setState_of ho hd hfit ?_)
        dsimp only
        by_cases e : p.2 = k
        · exact L2.wp_if_pos (by simp [e]) (wpAny_pure (yes (List.mem_map.mpr ⟨p, hm, e⟩)))
        · refine L2.wp_if_neg (by simp [e]) ?_
          try refine wpAny_bind (wpAny_pure ?_)
          rw [L2.sameMem]
          dsimp only
          simp only [if_true, hsl, hent]
          refine wpAny_bind (wpAny_isSame_ref_self (wpAny_bind (wpAny_pure ?_)))
          simp only [if_true]
          refine L2.wp_if_neg (by simp [e]) (ih (c + (q + 1)) _ rfl (by omega) (by omega) fun i0 p0 h0 e0 => ?_)
          obtain ⟨c', a1, a2, a3⟩ := hre i0 p0 h0 e0
          refine ⟨c', ?_, a2, a3⟩
          -- what is sought isn't passed
          rcases Nat.lt_trichotomy c' (c + q) with z | z | z
          · exact absurd ((hashAt i0 p0 h0).trans (congrArg knd.hash e0)) (hno (c' - c) i0 (by omega) (by rw [prb_way, show c + (c' - c) = c' by omega]; exact a3))
          · subst z
            have s0 := L2.slot_live R.tab.ris a3
            rw [hsl] at s0
            injection s0 with s0
            rw [← s0, hp] at h0
            cases h0
            exact absurd e0 e
          · omega
      by_cases hl : t.led = true
      · refine L2.wp_if_neg (by simp [hl]) ?_
        try refine wpAny_bind (wpAny_pure ?_)
        exact rest
      · refine L2.wp_if_pos (by simp [hl]) (wpAny_bind (seen_none pl hx (fun y hy => ?_) ?_))
        · obtain ⟨e, he, rfl⟩ := List.mem_map.mp hy
          have he1 : e ∈ es.toList := by
            have : e ∈ es ∧ e.1 = knd.hash k := by simpa using he
            simpa using this.1
          rw [R.rows] at he1
          obtain ⟨p2, hp2, rfl⟩ := List.mem_map.mp he1
          exact ⟨p2.2, p2.1, rfl, R.key p2 hp2⟩
        · refine L2.wp_if_neg (by decide) ?_
          try refine wpAny_bind (wpAny_pure ?_)
          exact rest
    · have hpr' : t.probe (fun i => (es[i]?.map (·.1)).getD 0) (knd.hash k) (stand.getD (t.probeStart (knd.hash k))) = some (.empty (L2.way t.mask (knd.hash k) N) none) := by
        rw [hst, show L2.way t.mask (knd.hash k) N = (L2.nth t.mask (prb t (knd.hash k) c) (N - c)).j by rw [prb_way, show c + (N - c) = N by omega]]
        exact hpr
      rw [hpr']
      dsimp only
      refine wpAny_pure (no fun hm => ?_)
      obtain ⟨p0, h0, e0⟩ := List.mem_map.mp hm
      obtain ⟨i0, hi0, ei⟩ := List.getElem_of_mem h0
      have h00 : L[i0]? = some p0 := by rw [List.getElem?_eq_getElem hi0, ei]
      obtain ⟨c', a1, a2, a3⟩ := hre i0 p0 h00 e0
      exact hno (c' - c) i0 (by omega) (by rw [prb_way, show c + (c' - c) = c' by omega]; exact a3) ((hashAt i0 p0 h00).trans (congrArg knd.hash e0))
theorem srch_all (pl : Plain knd) (R : SetAt knd s.heap a L es ep t) {x : Addr} {k : K} (hx : knd.is s.heap k x) (hu : knd.room A) {Q : SetFound → Shared → Prop} (yes : k ∈ L.map (·.2) → Q (.there none) s)
    (no : ∀ N, k ∉ L.map (·.2) → L2.way t.mask (knd.hash k) N ∉ t.place.toList → (∀ c, c < N → L2.way t.mask (knd.hash k) c ∈ t.place.toList) → Q (.free (L2.way t.mask (knd.hash k) N) false) s) :
    wpAny (model P w) A (setSearch a (.ref x) (knd.hash k) true) Q E s := by
  have hroom := R.room
  obtain ⟨N, hNf, hN, hNb⟩ := R.tab.first (by show (entHs knd L).length ≤ _; unfold entHs; rw [List.length_map]; omega) (knd.hash k)
  have hbig : N < 100000 := by
    have : SetTable.turns t.mask ≤ 142 := by
      unfold SetTable.turns
      rcases R.tab.mok with e | e | e <;> omega
    omega
  unfold setSearch
  refine srch pl R hx hu hNf hN hNb yes (fun hn => no N hn hN hNb) 100000 0 none rfl (Nat.zero_le _) (by omega) fun i p hp hk => ?_
  have hi : (entHs knd L)[i]? = some (knd.hash k) := by
    unfold entHs
    rw [List.getElem?_map, hp, ← hk]
    rfl
  have hil : i < t.place.toList.length := by
    rw [Array.length_toList, tab_size R.tab]
    exact (List.getElem?_eq_some_iff.mp hp).1
  obtain ⟨c, hc, e⟩ := R.tab.before hN hi (List.getElem?_eq_getElem hil)
  exact ⟨c, Nat.zero_le _, hc, by rw [List.getElem?_eq_getElem hil, e]⟩
end
end Gr
/-! # Rules of my own, fourth part: adding to such a set, set(xs) -/
namespace Gr
open PySem PySem.Spec PyProof.Rows
section
variable {K : Type} [DecidableEq K] {P : Program} {w : World} {knd : HeapKind P w K}
variable {A : Around} {E : Value → Shared → Prop} {s : Shared} {a : Addr} {L : List (Ent K)} {es : Array (Int × Value)} {ep : Nat} {t : SetTable}
/-- a key isn't the set itself -/
theorem key_but {h h' : Heap} {k : K} {b : Addr} {o : Obj} (hb : knd.is h k b) (ho : h.get? a = some o) (hd : o.data = .set es ep t) (pl : ∀ {h h' : Heap} {k : K} {b : Addr}, knd.is h k b → (∀ c o vs n, h.get? c = some o → o.data = .seq vs n → h'.get? c = some o) → knd.is h' k b) (hs : Heap.SameBut a h h') : knd.is h' k b :=
  pl hb fun c oc vs n hc hq => (hs.2 c fun z => by
    subst z
    rw [ho] at hc
    cases hc
    rw [hd] at hq
    cases hq).trans hc
/-- a key stands while the sequences stand -/
def Seqs (knd : HeapKind P w K) : Prop := ∀ {h h' : Heap} {k : K} {b : Addr}, knd.is h k b → (∀ c o vs n, h.get? c = some o → o.data = .seq vs n → h'.get? c = some o) → knd.is h' k b
/-- what an order of the rows gives -/
theorem by_order (hr : es.toList = entRows knd L) : ∀ l : List Nat, (∀ i ∈ l, i < L.length) → l.filterMap (fun i => es[i]?) = entRows knd (l.filterMap fun i => L[i]?) ∧ entHs knd (l.filterMap fun i => L[i]?) = l.map fun i => (es.map (·.1)).getD i 0
  | [], _ => ⟨rfl, rfl⟩
  | i :: l, h => by
    obtain ⟨h1, h2⟩ := by_order hr l fun j hj => h j (List.mem_cons_of_mem _ hj)
    have hi := h i List.mem_cons_self
    have e1 := List.getElem?_eq_getElem hi
    have e2 := row_at hr e1
    rw [List.filterMap_cons_some e2, List.filterMap_cons_some e1, h1]
    refine ⟨rfl, ?_⟩
    unfold entHs at h2 ⊢
    rw [List.map_cons, List.map_cons, h2]
    have e3 : (es.map (·.1))[i]? = some (knd.hash L[i].2) := by rw [Array.getElem?_map, e2]; rfl
    simp [Array.getD_eq_getD_getElem?, e3]
theorem pick_all {α : Type} (l : List α) : (List.range l.length).filterMap (fun i => l[i]?) = l := by
  have : ∀ n, n ≤ l.length → (List.range n).filterMap (fun i => l[i]?) = l.take n := by
    intro n
    induction n with
    | zero => intro _; rfl
    | succ n ih =>
      intro hn
      rw [List.range_succ, List.filterMap_append, ih (by omega), List.take_succ, List.getElem?_eq_getElem (by omega), List.filterMap_cons_some (List.getElem?_eq_getElem (by omega))]
      rfl
  rw [this _ (Nat.le_refl _), List.take_length]
/-- the table grows -/
theorem relay (seqs : Seqs knd) {o : Obj} (ho : s.heap.get? a = some o) (hex : o.ExactSet) (hd : o.data = .set es ep t) (hr : es.toList = entRows knd L) (hsz : t.place.size = es.size) (hdm : t.dummies = #[]) (hfl : es.size ≤ t.mask)
    (nd : (L.map (·.2)).Nodup) (key : ∀ p ∈ L, knd.is s.heap p.2 p.1) (hpl : t.plain = true) (hld : w.params.followText "set-order" = true ∨ t.led = true) (few : L.length ≤ 64) {wanted M : Nat}
    (hw : SetTable.sizeAbove wanted - 1 = M) (hM : L2.MaskOk M) (hw2 : SetTable.sizeAbove wanted ≤ 128) (hn : L.length * 5 < M * 3) {Q : Unit → Shared → Prop}
    (q : ∀ h' L' es' ep' t', Heap.SameBut a s.heap h' → SetAt knd h' a L' es' ep' t' → L'.Perm L → Q () { s with heap := h' }) : wpAny (model P w) A (setRelay a wanted) Q E s := by
  have hsl := rows_len hr
  have hfits : t.fits es.size = true := by
    unfold SetTable.fits SetTable.fill
    rw [hdm, Bool.and_eq_true, beq_iff_eq, decide_eq_true_eq]
    exact ⟨hsz, by simp only [List.size_toArray, List.length_nil]; omega⟩
  obtain ⟨t', order, e, hp, T, em, el, ep', ed⟩ := L2.relaid_ok t (hs := es.map (·.1)) (wanted := wanted) hw hM (by rw [Array.size_map, hsl]; omega)
  rw [Array.size_map, hsl] at hp
  obtain ⟨r1, r2⟩ := by_order hr order.toList fun i hi => List.mem_range.mp (hp.mem_iff.mp hi)
  have r3 : (order.toList.filterMap fun i => L[i]?).Perm L := by
    have := hp.filterMap (fun i => L[i]?)
    rw [pick_all] at this
    exact this
  generalize order.toList.filterMap (fun i => L[i]?) = L2' at r1 r2 r3
  have r1' : (order.filterMap (es[·]?)).toList = entRows knd L2' := by rw [Array.toList_filterMap]; exact r1
  rw [← r2] at T
  have hs2 : (order.filterMap (es[·]?)).size = es.size := by rw [rows_len r1', r3.length_eq, hsl]
  rw [L2.setRelay_eq]
  refine wpAny_bind (wpAny_setState_of ho hd hfits ?_)
  dsimp only
  refine L2.wp_if_neg (by rw [sizeLine_eq]; omega) ?_
  try refine wpAny_bind (wpAny_pure ?_)
  rw [e]
  dsimp only
  refine wpAny_bind (L2.wp_if_neg (by rw [hs2]; simp) ?_)
  try refine wpAny_bind (wpAny_pure ?_)
  refine wpAny_pure ?_
  dsimp only
  refine wpAny_storeSet_of ho hd ?_ (by rw [hs2, hsl, sizeLine_eq]; omega)
  have sb : Heap.SameBut a s.heap (s.heap.update a (Obj.putSet (order.filterMap (es[·]?)) t')) := Heap.SameBut.update ..
  exact q _ L2' (order.filterMap (es[·]?)) (ep + 1) t' sb ⟨⟨_, L2.store_at ho hd, ⟨hex.1, hex.2.1, hex.2.2⟩, rfl⟩, r1', T, (r3.map (·.2)).nodup_iff.mpr nd, fun p hm => key_but (key p (r3.mem_iff.mp hm)) ho hd seqs sb,
    by rw [ep']; exact hpl, by rw [el]; exact hld, by rw [r3.length_eq, em]; exact hn, by rw [r3.length_eq]; exact few⟩ r3
/-- ADDING a key -/
theorem adding (pl : Plain knd) (seqs : Seqs knd) (R : SetAt knd s.heap a L es ep t) {x : Addr} {k : K} (hx : knd.is s.heap k x) (hu : knd.room A) (hfew : L.length + 1 ≤ 64) {Q : Bool → Shared → Prop}
    (q : ∀ b h' L' es' ep' t', Heap.SameBut a s.heap h' → SetAt knd h' a L' es' ep' t' → (k ∈ L.map (·.2) → L' = L) → (k ∉ L.map (·.2) → L'.Perm ((x, k) :: L)) → Q b { s with heap := h' }) :
    wpAny (model P w) A (setAddHashed a (.ref x) (knd.hash k)) Q E s := by
  obtain ⟨o, ho, hex, hd⟩ := id R.ob
  have hsl := rows_len R.rows
  have hroom := R.room
  have hfits : t.fits es.size = true := fits_of R.tab R.rows (by omega)
  unfold setAddHashed
  refine wpAny_holding ?_
  rw [show (100000 : Nat) = 99999 + 1 from rfl, L2.setAddHashedIn_succ]
  refine wpAny_bind (wpAny_setState_of ho hd hfits ?_)
  dsimp only
  refine L2.wp_if_neg (by simp [byScan, Value.scannable]) ?_
  try refine wpAny_bind (wpAny_pure ?_)
  refine wpAny_bind (srch_all pl R hx hu (fun hm => ?_) fun N hm hN hb => ?_)
  · dsimp only
    exact wpAny_pure (q false s.heap L es ep t (Heap.SameBut.refl a s.heap) R (fun _ => rfl) fun z => absurd hm z)
  · dsimp only
    refine wpAny_bind (wpAny_setState_of ho hd hfits ?_)
    dsimp only
    obtain ⟨q1, q2, q3, q4, q5, q6, q7, q8, q9⟩ := R.tab.put hN hb
    have hp1 : (t.put (L2.way t.mask (knd.hash k) N)).1.plain = true := by rw [q6]; exact R.plain
    generalize hpt : t.put (L2.way t.mask (knd.hash k) N) = pt at q1 q3 q4 q5 q6 q7 q8 q9 hp1 ⊢
    obtain ⟨t1, p⟩ := pt
    dsimp only at q1 q3 q4 q5 q6 q7 q8 q9 hp1 ⊢
    subst q1
    first
      | (refine wpAny_bind (L2.wp_if_pos hp1 (pl.byV hx ?_)))
      | refine L2.wp_if_pos hp1 (wpAny_bind (pl.byV hx ?_))
    simp only [if_true]
    have hin : (SetTable.insertAt es (SetTable.below t.place (L2.way t.mask (knd.hash k) N)) (knd.hash k, Value.ref x)).toList = entRows knd (L.take (SetTable.below t.place (L2.way t.mask (knd.hash k) N)) ++ (x, k) :: L.drop (SetTable.below t.place (L2.way t.mask (knd.hash k) N))) := by
      rw [SetTable.toList_insertAt, R.rows]
      unfold entRows
      rw [List.map_append, List.map_cons, List.map_take, List.map_drop]
    generalize SetTable.below t.place (L2.way t.mask (knd.hash k) N) = p at q2 q3 hin ⊢
    have pm : (L.take p ++ (x, k) :: L.drop p).Perm ((x, k) :: L) := by
      have h : (L.take p ++ (x, k) :: L.drop p).Perm ((x, k) :: (L.take p ++ L.drop p)) := List.perm_middle
      rw [List.take_append_drop] at h
      exact h
    have hhs : entHs knd (L.take p ++ (x, k) :: L.drop p) = (entHs knd L).take p ++ knd.hash k :: (entHs knd L).drop p := by
      unfold entHs
      rw [List.map_append, List.map_cons, List.map_take, List.map_drop]
    rw [← hhs] at q3
    generalize L.take p ++ (x, k) :: L.drop p = L1 at pm q3 hin
    have hlen : L1.length = L.length + 1 := pm.length_eq
    have nd1 : (L1.map (·.2)).Nodup := (pm.map (·.2)).nodup_iff.mpr (List.nodup_cons.mpr ⟨hm, R.nd⟩)
    have hes := rows_len hin
    rw [hlen] at hes
    generalize SetTable.insertAt es p (knd.hash k, Value.ref x) = es1 at hin hes ⊢
    refine wpAny_bind (wpAny_storeSet_of ho hd ?_ (by rw [hes, sizeLine_eq]; omega))
    have sb : Heap.SameBut a s.heap (s.heap.update a (Obj.putSet es1 t1)) := Heap.SameBut.update ..
    have ho1 := L2.store_at (es' := es1) (t' := t1) ho hd
    generalize s.heap.update a (Obj.putSet es1 t1) = h1 at sb ho1 ⊢
    have key1 : ∀ p ∈ L1, knd.is h1 p.2 p.1 := fun p hp => by
      rcases List.mem_cons.mp (pm.mem_iff.mp hp) with e | hp
      · rw [e]; exact key_but hx ho hd seqs sb
      · exact key_but (R.key p hp) ho hd seqs sb
    have ld1 : w.params.followText "set-order" = true ∨ t1.led = true := by rw [q5]; exact R.led
    have hll : (entHs knd L).length = L.length := List.length_map ..
    by_cases hf : t1.tooFull = true
    · first
        | refine wpAny_bind (L2.wp_if_pos (by simp [hf]) ?_)
        | refine L2.wp_if_pos (by simp [hf]) (wpAny_bind ?_)
      have hfull : (L.length + 1) * 5 ≥ t1.mask * 3 := by
        have h := hf
        unfold SetTable.tooFull at h
        rw [decide_eq_true_eq, q9, hll] at h
        exact h
      rw [hsl]
      have hsz1 : t1.place.size = es1.size := by rw [tab_size q3, hlen, hes]
      have two : (t.mask = 7 ∧ L.length = 4) ∨ (t.mask = 31 ∧ L.length = 18) := by
        rcases R.tab.mok with e | e | e
        · left; rw [q4, e] at hfull; rw [e] at hroom; exact ⟨e, by omega⟩
        · right; rw [q4, e] at hfull; rw [e] at hroom; exact ⟨e, by omega⟩
        · exfalso; rw [q4, e] at hfull; omega
      have go : ∀ M, SetTable.sizeAbove (SetTable.grown (L.length + 1)) - 1 = M → L2.MaskOk M → SetTable.sizeAbove (SetTable.grown (L.length + 1)) ≤ 128 → (L.length + 1) * 5 < M * 3 →
          wpAny (model P w) A (setRelay a (SetTable.grown (L.length + 1))) (fun _ s' => wpAny (model P w) A (pure true) Q E s') E { s with heap := h1 } := fun M m1 m2 m3 m4 =>
        relay (s := { s with heap := h1 }) seqs ho1 ⟨hex.1, hex.2.1, hex.2.2⟩ rfl hin hsz1 q3.dm (by rw [hes, q4]; rcases two with ⟨e, e2⟩ | ⟨e, e2⟩ <;> omega) nd1 key1 hp1 ld1 (by rw [hlen]; exact hfew) m1 m2 m3 (by rw [hlen]; exact m4)
          fun h2 L2' es2 ep2 t2 sb2 R2 pm2 => wpAny_pure (q true h2 L2' es2 ep2 t2 (sb.trans sb2) R2 (fun z => absurd z hm) fun _ => pm2.trans pm)
      rcases two with ⟨_, e2⟩ | ⟨_, e2⟩
      · exact go 31 (by rw [e2, L2.size_20]) (.inr (.inl rfl)) (by rw [e2, L2.size_20]; decide) (by omega)
      · exact go 127 (by rw [e2, L2.size_76]) (.inr (.inr rfl)) (by rw [e2, L2.size_76]; decide) (by omega)
    · have hroom1 : L1.length * 5 < t1.mask * 3 := by
        have h := hf
        unfold SetTable.tooFull at h
        rw [decide_eq_true_eq, q9, hll] at h
        rw [hlen]
        omega
      have fin : Q true { s with heap := h1 } := q true h1 L1 es1 (ep + 1) t1 sb ⟨⟨_, ho1, ⟨hex.1, hex.2.1, hex.2.2⟩, rfl⟩, hin, q3, nd1, key1, hp1, ld1, hroom1, by rw [hlen]; exact hfew⟩ (fun z => absurd z hm) fun _ => pm
      first
        | exact L2.wp_if_neg (by simp [hf]) (wpAny_pure fin)
        | exact wpAny_bind (L2.wp_if_neg (by simp [hf]) (wpAny_pure (wpAny_pure fin)))
end
end Gr
/-! # Rules of my own, fifth part: set(xs), xs a list of keys; len of it -/
namespace Gr
open PySem PySem.Spec PyProof.Rows
section
variable {K : Type} [DecidableEq K] {P : Program} {w : World} {knd : HeapKind P w K}
variable {A : Around} {E : Value → Shared → Prop} {s : Shared}
/-- what the set has of the first i keys -/
structure Has (ks : List (Ent K)) (i : Nat) (L : List (Ent K)) : Prop where
  sub : ∀ p ∈ L, p ∈ ks
  mem : ∀ k, k ∈ L.map (·.2) ↔ k ∈ (ks.take i).map (·.2)
  len : L.length ≤ i
theorem take_one {α : Type} {l : List α} {i : Nat} {x : α} (h : l[i]? = some x) : l.take (i + 1) = l.take i ++ [x] := by
  rw [List.take_succ, h]
  rfl
theorem Has.old {ks L : List (Ent K)} {i : Nat} {p : Ent K} (g : Has ks i L) (h : ks[i]? = some p) (hm : p.2 ∈ L.map (·.2)) : Has ks (i + 1) L := by
  refine ⟨g.sub, fun k => ?_, Nat.le_succ_of_le g.len⟩
  rw [take_one h, List.map_append, List.mem_append, ← g.mem]
  constructor
  · exact .inl
  · rintro (z | z)
    · exact z
    · rw [show k = p.2 by simpa using z]; exact hm
theorem Has.new {ks L L' : List (Ent K)} {i : Nat} {p : Ent K} (g : Has ks i L) (h : ks[i]? = some p) (pm : L'.Perm (p :: L)) : Has ks (i + 1) L' := by
  refine ⟨fun q hq => ?_, fun k => ?_, by rw [pm.length_eq, List.length_cons]; exact Nat.succ_le_succ g.len⟩
  · rcases List.mem_cons.mp (pm.mem_iff.mp hq) with e | z
    · rw [e]; exact List.mem_of_getElem? h
    · exact g.sub q z
  · rw [(pm.map (·.2)).mem_iff, List.map_cons, List.mem_cons, take_one h, List.map_append, List.mem_append, g.mem]
    constructor
    · rintro (z | z)
      · exact .inr (by simp [z])
      · exact .inl z
    · rintro (z | z)
      · exact .inr z
      · exact .inl (by simpa using z)
theorem SetAt.stay {h h' : Heap} {a : Addr} {L : List (Ent K)} {es : Array (Int × Value)} {ep : Nat} {t : SetTable} (R : SetAt knd h a L es ep t) (ha : ∀ o, h.get? a = some o → h'.get? a = some o) (hk : ∀ p ∈ L, knd.is h' p.2 p.1) : SetAt knd h' a L es ep t := by
  obtain ⟨o, ho, r⟩ := R.ob
  exact ⟨⟨o, ha o ho, r⟩, R.rows, R.tab, R.nd, hk, R.plain, R.led, R.room, R.few⟩
theorem set_first {h : Heap} {a : Addr} (ho : h.get? a = some { cls := .type "set", dict := none, data := .set #[] 0 (.fresh 0 0 (!w.params.followText "set-order")) }) : SetAt knd h a ([] : List (Ent K)) #[] 0 (.fresh 0 0 (!w.params.followText "set-order")) := by
  refine ⟨⟨_, ho, ⟨rfl, rfl, rfl⟩, rfl⟩, rfl, ⟨List.Pairwise.nil, rfl, rfl, .inl rfl, fun x hx => (by cases hx), fun i h j hi => (by simp [entHs] at hi)⟩, List.nodup_nil, fun p hp => (by cases hp), rfl, ?_, ?_, Nat.zero_le _⟩
  · cases e : w.params.followText "set-order"
    · exact .inr rfl
    · exact .inl rfl
  · show 0 * 5 < 7 * 3
    decide
/-- set.update's loop over the keys -/
theorem update_loop (pl : Plain knd) (seqs : Seqs knd) {I : Addr} {fp wr : List Addr} {G : Array GenState → Array GenState → Prop} {n : Nat} {Pv : Nat → Value → Prop} {St : Nat → Shared → Prop} {R : Result → Shared → Prop}
    (W : WalksS P w A.in1 I fp wr G n Pv St) (S : Addr) (hSf : S ∉ fp) (ks : List (Ent K)) (hn : n = ks.length) (hfew : ks.length ≤ 64) (hval : ∀ i v, Pv i v → ∃ p, ks[i]? = some p ∧ v = .ref p.1)
    (h0 : Heap) (hk : ∀ p ∈ ks, knd.is h0 p.2 p.1) (hS0 : h0.get? S = none) (hw0 : ∀ b ∈ wr, h0.get? b = none) (hu : knd.room A.in1) :
    ∀ (m i : Nat) (s : Shared), n - i = m → i ≤ n → St i s → (∀ b o, h0.get? b = some o → s.heap.get? b = some o) → (∃ L es ep t, SetAt knd s.heap S L es ep t ∧ Has ks i L) →
      (∀ s' L es ep t, Moved (S :: wr) G s s' → SetAt knd s'.heap S L es ep t → Has ks n L → (∀ b o, h0.get? b = some o → s'.heap.get? b = some o) → R (.ok (.ret .none)) s') →
      codeAny (model P w) A (.builtin "set.update.loop" ⟨[.ref S, .ref I], []⟩) R s := by
  have hSw : S ∉ wr := fun h => hSf (W.sub _ h)
  have wide : ∀ b ∈ wr, b ∈ S :: wr := fun b hb => List.mem_cons_of_mem _ hb
  have over : ∀ {s s' : Shared}, Moved wr G s s' → (∀ b o, h0.get? b = some o → s.heap.get? b = some o) → ∀ b o, h0.get? b = some o → s'.heap.get? b = some o := fun hm hkp b o e =>
    hm.heap b o (fun hb => by rw [hw0 b hb] at e; cases e) (hkp b o e)
  have keys : ∀ {h : Heap} {L : List (Ent K)} {i : Nat}, Has ks i L → (∀ b o, h0.get? b = some o → h.get? b = some o) → ∀ p ∈ L, knd.is h p.2 p.1 := fun g hkp p hp => pl.keep (hk p (g.sub p hp)) hkp
  intro m
  induction m with
  | zero =>
    intro i s hm hi hst hkp ⟨L, es, ep, t, hS, g⟩ hR
    obtain rfl : i = n := by omega
    refine codeAny_builtin F.entry_set_update_loop ?_
    rw [Around.under_plainId F.plain_set_update_loop _]
    show wpAny _ A.in1 (pyNext (.ref I) >>= _) _ _ s
    refine wpAny_bind (W.done s _ _ hst fun s' hmv => ?_)
    show wpAny _ A.in1 (ret Value.none) _ _ s'
    have hkp' := over hmv hkp
    exact wpAny_pure (hR s' L es ep t (hmv.mono wide) (hS.stay (fun o e => hmv.heap S o hSw e) (keys g hkp')) g hkp')
  | succ m ih =>
    intro i s hm hi hst hkp ⟨L, es, ep, t, hS, g⟩ hR
    have hlt : i < n := by omega
    refine codeAny_builtin F.entry_set_update_loop ?_
    rw [Around.under_plainId F.plain_set_update_loop _]
    show wpAny _ A.in1 (pyNext (.ref I) >>= _) _ _ s
    refine wpAny_bind (W.item i s _ _ hlt hst fun v s' hP hst' hmv => ?_)
    obtain ⟨p, hp, rfl⟩ := hval i v hP
    have hkp' := over hmv hkp
    have hS' : SetAt knd s'.heap S L es ep t := hS.stay (fun o e => hmv.heap S o hSw e) (keys g hkp')
    have hx : knd.is s'.heap p.2 p.1 := pl.keep (hk p (List.mem_of_getElem? hp)) hkp'
    show wpAny _ A.in1 (holding [Value.ref p.1] (setAdd S (.ref p.1)) >>= _) _ _ s'
    refine wpAny_bind (wpAny_holding ?_)
    unfold setAdd
    refine wpAny_holding (wpAny_bind (knd.pyHash hu hx ?_))
    refine adding (s := { s' with toks := s'.toks + knd.draws p.2 }) pl seqs hS' hx hu (by have := g.len; omega) fun b h' L' es' ep' t' hsb hS2 c1 c2 => ?_
    have g' : Has ks (i + 1) L' := by
      by_cases c : p.2 ∈ L.map (·.2)
      · rw [c1 c]; exact g.old hp c
      · exact g.new hp (c2 c)
    have hkp2 : ∀ b o, h0.get? b = some o → h'.get? b = some o := fun b o e => (hsb.2 b fun z => by rw [z, hS0] at e; cases e).trans (hkp' b o e)
    refine wpAny_pure ⟨plainId_quiet F.plain_set_update_loop _, ih (i + 1) _ (by omega) hlt (W.frame _ s' _ _ hst' (Nat.le_add_right _ _) fun b hb o e => (hsb.2 b fun z => hSf (by rw [← z]; exact hb)).trans e) hkp2 ⟨L', es', ep', t', hS2, g'⟩
      fun s'' L2 es2 ep2 t2 hm'' hS'' g'' hkp'' => hR s'' L2 es2 ep2 t2 (Moved.trans W.gtrans ((hmv.mono wide).then_heap (Nat.le_add_right _ _) fun b o hb e => (hsb.2 b fun z => hb (by rw [z]; exact List.mem_cons_self)).trans e) hm'') hS'' g'' hkp''⟩
/-- an empty set, just made -/
abbrev nS (w : World) : Obj := { cls := .type "set", dict := none, data := .set #[] 0 (.fresh 0 0 (!w.params.followText "set-order")) }
/-- set(xs) -/
theorem call_setK (pl : Plain knd) (seqs : Seqs knd) {l : Addr} {items : Array Value} (ks : List (Ent K)) {Q : Value → Shared → Prop} (hh : A.handled = none) (hl : s.heap.IsList l items) (hit : items.toList = ks.map fun p => Value.ref p.1)
    (hk : ∀ p ∈ ks, knd.is s.heap p.2 p.1) (hfew : ks.length ≤ 64) (hu : knd.room A.in1.in1.in1)
    (h : ∀ (h' : Heap) (tk : Nat) L es ep t, SetAt knd h' s.heap.objs.size L es ep t → Has ks ks.length L → (∀ b o, s.heap.get? b = some o → h'.get? b = some o) → Q (.ref s.heap.objs.size) { s with heap := h', toks := tk }) :
    wpAny (model P w) A (call (.type "set") [.ref l]) Q E s := by
  have hisz : items.size = ks.length := by
    rw [← Array.length_toList, hit, List.length_map]
  obtain ⟨c, tl, hmro⟩ := F.called_set.mro
  have hmade := F.called_set.made
  have hsub := F.called_set.sub
  refine wpAny_call (codeAny_of_tree ?_)
  show wpAny _ _ (callAny (.type "set") _) _ _ _
  refine wpAny_pure ⟨Code.quiet_builtin _ (by decide +kernel), codeAny_builtin F.entry_type_call ?_⟩
  rw [Around.under_plain (weight_type_call_type "set" [.ref l] []) rfl]
  have f1 := F.called_set.notType
  have f2 := F.called_set.canCreate
  have f3 := F.typeCall_set_1 (.ref l)
  repeat (any_goals (first | assumption | wp_step))
  -- the new set: the object that stands behind set.__new__
  have hS : (s.heap.push (nS w)).get? s.heap.objs.size = some (nS w) := Heap.get?_push_size _ rfl
  refine codeAny_mono (L2.code_set_led1 (.ref l) (E := E) (Q₁ := fun obj s₁ => obj = .ref s.heap.objs.size ∧ s₁ = { s with heap := s.heap.push (nS w) }) ⟨rfl, rfl⟩) fun r s₁ hr => ?_
  match r, hr with
  | .error e, hr => exact hr
  | .ok .next, hr => exact hr.elim
  | .ok .brk, hr => exact hr.elim
  | .ok .cont, hr => exact hr.elim
  | .ok (.ret obj), hr =>
    obtain ⟨rfl, rfl⟩ := hr
    have hT : Shared.TypeIs { s with heap := s.heap.push (nS w) } (.ref s.heap.objs.size) "set" := ⟨_, hS, rfl⟩
    have f4 := F.called_set.init.lookup
    have f5 := F.called_set.init.bind (.ref s.heap.objs.size)
    repeat (any_goals (first | assumption | wp_step))
    refine codeAny_mono (codeAny_call_builtin (R := wants (fun r s₂ => r = .none ∧ ∃ h' tk L es ep t, s₂ = { s with heap := h', toks := tk } ∧ SetAt knd h' s.heap.objs.size L es ep t ∧ Has ks ks.length L ∧ (∀ b o, s.heap.get? b = some o → h'.get? b = some o)) E)
      F.called_set.init.plain F.entry_set_init (check_set_init_1 hT ?_)) fun r₂ s₂ hr₂ => ?_
    · obtain ⟨ol, hol, hcl, nl, hdl⟩ := id hl
      obtain ⟨ocls, odict, odata, oslots⟩ := ol
      simp only at hcl hdl
      subst hcl hdl
      have hlS : l < s.heap.objs.size := Heap.lt_size hol
      have hsz1 : (s.heap.push (nS w)).objs.size = s.heap.objs.size + 1 := Heap.size_push ..
      have hol' : (s.heap.push (nS w)).get? l = some { cls := .type "list", dict := odict, data := .seq items nl, slots := oslots } := Heap.get?_push_of_some _ hol
      have hsls := F.sub_list_set
      have hslf := F.sub_list_frozenset
      have hne : (Value.type "list" == Value.type "dict") = false := by decide
      have hl1 : (s.heap.push (nS w)).IsList l items := ⟨_, hol', rfl, nl, rfl⟩
      unfold Builtin.«set.__init__» noKeywords Builtin.Frozenset.updateFrom
      generalize hPI : pyIter = PI
      wp_walk
      subst hPI
      refine wpAny_pyIter_list hl1 ?_
      refine wpAny_bind (wpAny_runValue ?_)
      have lost : ∀ b, s.heap.objs.size ≤ b → s.heap.get? b = none := fun b hb => by
        cases q : s.heap.get? b with
        | none => rfl
        | some o => exact absurd (Heap.lt_size q) (Nat.not_lt.mpr hb)
      refine update_loop pl seqs ((Walks.list (A := A.in1.in1.in1) (by simp [hh]) (s.heap.push (nS w)).objs.size l (by rw [hsz1]; exact Nat.ne_of_lt (Nat.lt_succ_of_lt hlS)) items).toS) s.heap.objs.size ?f ks hisz hfew (fun i v hv => ?v) s.heap hk
        (lost _ (Nat.le_refl _)) (fun b hb => lost b (by rw [List.mem_singleton.mp hb, hsz1]; exact Nat.le_succ _)) hu (items.size - 0) 0 _ (by omega) (Nat.zero_le _)
        ⟨⟨_, Heap.get?_push_size _ rfl, rfl, rfl⟩, hl1.push _⟩ (fun b o e => Heap.get?_push_of_some _ (Heap.get?_push_of_some _ e)) ?s0 ?r
      case f =>
        rw [hsz1]
        simp only [List.mem_cons, List.not_mem_nil, or_false, not_or]
        exact ⟨Nat.ne_of_lt (Nat.lt_succ_self _), Nat.ne_of_gt hlS⟩
      case v =>
        have q : items.toList[i]? = some v := by rw [Array.getElem?_toList]; exact hv
        rw [hit, List.getElem?_map] at q
        cases hq : ks[i]? with
        | none => rw [hq] at q; cases q
        | some p => rw [hq] at q; exact ⟨p, rfl, (Option.some.inj q).symm⟩
      case s0 =>
        refine ⟨[], #[], 0, _, set_first (Heap.get?_push_of_some _ ?_), fun p hp => (by cases hp), fun k => by simp, Nat.le_refl _⟩
        exact hS
      case r =>
        intro s' L es ep t hm hS' g' hkp
        obtain ⟨h', g2, d', tk', os'⟩ := s'
        obtain rfl : g2 = s.gens := hm.gens
        obtain rfl : d' = s.drawn := hm.drawn
        obtain rfl : os' = s.os := hm.os
        refine wpAny_pure ?_
        show wpAny _ _ (ret Value.none) _ _ _
        rw [hisz] at g'
        exact wpAny_pure ⟨rfl, h', tk', L, es, ep, t, rfl, hS', g', hkp⟩
    · match r₂, hr₂ with
      | .error e, hr₂ => exact hr₂
      | .ok .next, hr₂ => exact hr₂.elim
      | .ok .brk, hr₂ => exact hr₂.elim
      | .ok .cont, hr₂ => exact hr₂.elim
      | .ok (.ret r), hr₂ =>
        obtain ⟨rfl, h', tk, L, es, ep, t, rfl, hS', g', hk'⟩ := hr₂
        repeat (any_goals (first | assumption | wp_step))
        exact h _ _ _ _ _ _ hS' g' hk'
end
end Gr
/-! # Rules of my own, sixth part: len(set(xs)), xs a list of pairs (whole number, tuple of whole numbers) -/
namespace Gr
open PySem PySem.Spec PyProof.Rows L2
def pairKind (P : Program) (w : World) : HeapKind P w NKey where
  is := fun h k a => (nestedKind P w).is h (nk k) a
  hash := fun k => (nestedKind P w).hash (nk k)
  draws := fun k => (nestedKind P w).draws (nk k)
  room := (nestedKind P w).room
  inj := fun hx hy => nk_inj ((nestedKind P w).inj hx hy)
  keeps := fun x ho hd hs => (nestedKind P w).keeps x ho hd hs
  pyHash := fun hu hk h => (nestedKind P w).pyHash hu hk h
  eqBool := fun {A E s x y a b Q} hu hx hy h => (nestedKind P w).eqBool hu hx hy (by
    have : decide (nk x = nk y) = decide (x = y) := by
      by_cases e : x = y
      · subst e; simp
      · rw [decide_eq_false e, decide_eq_false fun z => e (nk_inj z)]
    rw [this]
    exact h)
  quiet := fun hk h => (nestedKind P w).quiet hk h
section
variable {P : Program} {w : World} {A : Around} {E : Value → Shared → Prop}
/-- a plain value: an int or a bool -/
def PlainV (v : Value) : Prop := (∃ i t, v = .int i t) ∨ ∃ b, v = .bool b
theorem plain_num {h : Heap} {i : Int} {v : Value} (x : NestedIs h (.num i) v) : PlainV v := by
  cases x with
  | bool _ => exact .inr ⟨_, rfl⟩
  | int i t => exact .inl ⟨_, _, rfl⟩
theorem plain_nums {h : Heap} : ∀ {ns : List Nat} {vs : List Value}, NestedAll h (ns.map kN) vs → ∀ v ∈ vs, PlainV v
  | [], _, x, v, hv => by cases x; cases hv
  | n :: ns, _, x, v, hv => by
    cases x with
    | cons a b =>
      rcases List.mem_cons.mp hv with e | hv
      · rw [e]; exact plain_num a
      · exact plain_nums b v hv
theorem ofA_plain {v : Value} (h : PlainV v) (n : Nat) : ofAClassStatement n v = pure false := by
  rcases h with ⟨i, t, rfl⟩ | ⟨b, rfl⟩ <;> cases n <;> rfl
theorem byV_plain {v : Value} (h : PlainV v) (n : Nat) : hashByValue n v = pure true := by
  rcases h with ⟨i, t, rfl⟩ | ⟨b, rfl⟩ <;> cases n <;> rfl
/-- of a tuple whose items aren't of a class statement -/
theorem ofA_tuple {s : Shared} {b : Addr} {o : Obj} {vs : Array Value} {m n : Nat} {Q : Bool → Shared → Prop} (ho : s.heap.get? b = some o) (hc : o.cls = .type "tuple") (hd : o.data = .seq vs m)
    (hi : ∀ v ∈ vs.toList, ∀ (Q : Bool → Shared → Prop), Q false s → wpAny (model P w) A (ofAClassStatement n v) Q E s) (h : Q false s) : wpAny (model P w) A (ofAClassStatement (n + 1) (.ref b)) Q E s := by
  have hT : s.TypeIs (.ref b) "tuple" := ⟨o, ho, hc⟩
  unfold ofAClassStatement
  refine wpAny_bind (wpAny_typeOf hT ?_)
  dsimp only
  have e : (("tuple" : String) == "tuple") = true := by decide
  simp only [e, if_true, Bool.not_true, Bool.false_eq_true, if_false]
  try refine wpAny_bind (wpAny_pure ?_)
  try simp only [Bool.not_true, Bool.false_eq_true, if_false]
  show wpAny _ _ (seqItems? (.ref b) >>= _) _ _ s
  refine wpAny_bind (wpAny_seqItems ho hd ?_)
  dsimp only
  refine wpAny_bind ?_
  show wpAny _ _ (forIn vs _ _) _ _ s
  rw [← Array.forIn_toList]
  refine wpAny_forIn_list _ (fun rest r s' => r.1 = none ∧ s' = s ∧ ∀ v ∈ rest, v ∈ vs.toList) _ (fun v rest r s' ⟨hr, hs, hall⟩ => ?_) (fun r s' ⟨hr, hs, _⟩ => ?_) _ _ ⟨rfl, rfl, fun _ h => h⟩
  · subst hs
    refine wpAny_bind (hi v (hall v List.mem_cons_self) _ ?_)
    simp only [Bool.false_eq_true, if_false]
    exact wpAny_pure ⟨rfl, rfl, fun u hu => hall u (List.mem_cons_of_mem _ hu)⟩
  · obtain ⟨r1, r2⟩ := r
    simp only at hr
    subst hr hs
    exact wpAny_pure h
theorem byV_tuple {s : Shared} {b : Addr} {o : Obj} {vs : Array Value} {m n : Nat} {Q : Bool → Shared → Prop} (ho : s.heap.get? b = some o) (hc : o.cls = .type "tuple") (hd : o.data = .seq vs m)
    (hi : ∀ v ∈ vs.toList, ∀ (Q : Bool → Shared → Prop), Q true s → wpAny (model P w) A (hashByValue n v) Q E s) (h : Q true s) : wpAny (model P w) A (hashByValue (n + 1) (.ref b)) Q E s := by
  have hT : s.TypeIs (.ref b) "tuple" := ⟨o, ho, hc⟩
  unfold hashByValue
  refine wpAny_bind (wpAny_specialOf hT F.slot_tuple_hash.lookup ?_)
  show wpAny _ _ (seqItems? (.ref b) >>= _) _ _ s
  refine wpAny_bind (wpAny_seqItems ho hd (wpAny_bind ?_))
  show wpAny _ _ (forIn vs _ _) _ _ s
  rw [← Array.forIn_toList]
  refine wpAny_forIn_list _ (fun rest r s' => r.1 = none ∧ s' = s ∧ ∀ v ∈ rest, v ∈ vs.toList) _ (fun v rest r s' ⟨hr, hs, hall⟩ => ?_) (fun r s' ⟨hr, hs, _⟩ => ?_) _ _ ⟨rfl, rfl, fun _ h => h⟩
  · subst hs
    refine wpAny_bind (hi v (hall v List.mem_cons_self) _ ?_)
    simp only [Bool.not_true, Bool.false_eq_true, if_false]
    exact wpAny_pure ⟨rfl, rfl, fun u hu => hall u (List.mem_cons_of_mem _ hu)⟩
  · obtain ⟨r1, r2⟩ := r
    simp only at hr
    subst hr hs
    exact wpAny_pure h
theorem nested_pair {h : Heap} {k : NKey} {a : Addr} (x : NestedIs h (nk k) (.ref a)) : ∃ o vs n, h.get? a = some o ∧ o.cls = .type "tuple" ∧ o.data = .seq vs n ∧ ∀ v ∈ vs.toList, PlainV v ∨ ∃ b o' us m, v = .ref b ∧ h.get? b = some o' ∧ o'.cls = .type "tuple" ∧ o'.data = .seq us m ∧ ∀ u ∈ us.toList, PlainV u := by
  cases x with
  | @tup _ o vs n _ hg hc hd hk =>
    refine ⟨o, vs, n, hg, hc, hd, fun v hv => ?_⟩
    generalize vs.toList = l at hk hv
    cases hk with
    | cons h1 h2 =>
      cases h2 with
      | cons h3 h4 =>
        cases h4
        rcases List.mem_cons.mp hv with e | hv
        · rw [e]; exact .inl (plain_num h1)
        · rw [List.mem_singleton.mp hv]
          cases h3 with
          | tup g2 c2 d2 k2 => exact .inr ⟨_, _, _, _, rfl, g2, c2, d2, plain_nums k2⟩
theorem pair_plain : Plain (pairKind P w) where
  ofA := fun {A E s k b Q} hk h => by
    obtain ⟨o, vs, n, h1, h2, h3, h4⟩ := nested_pair hk.1
    refine ofA_tuple (n := 7) h1 h2 h3 (fun v hv Q' q => ?_) h
    rcases h4 v hv with p | ⟨b', o', us, m, rfl, g1, g2, g3, g4⟩
    · rw [ofA_plain p]; exact wpAny_pure q
    · exact ofA_tuple (n := 6) g1 g2 g3 (fun u hu Q'' q' => by rw [ofA_plain (g4 u hu)]; exact wpAny_pure q') q
  byV := fun {A E s k b Q} hk h => by
    obtain ⟨o, vs, n, h1, h2, h3, h4⟩ := nested_pair hk.1
    refine byV_tuple (n := 7) h1 h2 h3 (fun v hv Q' q => ?_) h
    rcases h4 v hv with p | ⟨b', o', us, m, rfl, g1, g2, g3, g4⟩
    · rw [byV_plain p]; exact wpAny_pure q
    · exact byV_tuple (n := 6) g1 g2 g3 (fun u hu Q'' q' => by rw [byV_plain (g4 u hu)]; exact wpAny_pure q') q
  keep := fun hk h => ⟨NestedIs.at (fun b ob vs n hb _ => h b ob hb) _ _ hk.1, hk.2⟩
theorem pair_seqs : Seqs (pairKind P w) := fun hk h => ⟨NestedIs.at (fun b ob vs n hb hc => h b ob vs n hb hc) _ _ hk.1, hk.2⟩
end
/-! ### lists without doubles -/
theorem nodup_le {α : Type} [DecidableEq α] : ∀ (l l' : List α), l.Nodup → (∀ x ∈ l, x ∈ l') → l.length ≤ l'.length
  | [], _, _, _ => Nat.zero_le _
  | x :: l, l', hn, h => by
    have hx := h x List.mem_cons_self
    have := nodup_le l (l'.erase x) (List.nodup_cons.mp hn).2 fun y hy => (List.mem_erase_of_ne fun e => (List.nodup_cons.mp hn).1 (by rw [← e]; exact hy)).mpr (h y (List.mem_cons_of_mem _ hy))
    rw [List.length_erase_of_mem hx] at this
    have := List.length_pos_of_mem hx
    rw [List.length_cons]
    omega
theorem nodup_of_len {α : Type} [DecidableEq α] : ∀ (l l' : List α), l.Nodup → (∀ x ∈ l, x ∈ l') → l.length = l'.length → l'.Nodup
  | [], l', _, _, e => by
    rw [List.length_eq_zero_iff.mp e.symm]
    exact List.nodup_nil
  | x :: l, l', hn, h, e => by
    have hx := h x List.mem_cons_self
    have sub : ∀ y ∈ l, y ∈ l'.erase x := fun y hy => (List.mem_erase_of_ne fun e => (List.nodup_cons.mp hn).1 (by rw [← e]; exact hy)).mpr (h y (List.mem_cons_of_mem _ hy))
    have hl : (l'.erase x).length = l.length := by
      rw [List.length_erase_of_mem hx, ← e]
      rfl
    have h1 := nodup_of_len l (l'.erase x) (List.nodup_cons.mp hn).2 sub hl.symm
    have h2 : x ∉ l'.erase x := fun hm => by
      have := nodup_le (x :: l) (l'.erase x) hn fun y hy => by
        rcases List.mem_cons.mp hy with z | z
        · rw [z]; exact hm
        · exact sub y z
      rw [hl, List.length_cons] at this
      omega
    exact (List.perm_cons_erase hx).nodup_iff.mpr (List.nodup_cons.mpr ⟨h2, h1⟩)
/-! ### len(set(xs)) -/
def tLenSetN (K : PySem.W.Frag) (ta : TE) : TE := fun σ H Q => ta σ H fun x H1 => ∃ (l : Addr) (ks : List (Addr × NKey)), x = .ref l ∧ SqL K H1 l (ks.map fun p => .ref p.1) ∧ (∀ p ∈ ks, KeyAt H1 p.2 p.1) ∧ ks.length ≤ 64 ∧
  ∀ m : Nat, (m < ks.length ↔ ¬ (ks.map (·.2)).Nodup) → Q (.int (m : Nat)) H1
theorem refs_vals : ∀ {ks : List (Addr × NKey)} {us : List Value}, Vals (ks.map fun p => V.ref p.1) us → us = ks.map fun p => Value.ref p.1
  | [], _, r => by cases r; rfl
  | p :: ks, _, r => by
    cases r with
    | cons a b =>
      cases a
      rw [refs_vals b]
      rfl
theorem pe_lenSetN {X : Cx} {a : Expr} {ta : TE} {p p2 q pos : Pos} (hu : X.A.units + 20 < cLine) (hg : Gl X "len") (hm : X.mg "len" = none) (hg2 : Gl X "set") (hm2 : X.mg "set" = none) (ha : PE X a ta) (hc : X.calm = true := by rfl)
    (na : starEach [a] X.env = (false, eval a X.env) :: starEach [] X.env := by rfl) : PE X (.Call (.Name "len" p) [.Call (.Name "set" p2) [a] [] q] [] pos) (tLenSetN X.K ta) := by
  refine ⟨fun pins s σ H Q I h => ?_⟩
  refine Call_ (ld_blt I hg hm boot_len ?_)
  refine PyProof.Rows.callWith_builtin1 (PyProof.Rows.args_cons ?_ rfl) rfl rfl
  refine Call_ (ld_blt I hg2 hm2 boot_set ?_)
  refine PyProof.Rows.callWith_type1 (PyProof.Rows.args_cons (thn (ha.run pins s σ H _ I h) fun v s1 ⟨x, H1, I1, r1, q1⟩ => PyProof.Rows.args_nil ?_) na) na rfl
  obtain ⟨l, ks, rfl, hq, hk, hl, q1⟩ := q1
  cases r1
  obtain ⟨its, r, pl, hz⟩ := I1.list hq
  refine call_setK (knd := pairKind X.prog X.w) pair_plain pair_seqs ks (I1.ok.hd hc) pl.isList (by simpa using refs_vals r) (fun p hp => key_is I1 (hk p hp)) hl (by show X.A.units + 1 + 1 + 1 + 8 < cLine; omega) fun h' tk L es ep t R g hkp => ?_
  refine PyProof.Rows.args_nil ?_
  obtain ⟨o, ho, hex, hd⟩ := id R.ob
  have hf : t.fits es.size = true := fits_of R.tab R.rows (by have := R.room; omega)
  have hsz := rows_len R.rows
  have few := R.few
  have I2 : Inv X pins σ H1 { s1 with heap := h', toks := tk } := I1.kept hkp
  have hm : L.length < ks.length ↔ ¬ (ks.map (·.2)).Nodup := by
    have sub : ∀ k ∈ L.map (·.2), k ∈ ks.map (·.2) := fun k hk => by
      have := (g.mem k).mp hk
      rw [List.take_length] at this
      exact this
    have sub' : ∀ k ∈ ks.map (·.2), k ∈ L.map (·.2) := fun k hk => (g.mem k).mpr (by rw [List.take_length]; exact hk)
    have e1 : (L.map (·.2)).length = L.length := List.length_map ..
    have e2 : (ks.map (·.2)).length = ks.length := List.length_map ..
    constructor
    · intro hlt hn
      have := nodup_le _ _ hn sub'
      omega
    · intro hn
      rcases Nat.lt_or_ge L.length ks.length with z | z
      · exact z
      · have := nodup_le _ _ R.nd sub
        exact absurd (nodup_of_len _ _ R.nd sub (by omega)) hn
  refine call_len_set ho hex hd hf (by rw [hsz]; omega) ⟨.int (L.length : Nat), H1, I2.tok _, ⟨_, by rw [hsz]⟩, q1 L.length hm⟩
end Gr
/-! # Rules of my own, seventh part: a written dict of the module with whole numbers as keys; a local name that holds one of several defs that may raise; a method's call within a try -/
namespace Gr
open PySem PySem.Spec PyProof.Rows L2
/-! ### a dict of the module that nobody changes -/
def WD (P : Program) (w : World) (K : PySem.W.Frag) (a : Addr) (kvs : List (Key × V)) : Prop := (a == sysModules) = false ∧ ∃ vs, KV kvs vs ∧ ∀ h : Heap, K.In h → h.DictOf (mixKind P w) a vs
section
variable {X : Cx} {i o : Expr} {ty td : TE} {pos : Pos}
def tWIn (P : Program) (w : World) (K : PySem.W.Frag) (ty td : TE) : TE := fun σ H Q => ty σ H fun y H1 => td σ H1 fun x H2 => ∃ (a : Addr) (kvs : List (Key × V)) (k : Key), x = .ref a ∧ y = kV k ∧ WD P w K a kvs ∧ Q (.bl (valV kvs k).isSome) H2
theorem pc_win (hi : PE X i ty) (ho : PE X o td) : PC X .In i o (tWIn X.prog X.w X.K ty td) := by
  refine ⟨fun pins s σ H Q I h => ?_⟩
  refine thn (hi.run pins s σ H _ I h) fun iv s1 ⟨y, H1, I1, ry, q1⟩ => thn (ho.run pins s1 σ H1 _ I1 q1) fun u s2 ⟨x, H2, I2, rx, a, kvs, k, ex, ey, ⟨lo, vs, rel, dd⟩, q2⟩ => ?_
  subst ex ey
  obtain rfl : u = Value.ref a := rx
  refine wpAny_in_of (kV_is ry) lo (dd _ I2.kIn).mapOf ?_
  rw [← (rel.val k).isSome_eq]
  exact ⟨.bl (valV kvs k).isSome, H2, I2.tok _, rfl, q2⟩
def tWGet (P : Program) (w : World) (K : PySem.W.Frag) (td ty : TE) : TE := fun σ H Q => td σ H fun x H1 => ty σ H1 fun y H2 => ∃ (a : Addr) (kvs : List (Key × V)) (k : Key) (v : V), x = .ref a ∧ y = kV k ∧ WD P w K a kvs ∧ valV kvs k = some v ∧ Q v H2
theorem pe_wget (ho : PE X o td) (hi : PE X i ty) (hs : NoSl i) : PE X (.Subscript o i pos) (tWGet X.prog X.w X.K td ty) := by
  refine ⟨fun pins s σ H Q I h => ?_⟩
  refine subD_of PySem.F.slot_dict_getitem.lookup hs (thn (ho.run pins s σ H _ I h) fun u s1 ⟨x, H1, I1, rx, q1⟩ => thn (hi.run pins s1 σ H1 _ I1 q1) fun iv s2 ⟨y, H2, I2, ry, a, kvs, k, v, ex, ey, ⟨lo, vs, rel, dd⟩, hv, q2⟩ => ?_)
  subst ex ey
  obtain rfl : u = Value.ref a := rx
  refine ⟨(dd _ I2.kIn).typeIs, ?_⟩
  obtain ⟨w', hw, rw'⟩ := RelO.some_of (v := v) (o := valueAt vs k) (by rw [← hv]; exact rel.val k)
  exact wpAny_getItem_of (kV_is ry) (dd _ I2.kIn).mapOf hw ⟨v, H2, I2.tok _, rw', q2⟩
end
/-! ### deed(..), deed a local name -/
/-- the promise of the def at f -/
structure HeldX (P : Program) (w : World) (K : PySem.W.Frag) (mg : Str → Option Value) (base : Heap) (CX : CXT) (k : Nat) (f : Addr) (sp : Sp) : Prop where
  ex : ∃ (fd : FuncData) (ps : List Str), FnOk P w K mg base CX k f fd ps sp ∧ PySem.W.keepIn K (.ref f) = true ∧ Binds K fd ps []
def tCallX (P : Program) (w : World) (K : PySem.W.Frag) (mg : Str → Option Value) (base : Heap) (CX : CXT) (k i : Nat) (E : XK) (t : TA) : TE := fun σ H Q => ∃ (f : Addr) (sp : Sp), σ[i]? = some (some (.ref f)) ∧ HeldX P w K mg base CX k f sp ∧ t σ H fun vs H1 => sp vs H1 Q E
section
variable {X : Cx} {CX : CXT} {k i : Nat} {E : XK} {x : Str} {p pos : Pos} {e : Expr} {es : List Expr} {t : TA}
theorem pe_callX (hr : Room k X.A) (hN : X.N[i]? = some x) (hv : Vis X.env.scope x) (hx : Passes CX X E) (ha : PA X (e :: es) t)
    (hdb : (x == ("__debug__" : Str)) = false := by decide) (hcd : (x == ("__classdict__" : Str)) = false := by decide)
    (he : starEach (e :: es) X.env = (false, eval e X.env) :: starEach es X.env := by rfl) (hpl : (backTo pos (starEach es X.env)).any (·.1) = false := by rfl) :
    PE X (.Call (.Name x p) (e :: es) [] pos) (tCallX X.prog X.w X.K X.mg X.base CX k i E t) := by
  refine ⟨fun pins s σ H Q I h => ?_⟩
  obtain ⟨f, sp, hs, ⟨fd, ps, F, hk, hb⟩, ht⟩ := h
  refine (pe_callL (i := i) (f := f) (sp := sp) (dvs := []) (E := E) F hr hN hv hk hb .nil hx ha hdb hcd he hpl).run pins s σ H Q I ⟨hs, ?_⟩
  simp only [List.append_nil]
  exact ht
end
end Gr
/-! # The program's text, what its top leaves, and how its things lie in the heap -/
namespace Gw
open PySem PySem.Spec PyProof.Rows L2 Gr
/-- the i-th statement of the program -/
def topS (i : Nat) : Stmt := PySem.Challenge.pw_regrown_s01_answers.main.body.getD i (.Pass ⟨0, 0, 0, 0⟩)
/-- the addresses of what the top has written -/
structure Ad where
  c_Grammar : Addr
  c_Ends : Addr
  c_Tree : Addr
  c_House : Addr
  c_NotLet : Addr
  c_Keeper : Addr
  f_Grammar_init : Addr
  f_is_part : Addr
  f_are_counts : Addr
  f_is_sign : Addr
  f_rules_told : Addr
  f_are_rules : Addr
  f_led_alone : Addr
  f_is_sound : Addr
  f_Ends_init : Addr
  f_Ends_of_sign : Addr
  f_Ends_behind : Addr
  f_Ends_grow : Addr
  f_Ends_fill_rests : Addr
  f_Ends_fill : Addr
  f_places_in : Addr
  f_has : Addr
  f_first_rule : Addr
  f_cuts : Addr
  f_Tree_init : Addr
  f_first_tree : Addr
  f_read : Addr
  f_House_init : Addr
  f_House_key_of : Addr
  f_House_take : Addr
  f_House_change : Addr
  f_House_step : Addr
  f_House_edit : Addr
  f_House_move : Addr
  f_House_undo : Addr
  f_House_redo : Addr
  f_House_has_had : Addr
  f_House_place_of : Addr
  f_House_set_mark : Addr
  f_House_is_full_for : Addr
  f_stretch_told : Addr
  f_NotLet_init : Addr
  f_want : Addr
  f_first_house : Addr
  f_begin : Addr
  f_edit : Addr
  f_move : Addr
  f_undo : Addr
  f_redo : Addr
  f_tree : Addr
  f_words : Addr
  f_want_name : Addr
  f_node : Addr
  f_at : Addr
  f_mark : Addr
  f_marks : Addr
  f_taken_apart : Addr
  f_told_of : Addr
  f_Keeper_init : Addr
  f_Keeper_answer : Addr
  f_answers : Addr
  r_BY_NONE : Addr
  r_BY_ONE : Addr
  r_BY_THREE : Addr
  r_BY_TWO : Addr
  r_SIZES : Addr
  r_WITH_LIST : Addr
  t_BEGIN : Tok
  t_MOST_MARK : Tok
  t_MOST_MARKS : Tok
  t_MOST_PARTS : Tok
  t_MOST_RULES : Tok
  t_MOST_SIGNS : Tok
  t_MOST_TEXT : Tok
  t_MOST_UNDO : Tok
  t_MOST_WORDS : Tok
  t_NONE_SUCH : Tok
  t_NOT_AS_TOLD : Tok
  t_NOT_SOUND : Tok
  t_NOT_THERE : Tok
  t_PART : Tok
  t_TOO_MANY : Tok
/-- what the top has written, as far as it is asked -/
structure Txt (K : PySem.W.Frag) (mg : Str → Option Value) (a : Ad) : Prop where
  n_len : mg "len" = none
  n_range : mg "range" = none
  n_enumerate : mg "enumerate" = none
  n_tuple : mg "tuple" = none
  n_set : mg "set" = none
  n_all : mg "all" = none
  n_sorted : mg "sorted" = none
  n_ValueError : mg "ValueError" = none
  i_BEGIN : mg "BEGIN" = some (.int (1) a.t_BEGIN)
  i_MOST_MARK : mg "MOST_MARK" = some (.int (1000000000000000000) a.t_MOST_MARK)
  i_MOST_MARKS : mg "MOST_MARKS" = some (.int (64) a.t_MOST_MARKS)
  i_MOST_PARTS : mg "MOST_PARTS" = some (.int (32) a.t_MOST_PARTS)
  i_MOST_RULES : mg "MOST_RULES" = some (.int (64) a.t_MOST_RULES)
  i_MOST_SIGNS : mg "MOST_SIGNS" = some (.int (8) a.t_MOST_SIGNS)
  i_MOST_TEXT : mg "MOST_TEXT" = some (.int (24) a.t_MOST_TEXT)
  i_MOST_UNDO : mg "MOST_UNDO" = some (.int (64) a.t_MOST_UNDO)
  i_MOST_WORDS : mg "MOST_WORDS" = some (.int (64) a.t_MOST_WORDS)
  i_NONE_SUCH : mg "NONE_SUCH" = some (.int (-2) a.t_NONE_SUCH)
  i_NOT_AS_TOLD : mg "NOT_AS_TOLD" = some (.int (-1) a.t_NOT_AS_TOLD)
  i_NOT_SOUND : mg "NOT_SOUND" = some (.int (-4) a.t_NOT_SOUND)
  i_NOT_THERE : mg "NOT_THERE" = some (.int (-3) a.t_NOT_THERE)
  i_PART : mg "PART" = some (.int (64) a.t_PART)
  i_TOO_MANY : mg "TOO_MANY" = some (.int (-5) a.t_TOO_MANY)
  r_BY_NONE : mg "BY_NONE" = some (.ref a.r_BY_NONE)
  r_BY_ONE : mg "BY_ONE" = some (.ref a.r_BY_ONE)
  r_BY_THREE : mg "BY_THREE" = some (.ref a.r_BY_THREE)
  r_BY_TWO : mg "BY_TWO" = some (.ref a.r_BY_TWO)
  r_SIZES : mg "SIZES" = some (.ref a.r_SIZES)
  r_WITH_LIST : mg "WITH_LIST" = some (.ref a.r_WITH_LIST)
  g_is_part : mg "is_part" = some (.ref a.f_is_part)
  g_are_counts : mg "are_counts" = some (.ref a.f_are_counts)
  g_is_sign : mg "is_sign" = some (.ref a.f_is_sign)
  g_rules_told : mg "rules_told" = some (.ref a.f_rules_told)
  g_are_rules : mg "are_rules" = some (.ref a.f_are_rules)
  g_led_alone : mg "led_alone" = some (.ref a.f_led_alone)
  g_is_sound : mg "is_sound" = some (.ref a.f_is_sound)
  g_places_in : mg "places_in" = some (.ref a.f_places_in)
  g_has : mg "has" = some (.ref a.f_has)
  g_first_rule : mg "first_rule" = some (.ref a.f_first_rule)
  g_cuts : mg "cuts" = some (.ref a.f_cuts)
  g_first_tree : mg "first_tree" = some (.ref a.f_first_tree)
  g_read : mg "read" = some (.ref a.f_read)
  g_stretch_told : mg "stretch_told" = some (.ref a.f_stretch_told)
  g_want : mg "want" = some (.ref a.f_want)
  g_first_house : mg "first_house" = some (.ref a.f_first_house)
  g_begin : mg "begin" = some (.ref a.f_begin)
  g_edit : mg "edit" = some (.ref a.f_edit)
  g_move : mg "move" = some (.ref a.f_move)
  g_undo : mg "undo" = some (.ref a.f_undo)
  g_redo : mg "redo" = some (.ref a.f_redo)
  g_tree : mg "tree" = some (.ref a.f_tree)
  g_words : mg "words" = some (.ref a.f_words)
  g_want_name : mg "want_name" = some (.ref a.f_want_name)
  g_node : mg "node" = some (.ref a.f_node)
  g_at : mg "at" = some (.ref a.f_at)
  g_mark : mg "mark" = some (.ref a.f_mark)
  g_marks : mg "marks" = some (.ref a.f_marks)
  g_taken_apart : mg "taken_apart" = some (.ref a.f_taken_apart)
  g_told_of : mg "told_of" = some (.ref a.f_told_of)
  g_answers : mg "answers" = some (.ref a.f_answers)
  g_Grammar : mg "Grammar" = some (.ref a.c_Grammar)
  c_Grammar : Cls K a.c_Grammar
  mk_Grammar : Mk K a.c_Grammar a.f_Grammar_init
  na_Grammar_words : NoAttr K a.c_Grammar "words"
  na_Grammar_parts : NoAttr K a.c_Grammar "parts"
  na_Grammar_rules : NoAttr K a.c_Grammar "rules"
  g_Ends : mg "Ends" = some (.ref a.c_Ends)
  c_Ends : Cls K a.c_Ends
  mk_Ends : Mk K a.c_Ends a.f_Ends_init
  na_Ends_grammar : NoAttr K a.c_Ends "grammar"
  na_Ends_text : NoAttr K a.c_Ends "text"
  na_Ends_of_parts : NoAttr K a.c_Ends "of_parts"
  na_Ends_of_rests : NoAttr K a.c_Ends "of_rests"
  m_Ends_of_sign : Meth K a.c_Ends "of_sign" a.f_Ends_of_sign
  m_Ends_behind : Meth K a.c_Ends "behind" a.f_Ends_behind
  m_Ends_grow : Meth K a.c_Ends "grow" a.f_Ends_grow
  m_Ends_fill_rests : Meth K a.c_Ends "fill_rests" a.f_Ends_fill_rests
  m_Ends_fill : Meth K a.c_Ends "fill" a.f_Ends_fill
  g_Tree : mg "Tree" = some (.ref a.c_Tree)
  c_Tree : Cls K a.c_Tree
  mk_Tree : Mk K a.c_Tree a.f_Tree_init
  na_Tree_listed : NoAttr K a.c_Tree "listed"
  na_Tree_nodes : NoAttr K a.c_Tree "nodes"
  g_House : mg "House" = some (.ref a.c_House)
  c_House : Cls K a.c_House
  mk_House : Mk K a.c_House a.f_House_init
  na_House_grammar : NoAttr K a.c_House "grammar"
  na_House_text : NoAttr K a.c_House "text"
  na_House_next_word : NoAttr K a.c_House "next_word"
  na_House_names : NoAttr K a.c_House "names"
  na_House_marks : NoAttr K a.c_House "marks"
  na_House_elder : NoAttr K a.c_House "elder"
  na_House_later : NoAttr K a.c_House "later"
  na_House_tree : NoAttr K a.c_House "tree"
  na_House_order : NoAttr K a.c_House "order"
  m_House_key_of : Meth K a.c_House "key_of" a.f_House_key_of
  m_House_take : Meth K a.c_House "take" a.f_House_take
  m_House_change : Meth K a.c_House "change" a.f_House_change
  m_House_step : Meth K a.c_House "step" a.f_House_step
  m_House_edit : Meth K a.c_House "edit" a.f_House_edit
  m_House_move : Meth K a.c_House "move" a.f_House_move
  m_House_undo : Meth K a.c_House "undo" a.f_House_undo
  m_House_redo : Meth K a.c_House "redo" a.f_House_redo
  m_House_has_had : Meth K a.c_House "has_had" a.f_House_has_had
  m_House_place_of : Meth K a.c_House "place_of" a.f_House_place_of
  m_House_set_mark : Meth K a.c_House "set_mark" a.f_House_set_mark
  m_House_is_full_for : Meth K a.c_House "is_full_for" a.f_House_is_full_for
  g_NotLet : mg "NotLet" = some (.ref a.c_NotLet)
  g_Keeper : mg "Keeper" = some (.ref a.c_Keeper)
  c_Keeper : Cls K a.c_Keeper
  mk_Keeper : Mk K a.c_Keeper a.f_Keeper_init
  na_Keeper_house : NoAttr K a.c_Keeper "house"
  m_Keeper_answer : Meth K a.c_Keeper "answer" a.f_Keeper_answer
  oex : OexC K a.c_NotLet
  init_NotLet : PySem.W.findIn K (.ref a.c_NotLet) "__init__" = some (some (.ref a.f_NotLet_init))
  tf_NotLet : PySem.W.typeIn K (.ref a.f_NotLet_init) = some (.type "function")
  no_number : PySem.W.findIn K (.ref a.c_NotLet) "number" = some none
  ve : PySem.W.findCls K (.type "ValueError") (.type "type") "__init__" = some (.val (.builtin "ValueError.__init__"))
  e_NotLet : PySem.W.exmOne K (.ref a.c_NotLet) (.ref a.c_NotLet) = some true
  w_SIZES : ∃ (o : Obj) (its : Array Value) (n : Nat), K.lookup a.r_SIZES = some o ∧ o.cls = .type "tuple" ∧ o.data = .seq its n ∧ its.size ≤ sizeLine ∧ Vals [.int 0, .int 2, .int 2, .int 3, .int 0, .int 0, .int 0, .int 0, .int 1, .int 2, .int 2, .int 0] its.toList
  w_WITH_LIST : ∃ (o : Obj) (its : Array Value) (n : Nat), K.lookup a.r_WITH_LIST = some o ∧ o.cls = .type "tuple" ∧ o.data = .seq its n ∧ its.size ≤ sizeLine ∧ Vals [.int 1, .int 2] its.toList
  d_BY_NONE : ∀ (P : Program) (w : World), Gr.WD P w K a.r_BY_NONE [(.inl 4, .ref a.f_undo), (.inl 5, .ref a.f_redo), (.inl 6, .ref a.f_tree), (.inl 7, .ref a.f_words), (.inl 11, .ref a.f_marks)]
  d_BY_ONE : ∀ (P : Program) (w : World), Gr.WD P w K a.r_BY_ONE [(.inl 8, .ref a.f_node)]
  d_BY_TWO : ∀ (P : Program) (w : World), Gr.WD P w K a.r_BY_TWO [(.inl 9, .ref a.f_at), (.inl 10, .ref a.f_mark)]
  d_BY_THREE : ∀ (P : Program) (w : World), Gr.WD P w K a.r_BY_THREE [(.inl 2, .ref a.f_edit), (.inl 3, .ref a.f_move)]
abbrev s_Grammar_init : Stmt := inClass (topS 6) 0
theorem sc_Grammar_init : FnScope ["self", "words", "parts", "rules"] ["self", "words", "parts", "rules"] (defScope s_Grammar_init) := ⟨rfl, rfl, rfl, by decide +kernel, rfl, by decide +kernel, by decide +kernel⟩
abbrev s_is_part : Stmt := topS 7
theorem sc_is_part : FnScope ["sign"] ["sign"] (defScope s_is_part) := ⟨rfl, rfl, rfl, by decide +kernel, rfl, by decide +kernel, by decide +kernel⟩
abbrev s_are_counts : Stmt := topS 8
theorem sc_are_counts : FnScope ["words", "parts"] ["words", "parts"] (defScope s_are_counts) := ⟨rfl, rfl, rfl, by decide +kernel, rfl, by decide +kernel, by decide +kernel⟩
abbrev s_is_sign : Stmt := topS 9
theorem sc_is_sign : FnScope ["sign", "words", "parts"] ["sign", "words", "parts"] (defScope s_is_sign) := ⟨rfl, rfl, rfl, by decide +kernel, rfl, by decide +kernel, by decide +kernel⟩
abbrev s_rules_told : Stmt := topS 10
theorem sc_rules_told : FnScope ["told", "found", "at", "end"] ["told"] (defScope s_rules_told) := ⟨rfl, rfl, rfl, by decide +kernel, rfl, by decide +kernel, by decide +kernel⟩
abbrev s_are_rules : Stmt := topS 11
theorem sc_are_rules : FnScope ["rules", "words", "parts", "part", "signs", "sign"] ["rules", "words", "parts"] (defScope s_are_rules) := ⟨rfl, rfl, rfl, by decide +kernel, rfl, by decide +kernel, by decide +kernel⟩
abbrev s_led_alone : Stmt := topS 12
theorem sc_led_alone : FnScope ["rules", "part", "found", "left", "here", "own", "signs"] ["rules", "part"] (defScope s_led_alone) := ⟨rfl, rfl, rfl, by decide +kernel, rfl, by decide +kernel, by decide +kernel⟩
abbrev s_is_sound : Stmt := topS 13
theorem sc_is_sound : FnScope ["rules", "parts", "part"] ["rules", "parts"] (defScope s_is_sound) := ⟨rfl, rfl, rfl, by decide +kernel, rfl, by decide +kernel, by decide +kernel⟩
abbrev s_Ends_init : Stmt := inClass (topS 15) 0
theorem sc_Ends_init : FnScope ["self", "grammar", "text", "place", "part", "signs"] ["self", "grammar", "text"] (defScope s_Ends_init) := ⟨rfl, rfl, rfl, by decide +kernel, rfl, by decide +kernel, by decide +kernel⟩
abbrev s_Ends_of_sign : Stmt := inClass (topS 15) 1
theorem sc_Ends_of_sign : FnScope ["self", "sign", "place"] ["self", "sign", "place"] (defScope s_Ends_of_sign) := ⟨rfl, rfl, rfl, by decide +kernel, rfl, by decide +kernel, by decide +kernel⟩
abbrev s_Ends_behind : Stmt := inClass (topS 15) 2
theorem sc_Ends_behind : FnScope ["self", "rule", "at", "place", "ends", "found", "end"] ["self", "rule", "at", "place"] (defScope s_Ends_behind) := ⟨rfl, rfl, rfl, by decide +kernel, rfl, by decide +kernel, by decide +kernel⟩
abbrev s_Ends_grow : Stmt := inClass (topS 15) 3
theorem sc_Ends_grow : FnScope ["self", "place", "has_come", "rule", "part", "signs", "ends"] ["self", "place"] (defScope s_Ends_grow) := ⟨rfl, rfl, rfl, by decide +kernel, rfl, by decide +kernel, by decide +kernel⟩
abbrev s_Ends_fill_rests : Stmt := inClass (topS 15) 4
theorem sc_Ends_fill_rests : FnScope ["self", "place", "rule", "part", "signs", "at"] ["self", "place"] (defScope s_Ends_fill_rests) := ⟨rfl, rfl, rfl, by decide +kernel, rfl, by decide +kernel, by decide +kernel⟩
abbrev s_Ends_fill : Stmt := inClass (topS 15) 5
theorem sc_Ends_fill : FnScope ["self", "place"] ["self"] (defScope s_Ends_fill) := ⟨rfl, rfl, rfl, by decide +kernel, rfl, by decide +kernel, by decide +kernel⟩
abbrev s_places_in : Stmt := topS 16
theorem sc_places_in : FnScope ["some", "place"] ["some"] (defScope s_places_in) := ⟨rfl, rfl, rfl, by decide +kernel, rfl, by decide +kernel, by decide +kernel⟩
abbrev s_has : Stmt := topS 17
theorem sc_has : FnScope ["some", "place"] ["some", "place"] (defScope s_has) := ⟨rfl, rfl, rfl, by decide +kernel, rfl, by decide +kernel, by decide +kernel⟩
abbrev s_first_rule : Stmt := topS 18
theorem sc_first_rule : FnScope ["ends", "part", "begin", "end", "rule", "own", "signs"] ["ends", "part", "begin", "end"] (defScope s_first_rule) := ⟨rfl, rfl, rfl, by decide +kernel, rfl, by decide +kernel, by decide +kernel⟩
abbrev s_cuts : Stmt := topS 19
theorem sc_cuts : FnScope ["ends", "rule", "begin", "end", "signs", "found", "here", "at", "sign", "there", "some", "place"] ["ends", "rule", "begin", "end"] (defScope s_cuts) := ⟨rfl, rfl, rfl, by decide +kernel, rfl, by decide +kernel, by decide +kernel⟩
abbrev s_Tree_init : Stmt := inClass (topS 20) 0
theorem sc_Tree_init : FnScope ["self"] ["self"] (defScope s_Tree_init) := ⟨rfl, rfl, rfl, by decide +kernel, rfl, by decide +kernel, by decide +kernel⟩
abbrev s_first_tree : Stmt := topS 21
theorem sc_first_tree : FnScope ["ends", "many", "found", "waiting", "sign", "begin", "end", "around", "rule", "own", "one", "first", "last"] ["ends"] (defScope s_first_tree) := ⟨rfl, rfl, rfl, by decide +kernel, rfl, by decide +kernel, by decide +kernel⟩
abbrev s_read : Stmt := topS 22
theorem sc_read : FnScope ["grammar", "text", "ends"] ["grammar", "text"] (defScope s_read) := ⟨rfl, rfl, rfl, by decide +kernel, rfl, by decide +kernel, by decide +kernel⟩
abbrev s_House_init : Stmt := inClass (topS 28) 0
theorem sc_House_init : FnScope ["self", "grammar"] ["self", "grammar"] (defScope s_House_init) := ⟨rfl, rfl, rfl, by decide +kernel, rfl, by decide +kernel, by decide +kernel⟩
abbrev s_House_key_of : Stmt := inClass (topS 28) 1
theorem sc_House_key_of : FnScope ["self", "node", "rule", "begin", "end", "around", "name", "word"] ["self", "node"] (defScope s_House_key_of) := ⟨rfl, rfl, rfl, by decide +kernel, rfl, by decide +kernel, by decide +kernel⟩
abbrev s_House_take : Stmt := inClass (topS 28) 2
theorem sc_House_take : FnScope ["self", "text", "node", "key", "name", "word"] ["self", "text"] (defScope s_House_take) := ⟨rfl, rfl, rfl, by decide +kernel, rfl, by decide +kernel, by decide +kernel⟩
abbrev s_House_change : Stmt := inClass (topS 28) 3
theorem sc_House_change : FnScope ["self", "text", "before", "came", "went", "name"] ["self", "text"] (defScope s_House_change) := ⟨rfl, rfl, rfl, by decide +kernel, rfl, by decide +kernel, by decide +kernel⟩
abbrev s_House_step : Stmt := inClass (topS 28) 4
theorem sc_House_step : FnScope ["self", "text"] ["self", "text"] (defScope s_House_step) := ⟨rfl, rfl, rfl, by decide +kernel, rfl, by decide +kernel, by decide +kernel⟩
abbrev s_House_edit : Stmt := inClass (topS 28) 5
theorem sc_House_edit : FnScope ["self", "i", "n", "words", "new", "k", "word"] ["self", "i", "n", "words"] (defScope s_House_edit) := ⟨rfl, rfl, rfl, by decide +kernel, rfl, by decide +kernel, by decide +kernel⟩
abbrev s_House_move : Stmt := inClass (topS 28) 6
theorem sc_House_move : FnScope ["self", "i", "n", "to", "left"] ["self", "i", "n", "to"] (defScope s_House_move) := ⟨rfl, rfl, rfl, by decide +kernel, rfl, by decide +kernel, by decide +kernel⟩
abbrev s_House_undo : Stmt := inClass (topS 28) 7
theorem sc_House_undo : FnScope ["self", "text"] ["self"] (defScope s_House_undo) := ⟨rfl, rfl, rfl, by decide +kernel, rfl, by decide +kernel, by decide +kernel⟩
abbrev s_House_redo : Stmt := inClass (topS 28) 8
theorem sc_House_redo : FnScope ["self", "text"] ["self"] (defScope s_House_redo) := ⟨rfl, rfl, rfl, by decide +kernel, rfl, by decide +kernel, by decide +kernel⟩
abbrev s_House_has_had : Stmt := inClass (topS 28) 9
theorem sc_House_has_had : FnScope ["self", "name"] ["self", "name"] (defScope s_House_has_had) := ⟨rfl, rfl, rfl, by decide +kernel, rfl, by decide +kernel, by decide +kernel⟩
abbrev s_House_place_of : Stmt := inClass (topS 28) 10
theorem sc_House_place_of : FnScope ["self", "name"] ["self", "name"] (defScope s_House_place_of) := ⟨rfl, rfl, rfl, by decide +kernel, rfl, by decide +kernel, by decide +kernel⟩
abbrev s_House_set_mark : Stmt := inClass (topS 28) 11
theorem sc_House_set_mark : FnScope ["self", "name", "v"] ["self", "name", "v"] (defScope s_House_set_mark) := ⟨rfl, rfl, rfl, by decide +kernel, rfl, by decide +kernel, by decide +kernel⟩
abbrev s_House_is_full_for : Stmt := inClass (topS 28) 12
theorem sc_House_is_full_for : FnScope ["self", "name", "one"] ["self", "name"] (defScope s_House_is_full_for) := ⟨rfl, rfl, rfl, by decide +kernel, rfl, by decide +kernel, by decide +kernel⟩
abbrev s_stretch_told : Stmt := topS 29
theorem sc_stretch_told : FnScope ["node", "rule", "begin", "end", "around"] ["node"] (defScope s_stretch_told) := ⟨rfl, rfl, rfl, by decide +kernel, rfl, by decide +kernel, by decide +kernel⟩
abbrev s_NotLet_init : Stmt := inClass (topS 36) 0
theorem sc_NotLet_init : FnScope ["self", "number"] ["self", "number"] (defScope s_NotLet_init) := ⟨rfl, rfl, rfl, by decide +kernel, rfl, by decide +kernel, by decide +kernel⟩
abbrev s_want : Stmt := topS 37
theorem sc_want : FnScope ["is_so", "number"] ["is_so", "number"] (defScope s_want) := ⟨rfl, rfl, rfl, by decide +kernel, rfl, by decide +kernel, by decide +kernel⟩
abbrev s_first_house : Stmt := topS 38
theorem sc_first_house : FnScope [] [] (defScope s_first_house) := ⟨rfl, rfl, rfl, by decide +kernel, rfl, by decide +kernel, by decide +kernel⟩
abbrev s_begin : Stmt := topS 39
theorem sc_begin : FnScope ["words", "parts", "told", "rules"] ["words", "parts", "told"] (defScope s_begin) := ⟨rfl, rfl, rfl, by decide +kernel, rfl, by decide +kernel, by decide +kernel⟩
abbrev s_edit : Stmt := topS 40
theorem sc_edit : FnScope ["house", "i", "n", "words", "word"] ["house", "i", "n", "words"] (defScope s_edit) := ⟨rfl, rfl, rfl, by decide +kernel, rfl, by decide +kernel, by decide +kernel⟩
abbrev s_move : Stmt := topS 41
theorem sc_move : FnScope ["house", "i", "n", "to"] ["house", "i", "n", "to"] (defScope s_move) := ⟨rfl, rfl, rfl, by decide +kernel, rfl, by decide +kernel, by decide +kernel⟩
abbrev s_undo : Stmt := topS 42
theorem sc_undo : FnScope ["house"] ["house"] (defScope s_undo) := ⟨rfl, rfl, rfl, by decide +kernel, rfl, by decide +kernel, by decide +kernel⟩
abbrev s_redo : Stmt := topS 43
theorem sc_redo : FnScope ["house"] ["house"] (defScope s_redo) := ⟨rfl, rfl, rfl, by decide +kernel, rfl, by decide +kernel, by decide +kernel⟩
abbrev s_tree : Stmt := topS 44
theorem sc_tree : FnScope ["house"] ["house"] (defScope s_tree) := ⟨rfl, rfl, rfl, by decide +kernel, rfl, by decide +kernel, by decide +kernel⟩
abbrev s_words : Stmt := topS 45
theorem sc_words : FnScope ["house", "found", "name", "word"] ["house"] (defScope s_words) := ⟨rfl, rfl, rfl, by decide +kernel, rfl, by decide +kernel, by decide +kernel⟩
abbrev s_want_name : Stmt := topS 46
theorem sc_want_name : FnScope ["house", "name"] ["house", "name"] (defScope s_want_name) := ⟨rfl, rfl, rfl, by decide +kernel, rfl, by decide +kernel, by decide +kernel⟩
abbrev s_node : Stmt := topS 47
theorem sc_node : FnScope ["house", "name", "own", "around"] ["house", "name"] (defScope s_node) := ⟨rfl, rfl, rfl, by decide +kernel, rfl, by decide +kernel, by decide +kernel⟩
abbrev s_at : Stmt := topS 48
theorem sc_at : FnScope ["house", "i", "j", "over", "k", "one"] ["house", "i", "j"] (defScope s_at) := ⟨rfl, rfl, rfl, by decide +kernel, rfl, by decide +kernel, by decide +kernel⟩
abbrev s_mark : Stmt := topS 49
theorem sc_mark : FnScope ["house", "name", "v"] ["house", "name", "v"] (defScope s_mark) := ⟨rfl, rfl, rfl, by decide +kernel, rfl, by decide +kernel, by decide +kernel⟩
abbrev s_marks : Stmt := topS 50
theorem sc_marks : FnScope ["house", "name", "awake", "found"] ["house"] (defScope s_marks) := ⟨rfl, rfl, rfl, by decide +kernel, rfl, by decide +kernel, by decide +kernel⟩
abbrev s_taken_apart : Stmt := topS 59
theorem sc_taken_apart : FnScope ["calls", "found", "here", "call", "end", "given", "behind"] ["calls"] (defScope s_taken_apart) := ⟨rfl, rfl, rfl, by decide +kernel, rfl, by decide +kernel, by decide +kernel⟩
abbrev s_told_of : Stmt := topS 60
theorem sc_told_of : FnScope ["house", "call", "given", "deed"] ["house", "call", "given"] (defScope s_told_of) := ⟨rfl, rfl, rfl, by decide +kernel, rfl, by decide +kernel, by decide +kernel⟩
abbrev s_Keeper_init : Stmt := inClass (topS 61) 0
theorem sc_Keeper_init : FnScope ["self"] ["self"] (defScope s_Keeper_init) := ⟨rfl, rfl, rfl, by decide +kernel, rfl, by decide +kernel, by decide +kernel⟩
abbrev s_Keeper_answer : Stmt := inClass (topS 61) 1
theorem sc_Keeper_answer : FnScope ["self", "call", "given"] ["self", "call", "given"] (defScope s_Keeper_answer) := ⟨rfl, rfl, rfl, by decide +kernel, rfl, by decide +kernel, by decide +kernel⟩
abbrev s_answers : Stmt := topS 62
theorem sc_answers : FnScope ["calls", "keeper", "found", "call", "given", "told", "e"] ["calls"] (defScope s_answers) := ⟨rfl, rfl, rfl, by decide +kernel, rfl, by decide +kernel, by decide +kernel⟩
/-- a def of the text as it stands behind the top -/
def Fn (K : PySem.W.Frag) (x qual : Str) (st : Stmt) (f : Addr) : Prop := ∃ fd, Fun K x qual st f fd
/-- its promise, kept -/
def Pr (P : Program) (w : World) (K : PySem.W.Frag) (mg : Str → Option Value) (base : Heap) (CX : CXT) (k : Nat) (f : Addr) (ps : List Str) (sp : Sp) : Prop := ∃ fd, FnOk P w K mg base CX k f fd ps sp ∧ Binds K fd ps [] ∧ PySem.W.keepIn K (.ref f) = true

/-! ### heaps -/
theorem same_new {H : Hp} {p : Addr} {o : HO} (h : H p = none) : Same H (upd H p o) := fun b x e => by
  rw [upd_ne (ne_of_none e h)]
  exact e
/-- all stands but what is in S -/
def Kp (S : Addr → Prop) (H H' : Hp) : Prop := ∀ b o, H b = some o → ¬ S b → H' b = some o
theorem Kp.of {S : Addr → Prop} {H H' : Hp} (h : Same H H') : Kp S H H' := fun b o e _ => h b o e
theorem Kp.trans {S : Addr → Prop} {H H1 H2 : Hp} (h : Kp S H H1) (h' : Kp S H1 H2) : Kp S H H2 := fun b o e n => h' b o (h b o e n) n
theorem Kp.refl (S : Addr → Prop) (H : Hp) : Kp S H H := fun _ _ e _ => e
/-- a list at a of objects that stand for the xs -/
def LA {α : Type} (R : Hp → Addr → α → Prop) (H : Hp) (a : Addr) (xs : List α) : Prop := ∃ ps : List (Addr × α), H a = some (.lst (ps.map fun p => V.ref p.1)) ∧ ps.map (·.2) = xs ∧ ∀ p ∈ ps, R H p.1 p.2
theorem LA.mono {α : Type} {R : Hp → Addr → α → Prop} {H H' : Hp} {a : Addr} {xs : List α} (h : LA R H a xs) (k : Same H H') (m : ∀ b x, R H b x → R H' b x) : LA R H' a xs := by
  obtain ⟨ps, h1, h2, h3⟩ := h
  exact ⟨ps, k _ _ h1, h2, fun p hp => m _ _ (h3 p hp)⟩
/-- numbers that are not negative, in a list | a tuple -/
def NumsL (H : Hp) (a : Addr) (ns : List Nat) : Prop := H a = some (.lst (ns.map vN))
def NumsT (H : Hp) (a : Addr) (ns : List Nat) : Prop := H a = some (.tup (ns.map vN))
/-- (part, signs) -/
def PairAt (H : Hp) (b : Addr) (k : NKey) : Prop := KeyAt H k b
abbrev RulesAt := LA PairAt
theorem PairAt.mono {H H' : Hp} (k : Same H H') (b : Addr) (x : NKey) (h : PairAt H b x) : PairAt H' b x := KeyAt.mono h fun _ _ e => k _ _ e
theorem RulesAt.mono {H H' : Hp} {a : Addr} {ks : List NKey} (h : RulesAt H a ks) (k : Same H H') : RulesAt H' a ks := LA.mono h k (PairAt.mono k)
/-! ### tests and numbers -/
theorem dec_eq {c d : Prop} [Decidable c] [Decidable d] (h : c ↔ d) : decide c = decide d := by
  by_cases x : d
  · rw [decide_eq_true x, decide_eq_true (h.mpr x)]
  · rw [decide_eq_false x, decide_eq_false fun y => x (h.mp y)]
theorem bl_by {c d : Prop} [Decidable c] [Decidable d] {Q : VK} {H : Hp} (h : c ↔ d) (q : Q (.bl (decide d)) H) : Q (.bl (decide c)) H := by
  rw [dec_eq h]
  exact q
theorem bits_eq (n : Nat) : Builtin.Int.intBits (n : Int) = Gs.bl n := by
  unfold Builtin.Int.intBits Gs.bl
  by_cases h : n = 0
  · subst h; rfl
  · have h2 : ((n : Int) == 0) = false := by
      rw [beq_eq_false_iff_ne]
      omega
    rw [h2, if_neg h]
    simp
theorem bitAnd_nat (a b : Nat) : Builtin.bitAnd (a : Int) (b : Int) = ((a &&& b : Nat) : Int) := by
  unfold Builtin.bitAnd
  rw [decide_eq_true (Int.natCast_nonneg a), decide_eq_true (Int.natCast_nonneg b)]
  simp
theorem bitOr_nat (a b : Nat) : Builtin.bitOr (a : Int) (b : Int) = ((a ||| b : Nat) : Int) := by
  unfold Builtin.bitOr Builtin.bitAnd Builtin.bitNot
  have h1 : ¬ (0 ≤ -(a : Int) - 1) := by omega
  have h2 : ¬ (0 ≤ -(b : Int) - 1) := by omega
  simp only [h1, h2, decide_false]
  have e1 : (-(-(a : Int) - 1) - 1).toNat = a := by omega
  have e2 : (-(-(b : Int) - 1) - 1).toNat = b := by omega
  rw [e1, e2]
  omega
theorem shr_nat (a k : Nat) : (a : Int) / 2 ^ k = ((a / 2 ^ k : Nat) : Int) := by simp
theorem bit_one (n k : Nat) : decide (V.int (Builtin.bitAnd ((n : Int) / 2 ^ ((k : Int)).toNat) 1) = V.int 1) = n.testBit k := by
  rw [Int.toNat_natCast, shr_nat, show (1 : Int) = ((1 : Nat) : Int) from rfl, bitAnd_nat]
  rw [Nat.testBit_eq_decide_div_mod_eq, Nat.and_one_is_mod]
  refine dec_eq ⟨fun h => ?_, fun h => ?_⟩
  · injection h with h
    omega
  · rw [h]
/-! ### loops over enumerate -/
theorem for_enum {K : PySem.W.Frag} {a : Addr} {xs : List V} {g : TG} {tb : TS} {D : Ends} {σ : L2.St} {H : Hp} (Pv : Nat → L2.St → Hp → Prop) (h0 : Pv 0 σ H) (hl : ∀ i σ H, i ≤ xs.length → Pv i σ H → SqL K H a xs)
    (hs : ∀ (i : Nat) (x : V) (T : Addr) (σ : L2.St) (H : Hp), xs[i]? = some x → Pv i σ H → H T = none → g (.ref T) σ (upd H T (.tup [.int (i : Nat), x])) fun σ2 H2 => tb { D with nx := Pv (i + 1), ct := Pv (i + 1), bk := D.nx } σ2 H2) (hd : ∀ σ H, Pv xs.length σ H → D.nx σ H) :
    ∃ W : Nat → Nat → L2.St → Hp → Prop, (∃ m, W 0 m σ H) ∧ ∀ i m σ H, W i m σ H →
      ((Ite K a).stop i H ∧ D.nx σ H) ∨ ((Ite K a).go i H ∧ ∃ N : L2.St → Hp → Prop, (∀ σ' H', N σ' H' → ∃ m', m' < m ∧ W (i + 1) m' σ' H') ∧ ∀ x H', (Ite K a).yld i H x H' → g x σ H' fun σ2 H2 => tb { D with nx := N, ct := N, bk := D.nx } σ2 H2) := by
  refine ⟨fun i m σ H => m = xs.length - i ∧ i ≤ xs.length ∧ Pv i σ H, ⟨xs.length, by simp, Nat.zero_le _, h0⟩, ?_⟩
  rintro i m σ H ⟨rfl, hi, p⟩
  have q := hl i σ H hi p
  by_cases hlt : i < xs.length
  · refine .inr ⟨⟨xs, xs[i], q, List.getElem?_eq_getElem hlt⟩, Pv (i + 1), fun σ' H' p' => ⟨xs.length - (i + 1), by omega, rfl, hlt, p'⟩, fun v H' y => ?_⟩
    obtain ⟨T, x, rfl, hT, rfl, hx⟩ := y
    exact hs i x T σ H (hx xs q) p hT
  · have e : i = xs.length := by omega
    subst e
    exact .inl ⟨⟨xs, q, Nat.le_refl _⟩, hd σ H p⟩
theorem for_enumT {K : PySem.W.Frag} {a : Addr} {xs : List V} {g : TG} {tb : TS} {D : Ends} {σ : L2.St} {H : Hp} (Pv : Nat → L2.St → Hp → Prop) (h0 : Pv 0 σ H) (hl : ∀ i σ H, i ≤ xs.length → Pv i σ H → SqT K H a xs)
    (hs : ∀ (i : Nat) (x : V) (T : Addr) (σ : L2.St) (H : Hp), xs[i]? = some x → Pv i σ H → H T = none → g (.ref T) σ (upd H T (.tup [.int (i : Nat), x])) fun σ2 H2 => tb { D with nx := Pv (i + 1), ct := Pv (i + 1), bk := D.nx } σ2 H2) (hd : ∀ σ H, Pv xs.length σ H → D.nx σ H) :
    ∃ W : Nat → Nat → L2.St → Hp → Prop, (∃ m, W 0 m σ H) ∧ ∀ i m σ H, W i m σ H →
      ((IteT K a).stop i H ∧ D.nx σ H) ∨ ((IteT K a).go i H ∧ ∃ N : L2.St → Hp → Prop, (∀ σ' H', N σ' H' → ∃ m', m' < m ∧ W (i + 1) m' σ' H') ∧ ∀ x H', (IteT K a).yld i H x H' → g x σ H' fun σ2 H2 => tb { D with nx := N, ct := N, bk := D.nx } σ2 H2) := by
  refine ⟨fun i m σ H => m = xs.length - i ∧ i ≤ xs.length ∧ Pv i σ H, ⟨xs.length, by simp, Nat.zero_le _, h0⟩, ?_⟩
  rintro i m σ H ⟨rfl, hi, p⟩
  have q := hl i σ H hi p
  by_cases hlt : i < xs.length
  · refine .inr ⟨⟨xs, xs[i], q, List.getElem?_eq_getElem hlt⟩, Pv (i + 1), fun σ' H' p' => ⟨xs.length - (i + 1), by omega, rfl, hlt, p'⟩, fun v H' y => ?_⟩
    obtain ⟨T, x, rfl, hT, rfl, hx⟩ := y
    exact hs i x T σ H (hx xs q) p hT
  · have e : i = xs.length := by omega
    subst e
    exact .inl ⟨⟨xs, q, rfl⟩, hd σ H p⟩
theorem lc_enum {K : PySem.W.Frag} {a : Addr} {xs : List V} {g : TG} {tt : TT} {te : TE} {vs : List Nat} {σ : L2.St} {H1 : Hp} {D : Addr} {Qd : Hp → Prop} (Pv : Nat → Hp → Prop) (h0 : Pv 0 (upd H1 D (.lst []))) (hl : ∀ i H, i ≤ xs.length → Pv i H → SqL K H a xs)
    (hs : ∀ (i : Nat) (x : V) (T : Addr) (H : Hp), xs[i]? = some x → Pv i H → H T = none → g (.ref T) (wipe σ vs) (upd H T (.tup [.int (i : Nat), x])) fun σ2 H2 => wipe σ2 vs = wipe σ vs ∧ tt σ2 H2 fun b H3 =>
      if b = true then te σ2 H3 fun y H4 => ∃ acc, H4 D = some (.lst acc) ∧ acc.length < sizeLine ∧ Pv (i + 1) (upd H4 D (.lst (acc ++ [y]))) else Pv (i + 1) H3) (hd : ∀ H, Pv xs.length H → Qd H) :
    ∃ W : Nat → Nat → Hp → Prop, (∃ m, W 0 m (upd H1 D (.lst []))) ∧ ∀ i m H, W i m H →
      ((Ite K a).stop i H ∧ Qd H) ∨ ((Ite K a).go i H ∧ ∃ Nx : Hp → Prop, (∀ H', Nx H' → ∃ m', m' < m ∧ W (i + 1) m' H') ∧ ∀ x H', (Ite K a).yld i H x H' → g x (wipe σ vs) H' fun σ2 H2 => wipe σ2 vs = wipe σ vs ∧ tt σ2 H2 fun b H3 =>
        if b = true then te σ2 H3 fun y H4 => ∃ acc, H4 D = some (.lst acc) ∧ acc.length < sizeLine ∧ Nx (upd H4 D (.lst (acc ++ [y]))) else Nx H3) := by
  refine ⟨fun i m H => m = xs.length - i ∧ i ≤ xs.length ∧ Pv i H, ⟨xs.length, by simp, Nat.zero_le _, h0⟩, ?_⟩
  rintro i m H ⟨rfl, hi, p⟩
  have q := hl i H hi p
  by_cases hlt : i < xs.length
  · refine .inr ⟨⟨xs, xs[i], q, List.getElem?_eq_getElem hlt⟩, Pv (i + 1), fun H' p' => ⟨xs.length - (i + 1), by omega, rfl, hlt, p'⟩, fun v H' y => ?_⟩
    obtain ⟨T, x, rfl, hT, rfl, hx⟩ := y
    exact hs i x T H (hx xs q) p hT
  · have e : i = xs.length := by omega
    subst e
    exact .inl ⟨⟨xs, q, Nat.le_refl _⟩, hd H p⟩
end Gw
/-! # Helpers of the walks: slices, items, heaps -/
namespace Gw
open PySem PySem.Spec PyProof.Rows L2 Gr
theorem cut_mid (xs : List V) (i j : Nat) : cutV xs (some (i : Int)) (some (j : Int)) = (xs.drop i).take (j - i) := by
  unfold cutV
  rw [HT.sIx_nat, HT.sIx_nat]
  by_cases h : i ≤ xs.length
  · rw [Nat.min_eq_left h]
    by_cases h2 : j ≤ xs.length
    · rw [Nat.min_eq_left h2]
    · rw [Nat.min_eq_right (by omega), List.take_of_length_le (by rw [List.length_drop]; omega), List.take_of_length_le (by rw [List.length_drop]; omega)]
  · rw [Nat.min_eq_right (by omega : xs.length ≤ i), List.drop_eq_nil_of_le (Nat.le_refl _), List.drop_eq_nil_of_le (by omega), List.take_nil, List.take_nil]
theorem cut_to (xs : List V) (j : Nat) : cutV xs none (some (j : Int)) = xs.take j := by
  unfold cutV
  rw [HT.sIx_nat, HT.sIx_none, List.drop_zero, Nat.sub_zero]
  by_cases h : j ≤ xs.length
  · rw [Nat.min_eq_left h]
  · rw [Nat.min_eq_right (by omega), List.take_length, List.take_of_length_le (by omega)]
theorem cut_from (xs : List V) (i : Nat) : cutV xs (some (i : Int)) none = xs.drop i := by
  unfold cutV
  rw [HT.sIx_nat, HT.sIx_none]
  by_cases h : i ≤ xs.length
  · rw [Nat.min_eq_left h, List.take_of_length_le (by rw [List.length_drop]; omega)]
  · rw [Nat.min_eq_right (by omega : xs.length ≤ i), List.drop_eq_nil_of_le (Nat.le_refl _), List.drop_eq_nil_of_le (by omega), List.take_nil]
theorem cut_last (xs : List V) (n : Nat) (hn : 0 < n) : cutV xs (some (-(n : Int))) none = xs.drop (xs.length - n) := by
  have e : HT.sIx xs.length 0 (some (-(n : Int))) = xs.length - n := by
    show (if -(n : Int) < 0 then (-(n : Int) + (xs.length : Int)).toNat else _) = _
    rw [if_pos (by omega)]
    omega
  unfold cutV
  rw [e, HT.sIx_none, List.take_of_length_le (by rw [List.length_drop]; omega)]
theorem cut_but (xs : List V) : cutV xs none (some (-1)) = xs.dropLast := by
  have e : HT.sIx xs.length xs.length (some (-1)) = xs.length - 1 := by
    show (if (-1 : Int) < 0 then ((-1 : Int) + (xs.length : Int)).toNat else min (-1 : Int).toNat xs.length) = xs.length - 1
    rw [if_pos (by omega)]
    omega
  unfold cutV
  rw [e, HT.sIx_none, List.drop_zero, Nat.sub_zero, List.dropLast_eq_take]
/-- an item by a place that isn't negative -/
theorem at_nat {xs : List V} {j : Nat} {v : V} (h : xs[j]? = some v) : atI xs (j : Int) = some v := atI_nat h
theorem at_map {α : Type} {f : α → V} {xs : List α} {j : Nat} {x : α} (h : xs[j]? = some x) : atI (xs.map f) (j : Int) = some (f x) := atI_nat (by rw [List.getElem?_map, h]; rfl)
theorem get_map {α : Type} {f : α → V} {xs : List α} {j : Nat} {v : V} (h : (xs.map f)[j]? = some v) : ∃ x, xs[j]? = some x ∧ v = f x := by
  rw [List.getElem?_map] at h
  cases e : xs[j]? with
  | none => rw [e] at h; cases h
  | some x => rw [e] at h; exact ⟨x, rfl, (Option.some.inj h).symm⟩
/-- a list that is tracked, as one that is read -/
theorem sqL {K : PySem.W.Frag} {H : Hp} {a : Addr} {xs : List V} (h : H a = some (.lst xs)) : SqL K H a xs := .inl (.inl h)
theorem sqT {K : PySem.W.Frag} {H : Hp} {a : Addr} {xs : List V} (h : H a = some (.tup xs)) : SqT K H a xs := .inl (.inl h)
theorem tyL {K : PySem.W.Frag} {H : Hp} {a : Addr} {xs : List V} (h : H a = some (.lst xs)) : tyV K "list" (.ref a) H := .inl ⟨rfl, _, .inl (.inl h)⟩
theorem line_le {n : Nat} (h : n ≤ 16000000) : n ≤ sizeLine := by rw [sizeLine_eq]; omega
theorem line_lt {n : Nat} (h : n ≤ 16000000) : n < sizeLine := by rw [sizeLine_eq]; omega
/-- a list of objects grows by one that was just made -/
theorem LA.nil {α : Type} {R : Hp → Addr → α → Prop} {H : Hp} {a : Addr} (h : H a = some (.lst [])) : LA R H a [] := ⟨[], h, rfl, fun p hp => by cases hp⟩
/-- what is tracked, and isn't d, stands behind a change of d and new things -/
theorem upd_keep {H : Hp} {d : Addr} {o : HO} {b : Addr} {x : HO} (n : b ≠ d) (e : H b = some x) : upd H d o b = some x := by rw [upd_ne n]; exact e
theorem same_upd_of {H0 H : Hp} {d : Addr} {o : HO} (s : Same H0 H) (hd : H0 d = none) : Same H0 (upd H d o) := fun b x e => by
  rw [upd_ne (ne_of_none e hd)]
  exact s b x e
theorem ifE {c : Bool} {A B : Prop} (h1 : c = true → A) (h2 : c = false → B) : if c = true then A else B := by
  cases c with
  | true => exact iteT (h1 rfl)
  | false => exact iteF (h2 rfl)
theorem huN {k : Nat} {A : Around} (n : Nat) (hr : Room k A) (h : n ≤ 200 := by decide) : A.units + n < cLine := by
  have := hr.un
  omega
theorem RulesAt.sq {K : PySem.W.Frag} {H : Hp} {a : Addr} {ps : List (Addr × NKey)} (h : H a = some (.lst (ps.map fun p => V.ref p.1))) : SqL K H a (ps.map fun p => V.ref p.1) := sqL h
theorem inV_nums (n : Nat) (ns : List Nat) : inV (vN n) (ns.map vN) = decide (n ∈ ns) := by
  unfold inV
  rw [List.any_map]
  induction ns with
  | nil => simp
  | cons m ns ih =>
    rw [List.any_cons, ih]
    have e : ((fun y => eqV y (vN n)) ∘ vN) m = decide (n = m) := by
      show ((m : Int) == (n : Int)) = _
      rw [Bool.eq_iff_iff, beq_iff_eq, decide_eq_true_eq]
      omega
    rw [e, ← Bool.decide_or]
    exact dec_eq List.mem_cons.symm
theorem flat_nums (ns : List Nat) : (ns.map vN).all flatV = true := by
  rw [List.all_map]
  exact List.all_eq_true.mpr fun _ _ => rfl
theorem nums_len (ns : List Nat) : (ns.map vN).length = ns.length := List.length_map ..
/-- a comprehension's turn without a test -/
theorem turn_yes {te : TE} {σ : L2.St} {H : Hp} {K1 : VK} {K2 : Hp → Prop} (h : te σ H K1) : tYes σ H fun b H3 => if b = true then te σ H3 K1 else K2 H3 := by
  show if true = true then te σ H K1 else K2 H
  exact iteT h
/-- a comprehension's turn: the acc list grows -/
theorem acc_len {xs : List V} {i : Nat} (h : xs.length ≤ i) (hi : i ≤ 16000000) : xs.length < sizeLine := by rw [sizeLine_eq]; omega
/-! ### rules with the written part by its own name (within a comprehension the context's is another term) -/
section
variable {X : Cx} {K : PySem.W.Frag}
theorem pe_fldK {e : Expr} {f : Str} {pos : Pos} {ta : TE} (hK : X.K = K) (he : PE X e ta) (hb : attributeBase e f X.env (eval e X.env) = eval e X.env) : PE X (.Attribute e f pos) (tFld K ta f) := hK ▸ pe_fld he hb
theorem op_in_seqK (hK : X.K = K) : OpR X (compareOp .In) (rIn K false) := hK ▸ op_in_seq
theorem op_notIn_seqK (hK : X.K = K) : OpR X (compareOp .NotIn) (rIn K true) := hK ▸ op_notIn_seq
theorem ix_listK (hK : X.K = K) : IxR X (rIxL K) := hK ▸ ix_list
theorem ix_tupK (hK : X.K = K) : IxR X (rIxT K) := hK ▸ ix_tup
theorem call_len_seqK (hK : X.K = K) : CallR X (.builtin "len") (fun xs H Q => ∃ p ys, xs = [.ref p] ∧ (SqL K H p ys ∨ SqT K H p ys) ∧ Q (.int ys.length) H) := hK ▸ call_len_seq
theorem pi_listK {tg l : Expr} {tl : TE} (hK : X.K = K) (hl : PE X l tl) : PI X tg l (iList K tl) := hK ▸ pi_list hl
theorem pg_tupK {es : List Expr} {k : Nat} {t : TGs} {n : Nat} {pos : Pos} (hK : X.K = K) (hc : X.calm = true) (h : PGs X es t) (hn : (assignEach es X.env).length = n := by rfl) (hst : (assignEach es X.env).findIdx? (·.1) = none := by rfl) :
    PG X (.Tuple es k pos) (gTup K n t) := hK ▸ pg_tup hc h hn hst
end
end Gw
/-! # How a grammar and its tables lie in the heap -/
namespace Gw
open PySem PySem.Spec PyProof.Rows L2 Gr
open Nt (Sign Rule Grammar)
open Gs (Ps Rs ofSign behindF Good SndP)
/-- what the numbers of a grammar are at the most -/
structure Lim (g : Grammar) : Prop where
  words : g.words ≤ 64
  parts : g.parts ≤ 32
  rules : g.rules.length ≤ 64
  long : ∀ x ∈ g.rules, x.right.length ≤ 8
def ruleKey (x : Rule) : NKey := (x.left, x.right.map Sign.number)
def gramF (w p : Nat) (r : Addr) : List (Str × V) := [("words", vN w), ("parts", vN p), ("rules", .ref r)]
/-- the grammar at b, its rules' list at l -/
def GramAt (a : Ad) (H : Hp) (b l : Addr) (g : Grammar) : Prop := (∃ dx, H b = some (.ins a.c_Grammar dx (gramF g.words g.parts l))) ∧ RulesAt H l (g.rules.map ruleKey)
theorem GramAt.mono {a : Ad} {H H' : Hp} {b l : Addr} {g : Grammar} (h : GramAt a H b l g) (k : Same H H') : GramAt a H' b l g := ⟨h.1.imp fun _ e => k _ _ e, h.2.mono k⟩
/-- where the tables' rows lie -/
structure EL where
  dx : Addr
  ga : Addr
  gl : Addr
  xa : Addr
  pa : Addr
  ra : Addr
  pr : Nat → Addr
  ro : Nat → Addr
  rr : Nat → Nat → Addr
/-- the rows that change -/
def EL.S (L : EL) (g : Grammar) (w : List Nat) (b : Addr) : Prop := (∃ i, i ≤ w.length ∧ b = L.pr i) ∨ ∃ i r, i ≤ w.length ∧ r < g.rules.length ∧ b = L.rr i r
def endsF (L : EL) : List (Str × V) := [("grammar", .ref L.ga), ("text", .ref L.xa), ("of_parts", .ref L.pa), ("of_rests", .ref L.ra)]
structure EStat (a : Ad) (H : Hp) (e : Addr) (g : Grammar) (w : List Nat) (L : EL) : Prop where
  ins : H e = some (.ins a.c_Ends L.dx (endsF L))
  gram : GramAt a H L.ga L.gl g
  text : NumsL H L.xa w
  parts : H L.pa = some (.lst ((List.range (w.length + 1)).map fun i => V.ref (L.pr i)))
  rests : H L.ra = some (.lst ((List.range (w.length + 1)).map fun i => V.ref (L.ro i)))
  row : ∀ i, i ≤ w.length → H (L.ro i) = some (.lst ((List.range g.rules.length).map fun r => V.ref (L.rr i r)))
  nx : ¬ L.S g w L.xa
  ng : ¬ L.S g w L.gl
  np : ¬ L.S g w L.pa
  nr : ¬ L.S g w L.ra
  no : ∀ i, i ≤ w.length → ¬ L.S g w (L.ro i)
structure EDyn (H : Hp) (g : Grammar) (w : List Nat) (L : EL) (P : Ps) (R : Rs) : Prop where
  pr : ∀ i, i ≤ w.length → H (L.pr i) = some (.lst ((List.range g.parts).map fun p => vN (P i p)))
  rr : ∀ i r, i ≤ w.length → r < g.rules.length → H (L.rr i r) = some (.lst ((List.range (g.right r).length).map fun k => vN (R i r k)))
structure ESep (g : Grammar) (w : List Nat) (L : EL) : Prop where
  prI : ∀ i i', i ≤ w.length → i' ≤ w.length → L.pr i = L.pr i' → i = i'
  rrI : ∀ i i' r r', i ≤ w.length → i' ≤ w.length → r < g.rules.length → r' < g.rules.length → L.rr i r = L.rr i' r' → i = i' ∧ r = r'
  pq : ∀ i i' r, i ≤ w.length → i' ≤ w.length → r < g.rules.length → L.pr i ≠ L.rr i' r
structure EndsAt (a : Ad) (H : Hp) (e : Addr) (g : Grammar) (w : List Nat) (L : EL) (P : Ps) (R : Rs) : Prop where
  st : EStat a H e g w L
  dy : EDyn H g w L P R
  sep : ESep g w L
section
variable {a : Ad} {H H' : Hp} {e : Addr} {g : Grammar} {w : List Nat} {L : EL} {P : Ps} {R : Rs}
theorem EndsAt.mono (h : EndsAt a H e g w L P R) (k : Same H H') : EndsAt a H' e g w L P R :=
  ⟨⟨k _ _ h.st.ins, h.st.gram.mono k, k _ _ h.st.text, k _ _ h.st.parts, k _ _ h.st.rests, fun i hi => k _ _ (h.st.row i hi), h.st.nx, h.st.ng, h.st.np, h.st.nr, h.st.no⟩,
    ⟨fun i hi => k _ _ (h.dy.pr i hi), fun i r hi hr => k _ _ (h.dy.rr i r hi hr)⟩, h.sep⟩
theorem EndsAt.lstS (h : EndsAt a H e g w L P R) {b : Addr} (hb : L.S g w b) : ∃ xs, H b = some (.lst xs) := by
  rcases hb with ⟨i, hi, rfl⟩ | ⟨i, r, hi, hr, rfl⟩
  · exact ⟨_, h.dy.pr i hi⟩
  · exact ⟨_, h.dy.rr i r hi hr⟩
/-- what isn't a list isn't a row -/
theorem EndsAt.notS (h : EndsAt a H e g w L P R) {b : Addr} {o : HO} (hb : H b = some o) (ho : ∀ xs, o ≠ .lst xs) : ¬ L.S g w b := fun z => by
  obtain ⟨xs, q⟩ := h.lstS z
  rw [hb] at q
  exact ho xs (Option.some.inj q)
/-- the rows have changed, all else stands -/
theorem EndsAt.turn {P' : Ps} {R' : Rs} (h : EndsAt a H e g w L P R) (k : Kp (L.S g w) H H') (d : EDyn H' g w L P' R') : EndsAt a H' e g w L P' R' := by
  obtain ⟨⟨dx, hg⟩, ps, hl, hp, hk⟩ := h.st.gram
  have kt : ∀ b xs, H b = some (.tup xs) → H' b = some (.tup xs) := fun b xs q => k _ _ q (h.notS q fun _ z => by cases z)
  exact ⟨⟨k _ _ h.st.ins (h.notS h.st.ins fun _ z => by cases z), ⟨⟨dx, k _ _ hg (h.notS hg fun _ z => by cases z)⟩, ps, k _ _ hl h.st.ng, hp, fun p hpm => KeyAt.mono (hk p hpm) kt⟩, k _ _ h.st.text h.st.nx, k _ _ h.st.parts h.st.np, k _ _ h.st.rests h.st.nr,
    fun i hi => k _ _ (h.st.row i hi) (h.st.no i hi), h.st.nx, h.st.ng, h.st.np, h.st.nr, h.st.no⟩, d, h.sep⟩
theorem map_set {f f' : Nat → V} {n p : Nat} {v : V} (hv : f' p = v) (h : ∀ q, q ≠ p → f' q = f q) : ((List.range n).map f).set p v = (List.range n).map f' := by
  refine List.ext_getElem? fun j => ?_
  rw [List.getElem?_set]
  by_cases e : p = j
  · subst e
    rw [if_pos rfl]
    by_cases hl : p < n
    · rw [if_pos (by simpa using hl), List.getElem?_map, List.getElem?_range hl, ← hv]
      rfl
    · rw [if_neg (by simpa using hl), List.getElem?_eq_none (by simpa using hl)]
  · rw [if_neg e, List.getElem?_map, List.getElem?_map]
    by_cases hl : j < n
    · rw [List.getElem?_range hl]
      show some (f j) = some (f' j)
      rw [h j (Ne.symm e)]
    · rw [List.getElem?_eq_none (by simpa using hl)]
      rfl
theorem range_get {f : Nat → V} {n i : Nat} (h : i < n) : ((List.range n).map f)[i]? = some (f i) := by
  rw [List.getElem?_map, List.getElem?_range h]
  rfl
theorem range_at {f : Nat → V} {n i : Nat} (h : i < n) : atI ((List.range n).map f) (i : Int) = some (f i) := atI_nat (range_get h)
/-- a part's bits at a place are stored -/
theorem EndsAt.setP (h : EndsAt a H e g w L P R) {i p v : Nat} (hi : i ≤ w.length) : EndsAt a (upd H (L.pr i) (.lst (((List.range g.parts).map fun p => vN (P i p)).set p (vN v)))) e g w L (Gs.updP P i p v) R ∧
    Kp (L.S g w) H (upd H (L.pr i) (.lst (((List.range g.parts).map fun p => vN (P i p)).set p (vN v)))) := by
  have k : Kp (L.S g w) H (upd H (L.pr i) (.lst (((List.range g.parts).map fun p => vN (P i p)).set p (vN v)))) := fun b o q n => by
    rw [upd_ne fun z => n (.inl ⟨i, hi, z⟩)]
    exact q
  refine ⟨h.turn k ⟨fun i' hi' => ?_, fun i' r hi' hr => ?_⟩, k⟩
  · by_cases c : i' = i
    · subst c
      rw [upd_same, map_set (f' := fun q => vN (Gs.updP P i' p v i' q)) (by simp [Gs.updP]) fun q hq => by simp [Gs.updP, hq]]
    · rw [upd_ne fun z => c (h.sep.prI _ _ hi' hi z), h.dy.pr i' hi']
      have : (fun q => vN (Gs.updP P i p v i' q)) = fun q => vN (P i' q) := by
        funext q
        simp [Gs.updP, c]
      rw [this]
  · rw [upd_ne (Ne.symm (h.sep.pq i i' r hi hi' hr))]
    exact h.dy.rr i' r hi' hr
/-- a rule's rest at a place is stored -/
theorem EndsAt.setR (h : EndsAt a H e g w L P R) {i r k v : Nat} (hi : i ≤ w.length) (hr : r < g.rules.length) : EndsAt a (upd H (L.rr i r) (.lst (((List.range (g.right r).length).map fun k => vN (R i r k)).set k (vN v)))) e g w L P (Gs.updR R i r k v) ∧
    Kp (L.S g w) H (upd H (L.rr i r) (.lst (((List.range (g.right r).length).map fun k => vN (R i r k)).set k (vN v)))) := by
  have kk : Kp (L.S g w) H (upd H (L.rr i r) (.lst (((List.range (g.right r).length).map fun k => vN (R i r k)).set k (vN v)))) := fun b o q n => by
    rw [upd_ne fun z => n (.inr ⟨i, r, hi, hr, z⟩)]
    exact q
  refine ⟨h.turn kk ⟨fun i' hi' => ?_, fun i' r' hi' hr' => ?_⟩, kk⟩
  · rw [upd_ne (h.sep.pq i' i r hi' hi hr)]
    exact h.dy.pr i' hi'
  · by_cases c : i' = i ∧ r' = r
    · obtain ⟨rfl, rfl⟩ := c
      rw [upd_same, map_set (f' := fun q => vN (Gs.updR R i' r' k v i' r' q)) (by simp [Gs.updR]) fun q hq => by simp [Gs.updR, hq]]
    · rw [upd_ne fun z => c (h.sep.rrI _ _ _ _ hi' hi hr' hr z), h.dy.rr i' r' hi' hr']
      have : (fun q => vN (Gs.updR R i r k v i' r' q)) = fun q => vN (R i' r' q) := by
        funext q
        have : ¬ (i' = i ∧ r' = r ∧ q = k) := fun z => c ⟨z.1, z.2.1⟩
        simp [Gs.updR, this]
      rw [this]
/-- a rule's tuple, found through the grammar -/
theorem GramAt.rule (h : GramAt a H e l g) {r : Nat} {x : Rule} (hr : g.rules[r]? = some x) : ∃ (ps : List (Addr × NKey)) (t u : Addr), H l = some (.lst (ps.map fun p => V.ref p.1)) ∧ ps.length = g.rules.length ∧ (ps.map fun p => V.ref p.1)[r]? = some (.ref t) ∧ H t = some (.tup [vN x.left, .ref u]) ∧ H u = some (.tup ((x.right.map Sign.number).map vN)) := by
  obtain ⟨_, ps, hl, hp, hk⟩ := h
  have e1 : (ps.map (·.2))[r]? = some (ruleKey x) := by rw [hp, List.getElem?_map, hr]; rfl
  have hlen : ps.length = g.rules.length := by
    have := congrArg List.length hp
    simpa using this
  obtain ⟨p, hp1, hp2⟩ : ∃ p, ps[r]? = some p ∧ p.2 = ruleKey x := by
    rw [List.getElem?_map] at e1
    cases q : ps[r]? with
    | none => rw [q] at e1; cases e1
    | some p => rw [q] at e1; exact ⟨p, rfl, Option.some.inj e1⟩
  have hkp := hk p (List.mem_of_getElem? hp1)
  rw [hp2] at hkp
  obtain ⟨u, h1, h2⟩ := hkp
  exact ⟨ps, p.1, u, hl, hlen, by rw [List.getElem?_map, hp1]; rfl, h1, h2⟩
theorem number_lt {s : Sign} (G : Lim g) (hs : g.knows s = true) : s.number < 96 := by
  cases s with
  | word a =>
    have : a < g.words := by simpa [Grammar.knows] using hs
    have := G.words
    show a < 96
    omega
  | part p =>
    have : p < g.parts := by simpa [Grammar.knows] using hs
    have := G.parts
    show 64 + p < 96
    omega
end
end Gw
/-! # Walks: the small defs of grammars and reading -/
namespace Gw
open PySem PySem.Spec PyProof.Rows L2 Gr
section
variable {P : Program} {w : World} {K : PySem.W.Frag} {mg : Str → Option Value} {base : Heap} {a : Ad}
/-! ### is_part -/
def sp_is_part (P : Program) (w : World) (K : PySem.W.Frag) (a : Ad) : Sp := fun vs H Q _ => ∃ s : Nat, vs = [vN s] ∧ Q (.bl (decide (64 ≤ s))) H
theorem ok_is_part (F : Fn K "is_part" "is_part" s_is_part a.f_is_part) (T : Txt K mg a)  : Pr P w K mg base CX0 1 a.f_is_part ["sign"] (sp_is_part P w K a) := by
  obtain ⟨fd, F⟩ := F
  refine ⟨fd, F.ok sc_is_part (fun vs H Q E h => ?_) (fun cdv A outer s H vs Q E hr h => ?_), F.binds (ps := ["sign"]) fun _ _ _ _ _ _ us hl => match us, hl with | [_], _ => rfl, F.kp⟩
  · obtain ⟨s, rfl, _⟩ := h
    rfl
  · obtain ⟨s, rfl, q⟩ := h
    refine ⟨_, (pss_one (ps_ret (pe_cmpR op_ge (pv 0) (pe_glob (v := .int (64)) rfl T.i_PART ⟨_, rfl⟩) (nomark _)))), ?_⟩
    refine ⟨vN s, rfl, (s : Int), 64, rfl, rfl, ?_⟩
    exact bl_by (Q := Q) (c := (64 : Int) ≤ (s : Int)) (by omega) q
/-! ### are_counts -/
def sp_are_counts (P : Program) (w : World) (K : PySem.W.Frag) (a : Ad) : Sp := fun vs H Q _ => ∃ n p : Nat, vs = [vN n, vN p] ∧ Q (.bl (Gs.countsOk n p)) H
theorem ok_are_counts (F : Fn K "are_counts" "are_counts" s_are_counts a.f_are_counts) (T : Txt K mg a)  : Pr P w K mg base CX0 1 a.f_are_counts ["words", "parts"] (sp_are_counts P w K a) := by
  obtain ⟨fd, F⟩ := F
  refine ⟨fd, F.ok sc_are_counts (fun vs H Q E h => ?_) (fun cdv A outer s H vs Q E hr h => ?_), F.binds (ps := ["words", "parts"]) fun _ _ _ _ _ _ us hl => match us, hl with | [_, _], _ => rfl, F.kp⟩
  · obtain ⟨n, p, rfl, _⟩ := h
    rfl
  · obtain ⟨n, p, rfl, q⟩ := h
    refine ⟨_, (pss_one (ps_ret (pe_and (pe_chain op_le op_le pe_int (pv 0) (pe_glob (v := .int (64)) rfl T.i_MOST_WORDS ⟨_, rfl⟩)) (pe_one (pe_chain op_le op_le pe_int (pv 1) (pe_glob (v := .int (32)) rfl T.i_MOST_PARTS ⟨_, rfl⟩)))))), ?_⟩
    have no : ¬ (1 ≤ n ∧ n ≤ 64 ∧ 1 ≤ p ∧ p ≤ 32) → Q (.bl false) H := fun c => by
      rw [Gs.countsOk, decide_eq_false c] at q
      exact q
    refine ⟨vN n, rfl, 1, (n : Int), rfl, rfl, _, rfl, ite2 (fun c1 => ?_) (fun c1 => ?_)⟩
    · have d1 := of_decide_eq_true c1
      refine ⟨(n : Int), 64, rfl, rfl, _, rfl, ite2 (fun c2 => ?_) (fun c2 => ?_)⟩
      · have d2 := of_decide_eq_true c2
        refine ⟨vN p, rfl, 1, (p : Int), rfl, rfl, _, rfl, ite2 (fun c3 => ?_) (fun c3 => ?_)⟩
        · have d3 := of_decide_eq_true c3
          refine ⟨(p : Int), 32, rfl, rfl, ?_⟩
          refine bl_by (Q := Q) (c := (p : Int) ≤ 32) (d := 1 ≤ n ∧ n ≤ 64 ∧ 1 ≤ p ∧ p ≤ 32) (by omega) q
        · exact no fun z => c3 (decide_eq_true (by omega))
      · exact no fun z => c2 (decide_eq_true (by omega))
    · exact ⟨false, rfl, iteF (no fun z => c1 (decide_eq_true (by omega)))⟩
/-! ### is_sign -/
def sp_is_sign (P : Program) (w : World) (K : PySem.W.Frag) (a : Ad) : Sp := fun vs H Q _ => ∃ s n p : Nat, vs = [vN s, vN n, vN p] ∧ Q (.bl (Gs.signOk s n p)) H
theorem ok_is_sign (F : Fn K "is_sign" "is_sign" s_is_sign a.f_is_sign) (T : Txt K mg a) (h_is_part : Pr P w K mg base CX0 1 a.f_is_part ["sign"] (sp_is_part P w K a)) : Pr P w K mg base CX0 2 a.f_is_sign ["sign", "words", "parts"] (sp_is_sign P w K a) := by
  obtain ⟨fd, F⟩ := F
  obtain ⟨fd_is_part, G_is_part, B_is_part, K_is_part⟩ := h_is_part
  refine ⟨fd, F.ok sc_is_sign (fun vs H Q E h => ?_) (fun cdv A outer s H vs Q E hr h => ?_), F.binds (ps := ["sign", "words", "parts"]) fun _ _ _ _ _ _ us hl => match us, hl with | [_, _, _], _ => rfl, F.kp⟩
  · obtain ⟨s, n, p, rfl, _⟩ := h
    rfl
  · obtain ⟨s, n, p, rfl, q⟩ := h
    refine ⟨_, (pss_one (ps_ret (pe_ifExp (pt_val (pe_call G_is_part (hr.mono (by decide)) (by rfl) T.g_is_part K_is_part B_is_part .nil pass0 (pa_cons (pv 0) pa_nil))) (pe_chain op_le op_lt (pe_glob (v := .int (64)) rfl T.i_PART ⟨_, rfl⟩) (pv 0) (pe_op op_add (pe_glob (v := .int (64)) rfl T.i_PART ⟨_, rfl⟩) (pv 2))) (pe_cmpR op_lt (pv 0) (pv 1) (nomark _))))), ?_⟩
    refine ⟨vN s, rfl, s, rfl, _, rfl, ite2 (fun c => ?_) (fun c => ?_)⟩
    · have d := of_decide_eq_true c
      rw [Gs.signOk, if_pos d] at q
      refine ⟨vN s, rfl, 64, (s : Int), rfl, rfl, _, rfl, ite2 (fun c2 => ?_) (fun c2 => absurd (decide_eq_true (by omega)) c2)⟩
      refine ⟨vN p, rfl, 64, (p : Int), rfl, rfl, (s : Int), _, rfl, rfl, ?_⟩
      exact bl_by (Q := Q) (c := (s : Int) < 64 + (p : Int)) (by omega) q
    · have d : ¬ 64 ≤ s := fun z => c (decide_eq_true z)
      rw [Gs.signOk, if_neg d] at q
      refine ⟨vN s, rfl, vN n, rfl, (s : Int), (n : Int), rfl, rfl, ?_⟩
      exact bl_by (Q := Q) (c := (s : Int) < (n : Int)) (by omega) q
/-! ### has -/
def sp_has (P : Program) (w : World) (K : PySem.W.Frag) (a : Ad) : Sp := fun vs H Q _ => ∃ n k : Nat, vs = [vN n, vN k] ∧ Q (.bl (n.testBit k)) H
theorem ok_has (F : Fn K "has" "has" s_has a.f_has) (T : Txt K mg a)  : Pr P w K mg base CX0 1 a.f_has ["some", "place"] (sp_has P w K a) := by
  obtain ⟨fd, F⟩ := F
  refine ⟨fd, F.ok sc_has (fun vs H Q E h => ?_) (fun cdv A outer s H vs Q E hr h => ?_), F.binds (ps := ["some", "place"]) fun _ _ _ _ _ _ us hl => match us, hl with | [_, _], _ => rfl, F.kp⟩
  · obtain ⟨n, k, rfl, _⟩ := h
    rfl
  · obtain ⟨n, k, rfl, q⟩ := h
    refine ⟨_, (pss_one (ps_ret (pe_cmpR op_eq (pe_op op_and (pe_op op_shr (pv 0) (pv 1)) pe_int) pe_int (nomark _)))), ?_⟩
    refine ⟨vN n, rfl, vN k, rfl, (n : Int), (k : Int), rfl, rfl, Int.natCast_nonneg k, _, 1, rfl, rfl, rfl, ?_⟩
    show Q (.bl (decide (V.int (Builtin.bitAnd ((n : Int) / 2 ^ ((k : Int)).toNat) 1) = V.int 1))) H
    rw [bit_one]
    exact q
/-! ### Grammar.__init__ -/
def sp_Grammar_init (P : Program) (w : World) (K : PySem.W.Frag) (a : Ad) : Sp := fun vs H Q _ => ∃ (b dx r : Addr) (n p : Nat), vs = [.ref b, vN n, vN p, .ref r] ∧ H b = some (.ins a.c_Grammar dx []) ∧
  Q .non (upd H b (.ins a.c_Grammar dx (gramF n p r)))
theorem ok_Grammar_init (F : Fn K "__init__" "Grammar.__init__" s_Grammar_init a.f_Grammar_init) (T : Txt K mg a)  : Pr P w K mg base CX0 1 a.f_Grammar_init ["self", "words", "parts", "rules"] (sp_Grammar_init P w K a) := by
  obtain ⟨fd, F⟩ := F
  refine ⟨fd, F.ok sc_Grammar_init (fun vs H Q E h => ?_) (fun cdv A outer s H vs Q E hr h => ?_), F.binds (ps := ["self", "words", "parts", "rules"]) fun _ _ _ _ _ _ us hl => match us, hl with | [_, _, _, _], _ => rfl, F.kp⟩
  · obtain ⟨b, dx, r, n, p, rfl, _⟩ := h
    rfl
  · obtain ⟨b, dx, r, n, p, rfl, hb, q⟩ := h
    refine ⟨_, (pss_cons (ps_fld (pv 0) (pv 1) rfl)
      (pss_cons (ps_fld (pv 0) (pv 2) rfl)
      (pss_one (ps_fld (pv 0) (pv 3) rfl)))), ?_⟩
    refine ⟨_, rfl, _, rfl, b, _, dx, [], rfl, hb, T.c_Grammar, T.na_Grammar_words, (by decide), ?_⟩
    refine ⟨_, rfl, _, rfl, b, _, dx, _, rfl, upd_same, T.c_Grammar, T.na_Grammar_parts, (by show 1 < 1000; decide), ?_⟩
    refine ⟨_, rfl, _, rfl, b, _, dx, _, rfl, upd_same, T.c_Grammar, T.na_Grammar_rules, (by show 2 < 1000; decide), ?_⟩
    rw [upd_upd, upd_upd]
    exact q
/-! ### places_in -/
def sp_places_in (P : Program) (w : World) (K : PySem.W.Frag) (a : Ad) : Sp := fun vs H Q _ => ∃ n : Nat, vs = [vN n] ∧ n < 2 ^ 64 ∧ ∀ H' p, Same H H' → H p = none → NumsL H' p (Gs.places n) → Q (.ref p) H'
theorem ok_places_in (F : Fn K "places_in" "places_in" s_places_in a.f_places_in) (T : Txt K mg a)  : Pr P w K mg base CX0 1 a.f_places_in ["some"] (sp_places_in P w K a) := by
  obtain ⟨fd, F⟩ := F
  refine ⟨fd, F.ok sc_places_in (fun vs H Q E h => ?_) (fun cdv A outer s H vs Q E hr h => ?_), F.binds (ps := ["some"]) fun _ _ _ _ _ _ us hl => match us, hl with | [_], _ => rfl, F.kp⟩
  · obtain ⟨n, rfl, _⟩ := h
    rfl
  · obtain ⟨n, rfl, hn, q⟩ := h
    refine ⟨_, (pss_one (ps_ret (pe_lc (own := [("place", 1)]) rfl sc_places_in.nd (pi_range1 (by rfl) T.n_range (pa_cons (pe_bits (pv 0)) pa_nil)) (blkOk_by (N := ["some", "place"]) (sc := defScope s_places_in) (by decide +kernel)) (fun _ _ _ _ _ => (pg_name (i := 1) sc_places_in.nd rfl (Or.inl rfl))) (fun _ _ _ _ _ => (pts_one (pt_cmpR op_eq (pe_op op_and (pe_op op_shr (pv 0) (pv 1)) pe_int) pe_int (nomark _)))) (fun _ _ _ _ _ => (pv 1))))), ?_⟩
    have hbl : Gs.bl n ≤ 64 := by
      unfold Gs.bl
      split
      · omega
      · rename_i h0
        have := (Nat.log2_lt h0).mpr hn
        omega
    refine ⟨vN n, rfl, (n : Int), rfl, (Gs.bl n : Int), by rw [bits_eq], by omega, by omega, fun D hD => ?_⟩
    rw [Int.toNat_natCast]
    refine lc_range (fun i H' => Same H H' ∧ NumsL H' D (((List.range i).filter fun j => n.testBit j))) ⟨same_new hD, upd_same⟩ (fun i H' hi ⟨sm, hl⟩ => ?_) fun H' ⟨sm, hl⟩ => q H' D sm hD hl
    refine ⟨rfl, vN n, rfl, vN i, ?_, (n : Int), (i : Int), rfl, rfl, Int.natCast_nonneg i, _, 1, rfl, rfl, rfl, _, rfl, ?_⟩
    · show some (some (V.int (0 + (i : Int)))) = some (some (vN i))
      rw [Int.zero_add]
    · rw [bit_one, List.range_succ, List.filter_append]
      cases hb : n.testBit i with
      | true =>
        refine iteT ⟨vN i, ?_, _, hl, ?_, fun b o e => ?_, ?_⟩
        · show some (some (V.int (0 + (i : Int)))) = some (some (vN i))
          rw [Int.zero_add]
        · rw [List.length_map]
          refine Nat.lt_of_le_of_lt (List.length_filter_le _ _) ?_
          rw [List.length_range]
          exact small1000 (by omega)
        · have nb : b ≠ D := ne_of_none e hD
          rw [upd_ne nb]
          exact sm b o e
        · unfold NumsL
          rw [upd_same]
          simp [hb]
      | false =>
        refine iteF ⟨sm, ?_⟩
        simpa [hb] using hl
end
end Gw
/-! # Walks: the rules of a grammar -/
namespace Gw
open PySem PySem.Spec PyProof.Rows L2 Gr
section
variable {P : Program} {w : World} {K : PySem.W.Frag} {mg : Str → Option Value} {base : Heap} {a : Ad}
/-! ### rules_told -/
def sp_rules_told (P : Program) (w : World) (K : PySem.W.Frag) (a : Ad) : Sp := fun vs H Q _ => ∃ (l : Addr) (ns : List Nat), vs = [.ref l] ∧ SqL K H l (ns.map vN) ∧ ns.length ≤ 1024 ∧
  (Gs.rulesTold ns = none → ∀ H', Same H H' → Q .non H') ∧ ∀ rs, Gs.rulesTold ns = some rs → rs.length ≤ 1024 → ∀ H' p, Same H H' → RulesAt H' p rs → Q (.ref p) H'
theorem told_step {ns : List Nat} {i p n : Nat} (hp : ns[i]? = some p) (hn : ns[i + 1]? = some n) : Gs.rulesTold (ns.drop i) = if 1 ≤ n ∧ n ≤ 8 ∧ i + 2 + n ≤ ns.length then (Gs.rulesTold (ns.drop (i + 2 + n))).map fun r => (p, (ns.drop (i + 2)).take n) :: r else none := by
  have h1 := (List.getElem?_eq_some_iff.mp hp).1
  have h2 := (List.getElem?_eq_some_iff.mp hn).1
  have e : ns.drop i = p :: n :: ns.drop (i + 2) := by
    rw [List.drop_eq_getElem_cons h1, List.drop_eq_getElem_cons h2]
    rw [(List.getElem?_eq_some_iff.mp hp).2, (List.getElem?_eq_some_iff.mp hn).2]
  rw [e, Gs.rulesTold, List.length_drop, List.drop_drop]
  by_cases c : 1 ≤ n ∧ n ≤ 8 ∧ i + 2 + n ≤ ns.length
  · rw [if_pos c, if_pos (by omega)]
  · rw [if_neg c, if_neg (by omega)]
theorem told_last {ns : List Nat} {i : Nat} (h : i + 1 = ns.length) : Gs.rulesTold (ns.drop i) = none := by
  have h1 : i < ns.length := by omega
  have e : ns.drop i = [ns[i]] := by
    rw [List.drop_eq_getElem_cons h1, List.drop_eq_nil_of_le (by omega)]
  rw [e, Gs.rulesTold]
theorem told_end (ns : List Nat) : Gs.rulesTold (ns.drop ns.length) = some [] := by
  rw [List.drop_length, Gs.rulesTold]
theorem ok_rules_told (F : Fn K "rules_told" "rules_told" s_rules_told a.f_rules_told) (T : Txt K mg a)  : Pr P w K mg base CX0 1 a.f_rules_told ["told"] (sp_rules_told P w K a) := by
  obtain ⟨fd, F⟩ := F
  refine ⟨fd, F.ok sc_rules_told (fun vs H Q E h => ?_) (fun cdv A outer s H vs Q E hr h => ?_), F.binds (ps := ["told"]) fun _ _ _ _ _ _ us hl => match us, hl with | [_], _ => rfl, F.kp⟩
  · obtain ⟨l, ns, rfl, _⟩ := h
    rfl
  · obtain ⟨l, ns, rfl, hS, hlen, kN, kS⟩ := h
    refine ⟨_, (pss_cons (ps_set (i := 1) sc_rules_told.nd rfl (Or.inl rfl) (pe_lst pa_nil))
      (pss_cons (ps_set (i := 2) sc_rules_told.nd rfl (Or.inl rfl) pe_int)
      (pss_cons (ps_while PassesOwn.never (pt_cmpR op_lt (pv 2) (pe_callB call_len_seq (by rfl) T.n_len PySem.boot_len (pa_cons (pv 0) pa_nil)) (nomark _)) (pss_cons (ps_if (PW.pt (pw_or (pt_cmpR op_eq (pe_op op_add (pv 2) pe_int) (pe_callB call_len_seq (by rfl) T.n_len PySem.boot_len (pa_cons (pv 0) pa_nil)) (nomark _)) (pw_or (pt_not (pt_chain op_le op_le pe_int (pe_ix ix_list (pv 0) (pe_op op_add (pv 2) pe_int) (fun _ _ => rfl)) (pe_glob (v := .int (8)) rfl T.i_MOST_SIGNS ⟨_, rfl⟩))) (pw_or1 (pt_cmpR op_lt (pe_callB call_len_seq (by rfl) T.n_len PySem.boot_len (pa_cons (pv 0) pa_nil)) (pe_op op_add (pe_op op_add (pv 2) pe_int) (pe_ix ix_list (pv 0) (pe_op op_add (pv 2) pe_int) (fun _ _ => rfl))) (nomark _)))))) (pss_one (ps_ret pe_non)) pss_nil)
      (pss_cons (ps_set (i := 3) sc_rules_told.nd rfl (Or.inl rfl) (pe_op op_add (pe_op op_add (pv 2) pe_int) (pe_ix ix_list (pv 0) (pe_op op_add (pv 2) pe_int) (fun _ _ => rfl))))
      (pss_cons (ps_expr (pe_bm PySem.F.plainAttrs_list PySem.F.slot_list_append PySem.F.type_list_append mt_append (pv 1) (pa_cons (pe_tup (pa_cons (pe_ix ix_list (pv 0) (pv 2) (fun _ _ => rfl)) (pa_cons (pe_callTy call_tuple_of (by rfl) T.n_tuple (by decide +kernel) (pa_cons (pe_slice sl_list (pv 0) (po_some (pe_op op_add (pv 2) pe_int)) (po_some (pv 3))) pa_nil)) pa_nil))) pa_nil)))
      (pss_one (ps_set (i := 2) sc_rules_told.nd rfl (Or.inl rfl) (pv 3)))))))
      (pss_one (ps_ret (pv 1)))))), ?_⟩
    -- found = []; at = 0
    refine ⟨Nat.zero_le _, fun f hf => ?_⟩
    have s0 : Same H (upd H f (.lst [])) := same_new hf
    -- the loop: what's found, and the rest
    refine ⟨fun m σ H1 => ∃ (i : Nat) (v3 : Option V) (ps : List (Addr × NKey)), σ = [some (.ref l), some (.ref f), some (vN i), v3] ∧ i ≤ ns.length ∧ m = ns.length - i ∧ Same H H1 ∧ ps.length ≤ i ∧
      H1 f = some (.lst (ps.map fun p => V.ref p.1)) ∧ (∀ p ∈ ps, PairAt H1 p.1 p.2) ∧ Gs.rulesTold ns = (Gs.rulesTold (ns.drop i)).map fun r => ps.map (·.2) ++ r,
      ⟨_, 0, none, [], rfl, Nat.zero_le _, rfl, s0, Nat.le_refl _, upd_same, (fun p hp => by cases hp), by rw [List.drop_zero]; cases Gs.rulesTold ns <;> rfl⟩, ?_⟩
    rintro m σ H1 ⟨i, v3, ps, rfl, hi, rfl, s1, hpl, ef, hP, hR⟩
    have hS1 : SqL K H1 l (ns.map vN) := s1.seq hS
    have hL : (ns.map vN).length = ns.length := List.length_map ..
    refine ⟨vN i, rfl, .ref l, rfl, l, _, rfl, .inl hS1, (i : Int), ((ns.map vN).length : Int), rfl, rfl, _, rfl, ite2 (fun c => ?_) (fun c => ?_)⟩
    · have hlt : i < ns.length := by
        have := of_decide_eq_true c
        rw [hL] at this
        omega
      have hp : ns[i]? = some ns[i] := List.getElem?_eq_getElem hlt
      generalize ns[i] = p at hp
      -- what is said where nothing is told
      have no : Gs.rulesTold (ns.drop i) = none → Q .non H1 := fun e => kN (by rw [hR, e]; rfl) H1 s1
      refine ⟨fun σ' H' => ∃ (i' : Nat) (v3 : Option V) (ps : List (Addr × NKey)), i < i' ∧ σ' = [some (.ref l), some (.ref f), some (vN i'), v3] ∧ i' ≤ ns.length ∧ Same H H' ∧ ps.length ≤ i' ∧
        H' f = some (.lst (ps.map fun p => V.ref p.1)) ∧ (∀ p ∈ ps, PairAt H' p.1 p.2) ∧ Gs.rulesTold ns = (Gs.rulesTold (ns.drop i')).map fun r => ps.map (·.2) ++ r,
        fun σ' H' ⟨i', v3, ps, h1, h2, h3, h4⟩ => ⟨ns.length - i', by omega, i', v3, ps, h2, h3, rfl, h4⟩, ?_⟩
      -- at + 1 == len(told)
      refine ⟨vN i, rfl, (i : Int), 1, rfl, rfl, .ref l, rfl, l, _, rfl, .inl hS1, rfl, _, rfl, ite2 (fun c1 => ?_) (fun c1 => ?_)⟩
      · refine iteT (no (told_last ?_))
        have := V.int.inj (of_decide_eq_true c1)
        rw [hL] at this
        omega
      · have hl2 : i + 1 < ns.length := by
          rcases Nat.lt_or_ge (i + 1) ns.length with z | z
          · exact z
          · exact absurd (decide_eq_true (by rw [hL, show ((ns.length : Nat) : Int) = (i : Int) + 1 by omega])) c1
        have hn : ns[i + 1]? = some ns[i + 1] := List.getElem?_eq_getElem hl2
        generalize ns[i + 1] = n at hn
        have hs := told_step hp hn
        have hat : atI (ns.map vN) ((i : Int) + 1) = some (vN n) := at_of (j := i + 1) (by omega) (by rw [List.getElem?_map, hn]; rfl)
        -- not 1 <= told[at + 1] <= 8
        refine ⟨.ref l, rfl, vN i, rfl, (i : Int), 1, rfl, rfl, l, _, _, vN n, rfl, rfl, hS1, hat, 1, (n : Int), rfl, rfl, _, rfl, ite2 (fun c2 => ?_) (fun c2 => ?_)⟩
        rotate_left
        · refine ⟨_, rfl, ?_⟩
          refine no ?_
          rw [hs, if_neg]
          rintro ⟨z, _⟩
          exact c2 (decide_eq_true (by omega))
        have d2 := of_decide_eq_true c2
        refine ⟨(n : Int), 8, rfl, rfl, _, rfl, ?_⟩
        refine ifE (fun c3 => ?_) fun c3 => ?_
        · refine no ?_
          rw [hs, if_neg]
          rintro ⟨_, z, _⟩
          rw [decide_eq_true (by omega : (n : Int) ≤ 8)] at c3
          cases c3
        have d3 : n ≤ 8 := by
          rcases Nat.lt_or_ge 8 n with z | z
          · rw [decide_eq_false (by omega : ¬ (n : Int) ≤ 8)] at c3
            cases c3
          · exact z
        -- len(told) < at + 2 + told[at + 1]
        refine ⟨.ref l, rfl, l, _, rfl, .inl hS1, vN i, rfl, (i : Int), 2, rfl, rfl, .ref l, rfl, vN i, rfl, (i : Int), 1, rfl, rfl, l, _, _, vN n, rfl, rfl, hS1, hat, (i : Int) + 2, (n : Int), rfl, rfl, _, _, rfl, rfl, _, rfl, ite2 (fun c4 => ?_) (fun c4 => ?_)⟩
        · refine no ?_
          have := of_decide_eq_true c4
          rw [hL] at this
          rw [hs, if_neg (by omega)]
        have d4 : i + 2 + n ≤ ns.length := by
          rcases Nat.lt_or_ge ns.length (i + 2 + n) with z | z
          · exact absurd (decide_eq_true (by rw [hL]; omega)) c4
          · exact z
        rw [if_pos ⟨by omega, d3, d4⟩] at hs
        -- end = at + 2 + told[at + 1]
        refine ⟨vN i, rfl, (i : Int), 2, rfl, rfl, .ref l, rfl, vN i, rfl, (i : Int), 1, rfl, rfl, l, _, _, vN n, rfl, rfl, hS1, hat, (i : Int) + 2, (n : Int), rfl, rfl, ?_⟩
        -- found.append((told[at], tuple(told[at + 2:end])))
        refine ⟨.ref f, rfl, tyL ef, .ref l, rfl, vN i, rfl, l, _, (i : Int), vN p, rfl, rfl, hS1, at_map hp, .ref l, rfl, vN i, rfl, (i : Int), 2, rfl, rfl, (i : Int) + 2, rfl, .int ((i : Int) + 2 + (n : Int)), rfl, _, rfl, l, _, rfl, hS1, fun q hq => ?_⟩
        have ec : cutV (ns.map vN) (some ((i : Int) + 2)) (some ((i : Int) + 2 + (n : Int))) = ((ns.drop (i + 2)).take n).map vN := by
          have := cut_mid (ns.map vN) (i + 2) (i + 2 + n)
          rw [show i + 2 + n - (i + 2) = n by omega, ← List.map_drop, ← List.map_take] at this
          rw [← this]
          congr 2 <;> omega
        rw [ec]
        have s2 : Same H1 (upd H1 q (.lst (((ns.drop (i + 2)).take n).map vN))) := same_new hq
        refine ⟨q, _, rfl, .inl ⟨sqL upd_same, fun t ht => ⟨(by show 2 ≤ sizeLine; decide), fun u hu => ?_⟩⟩⟩
        have s3 := s2.trans (same_new (o := .tup (((ns.drop (i + 2)).take n).map vN)) ht)
        have s4 := s3.trans (same_new (o := .tup [vN p, .ref t]) hu)
        have ef4 := s4 _ _ ef
        have hut : t ≠ u := ne_of_none upd_same hu
        refine ⟨f, _, _, rfl, rfl, ef4, line_lt (by rw [List.length_map]; omega), ?_⟩
        -- at = end
        refine ⟨.int ((i : Int) + 2 + (n : Int)), rfl, ?_⟩
        have nf : H f = none := hf
        have sk : ∀ b o, H1 b = some o → b ≠ f → upd (upd (upd (upd H1 q (.lst (((ns.drop (i + 2)).take n).map vN))) t (.tup (((ns.drop (i + 2)).take n).map vN))) u (.tup [vN p, .ref t])) f (.lst (List.map (fun p => V.ref p.fst) ps ++ [V.ref u])) b = some o := fun b o e hb => by
          rw [upd_ne hb]
          exact s4 b o e
        have fu : u ≠ f := fun z => by
          rw [z] at hu
          rw [s3 _ _ ef] at hu
          cases hu
        have ft : t ≠ f := fun z => by
          rw [z, s2 _ _ ef] at ht
          cases ht
        refine ⟨i + 2 + n, _, ps ++ [(u, (p, (ns.drop (i + 2)).take n))], by omega, rfl, d4, fun b o e => sk b o (s1 b o e) (ne_of_none e nf), ?_, ?_, ?_, ?_⟩
        · rw [List.length_append]
          show ps.length + 1 ≤ _
          omega
        · rw [upd_same, List.map_append]
          rfl
        · intro x hx
          rcases List.mem_append.mp hx with hx | hx
          · refine KeyAt.mono (hP x hx) fun b ys e => sk b _ e (ne_of e ef (by intro z; cases z))
          · rw [List.mem_singleton.mp hx]
            refine ⟨t, ?_, ?_⟩
            · rw [upd_ne fu, upd_same]
            · rw [upd_ne ft, upd_ne hut, upd_same]
        · rw [hR, hs]
          cases Gs.rulesTold (ns.drop (i + 2 + n)) with
          | none => rfl
          | some r => simp
    · -- return found
      have e : i = ns.length := by
        rcases Nat.lt_or_ge i ns.length with z | z
        · exact absurd (decide_eq_true (by rw [hL]; omega)) c
        · omega
      subst e
      refine ⟨.ref f, rfl, kS (ps.map (·.2)) ?_ (by rw [List.length_map]; omega) H1 f s1 ⟨ps, ef, rfl, hP⟩⟩
      rw [hR, told_end]
      simp
end
end Gw
/-! # Walks: whether rules are a grammar's, whether it's sound -/
namespace Gw
open PySem PySem.Spec PyProof.Rows L2 Gr
section
variable {P : Program} {w : World} {K : PySem.W.Frag} {mg : Str → Option Value} {base : Heap} {a : Ad}
/-! ### are_rules -/
def sp_are_rules (P : Program) (w : World) (K : PySem.W.Frag) (a : Ad) : Sp := fun vs H Q _ => ∃ (l : Addr) (n p : Nat) (rs : List NKey), vs = [.ref l, vN n, vN p] ∧ RulesAt H l rs ∧ rs.length ≤ 1024 ∧ (∀ x ∈ rs, x.2.length ≤ 8) ∧
  ∀ (b : Bool) H', Same H H' → (b = true ↔ Gs.rulesOk rs n p) → Q (.bl b) H'
theorem ok_are_rules (F : Fn K "are_rules" "are_rules" s_are_rules a.f_are_rules) (T : Txt K mg a) (h_is_sign : Pr P w K mg base CX0 2 a.f_is_sign ["sign", "words", "parts"] (sp_is_sign P w K a)) : Pr P w K mg base CX0 3 a.f_are_rules ["rules", "words", "parts"] (sp_are_rules P w K a) := by
  obtain ⟨fd, F⟩ := F
  obtain ⟨fd_is_sign, G_is_sign, B_is_sign, K_is_sign⟩ := h_is_sign
  refine ⟨fd, F.ok sc_are_rules (fun vs H Q E h => ?_) (fun cdv A outer s H vs Q E hr h => ?_), F.binds (ps := ["rules", "words", "parts"]) fun _ _ _ _ _ _ us hl => match us, hl with | [_, _, _], _ => rfl, F.kp⟩
  · obtain ⟨l, n, p, rs, rfl, _⟩ := h
    rfl
  · obtain ⟨l, n, p, rs, rfl, ⟨ps, hl, rfl, hk⟩, hlen, h8, q⟩ := h
    refine ⟨_, (pss_cons (ps_if (PW.pt (pw_or (pt_cmpR op_gt (pe_callB call_len_seq (by rfl) T.n_len PySem.boot_len (pa_cons (pv 0) pa_nil)) (pe_glob (v := .int (64)) rfl T.i_MOST_RULES ⟨_, rfl⟩) (nomark _)) (pw_or1 (pt_cmpR op_lt (pe_lenSetN (huN 20 hr) (by rfl) T.n_len (by rfl) T.n_set (pv 0)) (pe_callB call_len_seq (by rfl) T.n_len PySem.boot_len (pa_cons (pv 0) pa_nil)) (nomark _))))) (pss_one (ps_ret pe_bl)) pss_nil)
      (pss_cons (ps_for PassesOwn.never rfl (pi_list (pv 0)) (pg_tup (by rfl) (pgs_cons (pg_name (i := 3) sc_are_rules.nd rfl (Or.inl rfl)) (pgs_cons (pg_name (i := 4) sc_are_rules.nd rfl (Or.inl rfl)) pgs_nil))) (pss_one (ps_if (PW.pt (pw_or (pt_cmpR op_ge (pv 3) (pv 2) (nomark _)) (pw_or1 (pt_not (pt_val (pe_callB (cr_all rfl) (by rfl) T.n_all (by decide +kernel) (pa_cons (pe_lc (own := [("sign", 5)]) rfl sc_are_rules.nd (pi_tup (pv 4)) (blkOk_by (N := ["rules", "words", "parts", "part", "signs", "sign"]) (sc := defScope s_are_rules) (by decide +kernel)) (fun _ _ _ _ _ => (pg_name (i := 5) sc_are_rules.nd rfl (Or.inl rfl))) (fun _ _ _ _ _ => pts_nil) (fun _ _ _ _ _ => (pe_call G_is_sign (hr.mono (by decide)) (by rfl) T.g_is_sign K_is_sign B_is_sign .nil pass0 (pa_cons (pv 5) (pa_cons (pv 1) (pa_cons (pv 2) pa_nil)))))) pa_nil))))))) (pss_one (ps_ret pe_bl)) pss_nil)))
      (pss_one (ps_ret pe_bl)))), ?_⟩
    have hL : (ps.map fun p => V.ref p.1).length = ps.length := List.length_map ..
    have hL2 : (ps.map (·.2)).length = ps.length := List.length_map ..
    rw [hL2] at hlen
    have no : ∀ H', Same H H' → ¬ Gs.rulesOk (ps.map (·.2)) n p → Q (.bl false) H' := fun H' s hn => q false H' s ⟨(fun z => by cases z), fun z => absurd z hn⟩
    -- len(rules) > MOST_RULES or len(set(rules)) < len(rules)
    refine ⟨.ref l, rfl, l, _, rfl, .inl (sqL hl), _, 64, rfl, rfl, _, rfl, ite2 (fun c => ?_) (fun c => ?_)⟩
    · refine no H (Same.refl H) fun z => ?_
      have := of_decide_eq_true c
      have := z.1
      omega
    have h64 : ps.length ≤ 64 := by
      rcases Nat.lt_or_ge 64 ps.length with z | z
      · exact absurd (decide_eq_true (by rw [hL]; omega)) c
      · exact z
    refine ⟨.ref l, rfl, l, ps, rfl, sqL hl, hk, h64, fun m hm => ?_⟩
    refine ⟨.ref l, rfl, l, _, rfl, .inl (sqL hl), (m : Int), ((ps.map fun p => V.ref p.1).length : Int), rfl, rfl, _, rfl, ite2 (fun c2 => ?_) (fun c2 => ?_)⟩
    · refine no H (Same.refl H) fun z => ?_
      have := of_decide_eq_true c2
      rw [hL] at this
      exact hm.mp (by omega) z.2.1
    have hnd : (ps.map (·.2)).Nodup := by
      refine Classical.byContradiction fun z => c2 (decide_eq_true ?_)
      have := hm.mpr z
      rw [hL]
      omega
    -- for part, signs in rules
    refine ⟨.ref l, rfl, l, rfl, ⟨_, sqL hl⟩, for_list (xs := ps.map fun p => V.ref p.1) (fun i σ H' => ∃ v3 v4 v5, σ = [some (.ref l), some (vN n), some (vN p), v3, v4, v5] ∧ Same H H' ∧ ∀ x ∈ (ps.map (·.2)).take i, x.1 < p ∧ ∀ s ∈ x.2, Gs.signOk s n p = true)
      ⟨none, none, none, rfl, Same.refl H, fun x hx => by simp at hx⟩ (fun i σ H' _ ⟨_, _, _, _, s, _⟩ => s.seq (sqL hl)) (fun i v σ H' hv ⟨v3, v4, v5, eσ, s1, hok⟩ => ?_) (fun σ H' ⟨v3, v4, v5, eσ, s1, hok⟩ => ?_)⟩
    · subst eσ
      obtain ⟨⟨t, x⟩, hx, rfl⟩ := get_map hv
      have hxm : (t, x) ∈ ps := List.mem_of_getElem? hx
      obtain ⟨u, ht, hu⟩ := hk _ hxm
      have hxr : (ps.map (·.2))[i]? = some x := by rw [List.getElem?_map, hx]; rfl
      have hxin : x ∈ ps.map (·.2) := List.mem_of_getElem? hxr
      refine ⟨t, _, rfl, sqT (s1 _ _ ht), rfl, vN x.1, _, rfl, .ref u, _, rfl, rfl, ?_⟩
      -- part >= parts
      refine ⟨vN x.1, rfl, vN p, rfl, (x.1 : Int), (p : Int), rfl, rfl, _, rfl, ite2 (fun c3 => ?_) (fun c3 => ?_)⟩
      · refine no H' s1 fun z => ?_
        have := of_decide_eq_true c3
        have := (z.2.2 x hxin).1
        omega
      have d3 : x.1 < p := by
        rcases Nat.lt_or_ge x.1 p with z | z
        · exact z
        · exact absurd (decide_eq_true (by omega)) c3
      -- not all([is_sign(sign, words, parts) for sign in signs])
      refine ⟨.ref u, rfl, u, rfl, ⟨_, sqT (s1 _ _ hu)⟩, fun D hD => lc_tup (xs := x.2.map vN) (fun j H2 => Same H' H2 ∧ H2 D = some (.lst (((x.2.take j).map fun s => Gs.signOk s n p).map V.bl))) ⟨same_new hD, upd_same⟩
        (fun j H2 _ ⟨s2, _⟩ => sqT (s2 _ _ (s1 _ _ hu))) (fun j v H2 hv2 ⟨s2, hD2⟩ => ?_) (fun H2 ⟨s2, hD2⟩ => ?_)⟩
      · obtain ⟨s, hs, rfl⟩ := get_map hv2
        refine ⟨rfl, turn_yes ⟨vN s, rfl, vN n, rfl, vN p, rfl, s, n, p, rfl, _, hD2, ?_, fun b o e => ?_, ?_⟩⟩
        · rw [List.length_map, List.length_map, List.length_take]
          exact small1000 (by have := h8 x hxin; omega)
        · rw [upd_ne (ne_of_none e hD)]
          exact s2 b o e
        · rw [upd_same, take_one hs, List.map_append, List.map_append]
          rfl
      · have e : (x.2.map vN).length = x.2.length := List.length_map ..
        rw [e, List.take_length] at hD2
        refine ⟨D, _, rfl, sqL hD2, _, rfl, ?_⟩
        have s3 := s1.trans s2
        refine ifE (fun c4 => ?_) fun c4 => ?_
        · refine no H2 s3 fun z => ?_
          rw [Bool.not_eq_true'] at c4
          have : ((x.2.map fun s => Gs.signOk s n p).all id) = true := by
            rw [List.all_map]
            exact List.all_eq_true.mpr fun s hs => (z.2.2 x hxin).2 s hs
          rw [this] at c4
          cases c4
        · rw [Bool.not_eq_false'] at c4
          refine ⟨_, _, _, rfl, s3, fun y hy => ?_⟩
          rw [take_one hxr] at hy
          rcases List.mem_append.mp hy with z | z
          · exact hok y z
          · rw [List.mem_singleton.mp z]
            refine ⟨d3, fun s hs => ?_⟩
            rw [List.all_map] at c4
            exact List.all_eq_true.mp c4 s hs
    · subst eσ
      rw [hL, List.take_of_length_le (by rw [hL2]; exact Nat.le_refl _)] at hok
      exact q true H' s1 ⟨fun _ => ⟨by rw [hL2]; exact h64, hnd, hok⟩, fun _ => rfl⟩
end
end Gw
/-! # Walks: parts that a part comes to alone -/
namespace Gw
open PySem PySem.Spec PyProof.Rows L2 Gr
section
variable {P : Program} {w : World} {K : PySem.W.Frag} {mg : Str → Option Value} {base : Heap} {a : Ad}
theorem led_hit {here s : Nat} {st : List Nat × List Nat} {x : NKey} (h0 : x.2 = [s]) (h1 : x.1 = here) (h2 : 64 ≤ s) (h3 : s - 64 ∉ st.1) : Gs.ledOne here st x = (st.1 ++ [s - 64], st.2 ++ [s - 64]) := by
  unfold Gs.ledOne
  rw [h0]
  simp only
  rw [if_pos ⟨h1, h2, h3⟩]
theorem led_skip {here : Nat} {st : List Nat × List Nat} {x : NKey} (h : ∀ s, x.2 = [s] → x.1 = here → 64 ≤ s → s - 64 ∈ st.1) : Gs.ledOne here st x = st := by
  unfold Gs.ledOne
  split
  · rename_i s e
    rw [if_neg]
    rintro ⟨h1, h2, h3⟩
    exact h3 (h s e h1 h2)
  · rfl
theorem led_take {here i : Nat} {rs : List NKey} {st : List Nat × List Nat} {x : NKey} (h : rs[i]? = some x) : (rs.take (i + 1)).foldl (Gs.ledOne here) st = Gs.ledOne here ((rs.take i).foldl (Gs.ledOne here) st) x := by
  rw [take_one h, List.foldl_append]
  rfl
def sp_led_alone (P : Program) (w : World) (K : PySem.W.Frag) (a : Ad) : Sp := fun vs H Q _ => ∃ (l : Addr) (p : Nat) (rs : List NKey), vs = [.ref l, vN p] ∧ RulesAt H l rs ∧ rs.length ≤ 64 ∧
  ∀ H' f L, Same H H' → NumsL H' f L → (∀ q, q ∈ L ↔ Gs.ReachN rs p q) → Q (.ref f) H'
theorem ok_led_alone (F : Fn K "led_alone" "led_alone" s_led_alone a.f_led_alone) (T : Txt K mg a) (h_is_part : Pr P w K mg base CX0 1 a.f_is_part ["sign"] (sp_is_part P w K a)) : Pr P w K mg base CX0 2 a.f_led_alone ["rules", "part"] (sp_led_alone P w K a) := by
  obtain ⟨fd, F⟩ := F
  obtain ⟨fd_is_part, G_is_part, B_is_part, K_is_part⟩ := h_is_part
  refine ⟨fd, F.ok sc_led_alone (fun vs H Q E h => ?_) (fun cdv A outer s H vs Q E hr h => ?_), F.binds (ps := ["rules", "part"]) fun _ _ _ _ _ _ us hl => match us, hl with | [_, _], _ => rfl, F.kp⟩
  · obtain ⟨l, p, rs, rfl, _⟩ := h
    rfl
  · obtain ⟨l, p, rs, rfl, ⟨ps, hl, hrs, hk⟩, hlen, q⟩ := h
    refine ⟨_, (pss_cons (ps_set (i := 2) sc_led_alone.nd rfl (Or.inl rfl) (pe_lst pa_nil))
      (pss_cons (ps_set (i := 3) sc_led_alone.nd rfl (Or.inl rfl) (pe_lst (pa_cons (pv 1) pa_nil)))
      (pss_cons (ps_while PassesOwn.never (pt_cmpR (op_neE (huN 0 hr)) (pv 3) (pe_lst pa_nil) (nomark _)) (pss_cons (ps_set (i := 4) sc_led_alone.nd rfl (Or.inl rfl) (pe_bm0 PySem.F.plainAttrs_list PySem.F.slot_list_pop PySem.F.type_list_pop mt_pop (pv 3)))
      (pss_one (ps_for PassesOwn.never rfl (pi_list (pv 0)) (pg_tup (by rfl) (pgs_cons (pg_name (i := 5) sc_led_alone.nd rfl (Or.inl rfl)) (pgs_cons (pg_name (i := 6) sc_led_alone.nd rfl (Or.inl rfl)) pgs_nil))) (pss_one (ps_if (PW.pt (pw_and (pt_cmpR op_eq (pv 5) (pv 4) (nomark _)) (pw_and (pt_cmpR op_eq (pe_callB call_len_seq (by rfl) T.n_len PySem.boot_len (pa_cons (pv 6) pa_nil)) pe_int (nomark _)) (pw_and (pt_val (pe_call G_is_part (hr.mono (by decide)) (by rfl) T.g_is_part K_is_part B_is_part .nil pass0 (pa_cons (pe_ix ix_tup (pv 6) pe_int (fun _ _ => rfl)) pa_nil))) (pw_and1 (pt_cmpR op_notIn_seq (pe_op op_sub (pe_ix ix_tup (pv 6) pe_int (fun _ _ => rfl)) (pe_glob (v := .int (64)) rfl T.i_PART ⟨_, rfl⟩)) (pv 2) rfl)))))) (pss_cons (ps_expr (pe_bm PySem.F.plainAttrs_list PySem.F.slot_list_append PySem.F.type_list_append mt_append (pv 2) (pa_cons (pe_op op_sub (pe_ix ix_tup (pv 6) pe_int (fun _ _ => rfl)) (pe_glob (v := .int (64)) rfl T.i_PART ⟨_, rfl⟩)) pa_nil)))
      (pss_one (ps_expr (pe_bm PySem.F.plainAttrs_list PySem.F.slot_list_append PySem.F.type_list_append mt_append (pv 3) (pa_cons (pe_op op_sub (pe_ix ix_tup (pv 6) pe_int (fun _ _ => rfl)) (pe_glob (v := .int (64)) rfl T.i_PART ⟨_, rfl⟩)) pa_nil))))) pss_nil))))))
      (pss_one (ps_ret (pv 2)))))), ?_⟩
    have hL : (ps.map fun p => V.ref p.1).length = rs.length := by rw [← hrs, List.length_map, List.length_map]
    -- found = []; left = [part]
    refine ⟨Nat.zero_le _, fun f hf => ?_⟩
    have s0 : Same H (upd H f (.lst [])) := same_new hf
    refine ⟨vN p, rfl, (by show 1 ≤ sizeLine; decide), fun lf hlf => ?_⟩
    have hlfH : H lf = none := s0.free hlf
    have nfl : f ≠ lf := ne_of_none upd_same hlf
    -- while left != []
    refine ⟨fun m σ H1 => ∃ (found left : List Nat) (v4 v5 v6 : Option V), σ = [some (.ref l), some (vN p), some (.ref f), some (.ref lf), v4, v5, v6] ∧ Gs.Led rs p found left ∧ m = 2 * (rs.length - found.length) + left.length ∧ m ≤ 2 * rs.length + 1 ∧
      Same H H1 ∧ H1 f = some (.lst (found.map vN)) ∧ H1 lf = some (.lst (left.map vN)),
      ⟨_, [], [p], none, none, none, rfl, Gs.led_start rs p, rfl, by simp, s0.trans (same_new hlf), by rw [upd_ne nfl, upd_same]; rfl, upd_same⟩, ?_⟩
    rintro m σ H1 ⟨found, left, v4, v5, v6, rfl, hled, rfl, hm, s1, ef, elf⟩
    refine ⟨.ref lf, rfl, Nat.zero_le _, fun z hz => ?_⟩
    have s2 : Same H1 (upd H1 z (.lst [])) := same_new hz
    refine ⟨lf, z, left.map vN, rfl, rfl, sqL (s2 _ _ elf), sqL upd_same, _, rfl, ?_⟩
    rcases List.eq_nil_or_concat left with rfl | ⟨l', here, rfl⟩
    · exact iteF ⟨.ref f, rfl, q _ f found (s1.trans s2) (s2 _ _ ef) (Gs.led_end hled)⟩
    rw [List.concat_eq_append] at hled hm elf ⊢
    have hfew := Gs.led_few hled
    obtain ⟨hl2, hdec⟩ := Gs.led_step hled
    rw [List.length_append, List.length_singleton] at hm
    refine ifE (fun _ => ?_) fun c => absurd c (by simp)
    refine ⟨fun σ' H' => ∃ (found' left' : List Nat) (v4 v5 v6 : Option V), σ' = [some (.ref l), some (vN p), some (.ref f), some (.ref lf), v4, v5, v6] ∧ Gs.Led rs p found' left' ∧ 2 * (rs.length - found'.length) + left'.length < 2 * (rs.length - found.length) + (l' ++ [here]).length ∧
      Same H H' ∧ H' f = some (.lst (found'.map vN)) ∧ H' lf = some (.lst (left'.map vN)), fun σ' H' ⟨f', l2, v4, v5, v6, h1, h2, h3, h4⟩ => ⟨_, h3, f', l2, v4, v5, v6, h1, h2, rfl, ?_, h4⟩, ?_⟩
    · rw [List.length_append, List.length_singleton] at h3
      omega
    -- here = left.pop()
    refine ⟨.ref lf, rfl, tyL (s2 _ _ elf), lf, _, vN here, rfl, rfl, s2 _ _ elf, ?_, ?_⟩
    · rw [List.map_append, List.length_append]
      simp
    have hnz : z ≠ f := fun e => by rw [e, ef] at hz; cases hz
    have hnl : z ≠ lf := fun e => by rw [e, elf] at hz; cases hz
    -- for own, signs in rules
    generalize hH3 : upd (upd H1 z (.lst [])) lf (.lst ((l' ++ [here]).map vN).dropLast) = H3
    have s3 : Same H H3 := by
      rw [← hH3]
      exact same_upd_of (s1.trans s2) hlfH
    have ef3 : H3 f = some (.lst (found.map vN)) := by
      rw [← hH3, upd_ne nfl]
      exact s2 _ _ ef
    have el3 : H3 lf = some (.lst (l'.map vN)) := by
      rw [← hH3, upd_same, List.map_append]
      simp
    refine ⟨.ref l, rfl, l, rfl, ⟨_, sqL (s3 _ _ hl)⟩, for_list (xs := ps.map fun p => V.ref p.1) (fun i σ H' => ∃ v5 v6, σ = [some (.ref l), some (vN p), some (.ref f), some (.ref lf), some (vN here), v5, v6] ∧ Same H H' ∧
        ((rs.take i).foldl (Gs.ledOne here) (found, l')).1.length ≤ found.length + i ∧ ((rs.take i).foldl (Gs.ledOne here) (found, l')).2.length ≤ l'.length + i ∧
        H' f = some (.lst (((rs.take i).foldl (Gs.ledOne here) (found, l')).1.map vN)) ∧ H' lf = some (.lst (((rs.take i).foldl (Gs.ledOne here) (found, l')).2.map vN)))
      ⟨v5, v6, rfl, s3, Nat.le_refl _, Nat.le_refl _, ef3, el3⟩ (fun i σ H' _ ⟨_, _, _, s, _⟩ => s.seq (sqL hl)) (fun i v σ H' hv ⟨v5, v6, eσ, s4, n1, n2, e1, e2⟩ => ?_) (fun σ H' ⟨v5, v6, eσ, s4, n1, n2, e1, e2⟩ => ?_)⟩
    · subst eσ
      obtain ⟨⟨t, x⟩, hx, rfl⟩ := get_map hv
      have hxm : (t, x) ∈ ps := List.mem_of_getElem? hx
      obtain ⟨u, ht, hu⟩ := hk _ hxm
      have hxr : rs[i]? = some x := by rw [← hrs, List.getElem?_map, hx]; rfl
      have hi : i < rs.length := (List.getElem?_eq_some_iff.mp hxr).1
      have htk := led_take (here := here) (st := (found, l')) hxr
      generalize (rs.take i).foldl (Gs.ledOne here) (found, l') = st at n1 n2 e1 e2 htk
      rw [htk]
      -- nothing is added
      have skip : (∀ s, x.2 = [s] → x.1 = here → 64 ≤ s → s - 64 ∈ st.1) → ∃ v5' v6', [some (.ref l), some (vN p), some (.ref f), some (.ref lf), some (vN here), some (vN x.1), some (V.ref u)] = [some (.ref l), some (vN p), some (.ref f), some (.ref lf), some (vN here), v5', v6'] ∧ Same H H' ∧
          (Gs.ledOne here st x).1.length ≤ found.length + (i + 1) ∧ (Gs.ledOne here st x).2.length ≤ l'.length + (i + 1) ∧ H' f = some (.lst ((Gs.ledOne here st x).1.map vN)) ∧ H' lf = some (.lst ((Gs.ledOne here st x).2.map vN)) := fun z => by
        rw [led_skip z]
        exact ⟨_, _, rfl, s4, by omega, by omega, e1, e2⟩
      refine ⟨t, _, rfl, sqT (s4 _ _ ht), rfl, vN x.1, _, rfl, .ref u, _, rfl, rfl, ?_⟩
      refine ⟨vN x.1, rfl, vN here, rfl, rfl, _, rfl, ite2 (fun c1 => ?_) (fun c1 => ?_)⟩
      rotate_left
      · refine skip fun s _ e _ => absurd (decide_eq_true ?_) c1
        rw [e]
      have d1 : x.1 = here := by
        have := V.int.inj (of_decide_eq_true c1)
        omega
      refine ⟨.ref u, rfl, u, _, rfl, .inr (sqT (s4 _ _ hu)), rfl, _, rfl, ite2 (fun c2 => ?_) (fun c2 => ?_)⟩
      rotate_left
      · refine skip fun s e _ _ => absurd (decide_eq_true ?_) c2
        rw [e]
        rfl
      obtain ⟨s, hs⟩ : ∃ s, x.2 = [s] := by
        have := V.int.inj (of_decide_eq_true c2)
        rw [nums_len] at this
        match hh : x.2, this with
        | [s], _ => exact ⟨s, rfl⟩
        | [], h => simp at h
        | _ :: _ :: _, h => simp at h; omega
      have at0 : atI (x.2.map vN) 0 = some (vN s) := by
        rw [hs]
        exact atI_nat (j := 0) rfl
      refine ⟨.ref u, rfl, u, _, 0, vN s, rfl, rfl, sqT (s4 _ _ hu), at0, s, rfl, _, rfl, ite2 (fun c3 => ?_) (fun c3 => ?_)⟩
      rotate_left
      · refine skip fun s' e _ h64 => absurd (decide_eq_true ?_) c3
        rw [hs] at e
        injection e with e
        omega
      have d3 := of_decide_eq_true c3
      have esub : ((s : Int) - 64) = ((s - 64 : Nat) : Int) := by omega
      refine ⟨.ref u, rfl, u, _, 0, vN s, rfl, rfl, sqT (s4 _ _ hu), at0, (s : Int), 64, rfl, rfl, .ref f, rfl, f, _, rfl, .inl (sqL e1), rfl, flat_nums _, _, rfl, ?_⟩
      simp only [esub, if_true]
      rw [show V.int ((s - 64 : Nat) : Int) = vN (s - 64) from rfl, inV_nums]
      refine ifE (fun c4 => ?_) fun c4 => ?_
      rotate_left
      · refine skip fun s' e _ _ => ?_
        rw [hs] at e
        injection e with e
        rw [← e]
        rw [Bool.not_eq_false', decide_eq_true_eq] at c4
        exact c4
      have d4 : s - 64 ∉ st.1 := by
        rw [Bool.not_eq_true', decide_eq_false_iff_not] at c4
        exact c4
      rw [led_hit hs d1 d3 d4]
      -- found.append(..); left.append(..)
      refine ⟨.ref f, rfl, tyL e1, .ref u, rfl, u, _, 0, vN s, rfl, rfl, sqT (s4 _ _ hu), at0, (s : Int), 64, rfl, rfl, f, _, _, rfl, rfl, e1, line_lt (by rw [nums_len]; omega), ?_⟩
      have s5 : Same H (upd H' f (.lst (st.1.map vN ++ [.int ((s : Int) - 64)]))) := same_upd_of s4 hf
      have e2' : upd H' f (.lst (st.1.map vN ++ [.int ((s : Int) - 64)])) lf = some (.lst (st.2.map vN)) := by rw [upd_ne (Ne.symm nfl)]; exact e2
      refine ⟨.ref lf, rfl, tyL e2', .ref u, rfl, u, _, 0, vN s, rfl, rfl, sqT (s5 _ _ hu), at0, (s : Int), 64, rfl, rfl, lf, _, _, rfl, rfl, e2', line_lt (by rw [nums_len]; omega), ?_⟩
      refine ⟨_, _, rfl, same_upd_of s5 hlfH, ?_, ?_, ?_, ?_⟩
      · simp only [List.length_append, List.length_singleton]; omega
      · simp only [List.length_append, List.length_singleton]; omega
      · rw [upd_ne nfl, upd_same]
        show some (HO.lst (st.1.map vN ++ [V.int ((s : Int) - 64)])) = _
        rw [esub, List.map_append]
        rfl
      · rw [upd_same]
        show some (HO.lst (st.2.map vN ++ [V.int ((s : Int) - 64)])) = _
        rw [esub, List.map_append]
        rfl
    · subst eσ
      rw [hL, List.take_length] at e1 e2
      exact ⟨_, _, _, _, _, rfl, hl2, hdec, s4, e1, e2⟩
/-! ### is_sound -/
def sp_is_sound (P : Program) (w : World) (K : PySem.W.Frag) (a : Ad) : Sp := fun vs H Q _ => ∃ (l : Addr) (p : Nat) (rs : List NKey), vs = [.ref l, vN p] ∧ RulesAt H l rs ∧ rs.length ≤ 64 ∧ p ≤ 64 ∧
  ∀ (b : Bool) H', Same H H' → (b = true ↔ ∀ q, q < p → ¬ Gs.ReachN rs q q) → Q (.bl b) H'
theorem ok_is_sound (F : Fn K "is_sound" "is_sound" s_is_sound a.f_is_sound) (T : Txt K mg a) (h_led_alone : Pr P w K mg base CX0 2 a.f_led_alone ["rules", "part"] (sp_led_alone P w K a)) : Pr P w K mg base CX0 3 a.f_is_sound ["rules", "parts"] (sp_is_sound P w K a) := by
  obtain ⟨fd, F⟩ := F
  obtain ⟨fd_led_alone, G_led_alone, B_led_alone, K_led_alone⟩ := h_led_alone
  refine ⟨fd, F.ok sc_is_sound (fun vs H Q E h => ?_) (fun cdv A outer s H vs Q E hr h => ?_), F.binds (ps := ["rules", "parts"]) fun _ _ _ _ _ _ us hl => match us, hl with | [_, _], _ => rfl, F.kp⟩
  · obtain ⟨l, p, rs, rfl, _⟩ := h
    rfl
  · obtain ⟨l, p, rs, rfl, hR, hlen, hp, q⟩ := h
    refine ⟨_, (pss_one (ps_ret (pe_callB (cr_all rfl) (by rfl) T.n_all (by decide +kernel) (pa_cons (pe_lc (own := [("part", 2)]) rfl sc_is_sound.nd (pi_range1 (by rfl) T.n_range (pa_cons (pv 1) pa_nil)) (blkOk_by (N := ["rules", "parts", "part"]) (sc := defScope s_is_sound) (by decide +kernel)) (fun _ _ _ _ _ => (pg_name (i := 2) sc_is_sound.nd rfl (Or.inl rfl))) (fun _ _ _ _ _ => pts_nil) (fun _ _ _ _ _ => (pe_cmpR (op_notIn_seqK (K := K) rfl) (pv 2) (pe_call G_led_alone (hr.mono (by decide)) (by rfl) T.g_led_alone K_led_alone B_led_alone .nil pass0 (pa_cons (pv 0) (pa_cons (pv 2) pa_nil))) rfl))) pa_nil)))), ?_⟩
    refine ⟨vN p, rfl, (p : Int), rfl, by omega, by omega, fun D hD => ?_⟩
    rw [Int.toNat_natCast]
    refine lc_range (fun i H' => Same H H' ∧ ∃ bs : List Bool, bs.length = i ∧ H' D = some (.lst (bs.map V.bl)) ∧ ∀ j b, bs[j]? = some b → (b = true ↔ ¬ Gs.ReachN rs j j)) ⟨same_new hD, [], rfl, upd_same, fun j b e => by simp at e⟩ (fun i H' hi ⟨sm, bs, hb, hl, hbs⟩ => ?_) fun H' ⟨sm, bs, hb, hl, hbs⟩ => ?_
    · have ei : (0 : Int) + (i : Int) = (i : Int) := Int.zero_add _
      refine ⟨rfl, turn_yes ⟨vN i, by rw [ei]; rfl, .ref l, rfl, vN i, by rw [ei]; rfl, l, i, rs, rfl, RulesAt.mono hR sm, hlen, fun H2 f L s2 hL hm => ?_⟩⟩
      refine ⟨f, _, rfl, .inl (sqL hL), rfl, flat_nums _, _, s2 _ _ hl, line_lt (by rw [List.length_map]; omega), same_upd_of (sm.trans s2) hD, bs ++ [!decide (i ∈ L)], by simp [hb], ?_, fun j b e => ?_⟩
      · simp only [if_true]
        rw [upd_same, inV_nums, List.map_append]
        rfl
      · rw [List.getElem?_append] at e
        split at e
        · exact hbs j b e
        · rename_i hge
          have : j - bs.length = 0 := by
            rcases Nat.eq_zero_or_pos (j - bs.length) with z | z
            · exact z
            · rw [List.getElem?_eq_none (by show 1 ≤ _; exact z)] at e; cases e
          rw [this] at e
          cases e
          rw [show j = i by omega, Bool.not_eq_true', decide_eq_false_iff_not, hm i]
    · refine ⟨D, bs, rfl, sqL hl, q _ H' sm ?_⟩
      rw [List.all_eq_true]
      constructor
      · intro hall j hj
        have e : bs[j]? = some bs[j] := List.getElem?_eq_getElem (by omega)
        exact (hbs j _ e).mp (hall _ (List.mem_of_getElem? e))
      · intro hn b hbm
        obtain ⟨j, hj, e⟩ := List.getElem_of_mem hbm
        exact (hbs j b (by rw [List.getElem?_eq_getElem hj, e])).mpr (hn j (by omega))
end
end Gw
/-! # Walks: where a sign may end; where what's behind may end -/
namespace Gw
open PySem PySem.Spec PyProof.Rows L2 Gr
open Nt (Sign Rule Grammar)
open Gs (Ps Rs ofSign behindF Good SndP)
section
variable {P : Program} {w : World} {K : PySem.W.Frag} {mg : Str → Option Value} {base : Heap} {a : Ad}
/-! ### Ends.of_sign -/
def sp_Ends_of_sign (P : Program) (w : World) (K : PySem.W.Frag) (a : Ad) : Sp := fun vs H Q _ => ∃ (e : Addr) (g : Grammar) (ws : List Nat) (L : EL) (Pt : Ps) (Rt : Rs) (s : Sign) (i : Nat), vs = [.ref e, vN s.number, vN i] ∧ EndsAt a H e g ws L Pt Rt ∧ Lim g ∧ g.knows s = true ∧ i ≤ ws.length ∧ ws.length ≤ 24 ∧
  Q (vN (ofSign ws Pt s i)) H
theorem ok_Ends_of_sign (F : Fn K "of_sign" "Ends.of_sign" s_Ends_of_sign a.f_Ends_of_sign) (T : Txt K mg a) (h_is_part : Pr P w K mg base CX0 1 a.f_is_part ["sign"] (sp_is_part P w K a)) : Pr P w K mg base CX0 2 a.f_Ends_of_sign ["self", "sign", "place"] (sp_Ends_of_sign P w K a) := by
  obtain ⟨fd, F⟩ := F
  obtain ⟨fd_is_part, G_is_part, B_is_part, K_is_part⟩ := h_is_part
  refine ⟨fd, F.ok sc_Ends_of_sign (fun vs H Q E h => ?_) (fun cdv A outer s H vs Q E hr h => ?_), F.binds (ps := ["self", "sign", "place"]) fun _ _ _ _ _ _ us hl => match us, hl with | [_, _, _], _ => rfl, F.kp⟩
  · obtain ⟨e, g, ws, L, Pt, Rt, s, i, rfl, _⟩ := h
    rfl
  · obtain ⟨e, g, ws, L, Pt, Rt, s, i, rfl, hE, G, hs, hi, hw, q⟩ := h
    refine ⟨_, (pss_cons (ps_if (pt_val (pe_call G_is_part (hr.mono (by decide)) (by rfl) T.g_is_part K_is_part B_is_part .nil pass0 (pa_cons (pv 1) pa_nil))) (pss_one (ps_ret (pe_ix ix_list (pe_ix ix_list (pe_fld (pv 0) rfl) (pv 2) (fun _ _ => rfl)) (pe_op op_sub (pv 1) (pe_glob (v := .int (64)) rfl T.i_PART ⟨_, rfl⟩)) (fun _ _ => rfl)))) pss_nil)
      (pss_one (ps_ret (pe_ifExp (PW.pt (pw_and (pt_cmpR op_lt (pv 2) (pe_callB call_len_seq (by rfl) T.n_len PySem.boot_len (pa_cons (pe_fld (pv 0) rfl) pa_nil)) (nomark _)) (pw_and1 (pt_cmpR op_eq (pe_ix ix_list (pe_fld (pv 0) rfl) (pv 2) (fun _ _ => rfl)) (pv 1) (nomark _))))) (pe_op op_shl pe_int (pe_op op_add (pv 2) pe_int)) pe_int)))), ?_⟩
    refine ⟨vN s.number, rfl, s.number, rfl, _, rfl, ?_⟩
    cases s with
    | part p =>
      have hp : p < g.parts := by simpa [Grammar.knows] using hs
      refine ite2 (fun _ => ?_) fun c => absurd (decide_eq_true (show 64 ≤ 64 + p by omega)) c
      refine ⟨.ref e, rfl, e, _, _, _, .ref L.pa, rfl, hE.st.ins, T.c_Ends, T.na_Ends_of_parts, rfl, vN i, rfl, L.pa, _, (i : Int), .ref (L.pr i), rfl, rfl, sqL hE.st.parts, range_at (by omega), vN (64 + p), rfl, ((64 + p : Nat) : Int), 64, rfl, rfl, L.pr i, _, _, vN (Pt i p), rfl, rfl, sqL (hE.dy.pr i hi), ?_, q⟩
      rw [show (((64 + p : Nat) : Int) - 64) = (p : Int) by omega]
      exact range_at hp
    | word b =>
      have hb : b < g.words := by simpa [Grammar.knows] using hs
      have := G.words
      refine ite2 (fun c => absurd (of_decide_eq_true c) (by show ¬ 64 ≤ b; omega)) fun _ => ?_
      have hn : (ws.map vN).length = ws.length := List.length_map ..
      have q' : Q (vN (if ws[i]? = some b then 2 ^ (i + 1) else 0)) H := q
      refine ⟨vN i, rfl, .ref e, rfl, e, _, _, _, .ref L.xa, rfl, hE.st.ins, T.c_Ends, T.na_Ends_text, rfl, L.xa, _, rfl, .inl (sqL hE.st.text), (i : Int), _, rfl, rfl, _, rfl, ite2 (fun c => ?_) (fun c => ?_)⟩
      · have hl : i < ws.length := by
          have := of_decide_eq_true c
          rw [hn] at this
          omega
        have hv : ws[i]? = some ws[i] := List.getElem?_eq_getElem hl
        generalize ws[i] = v at hv
        refine ⟨.ref e, rfl, e, _, _, _, .ref L.xa, rfl, hE.st.ins, T.c_Ends, T.na_Ends_text, rfl, vN i, rfl, L.xa, _, (i : Int), vN v, rfl, rfl, sqL hE.st.text, at_map hv, vN b, rfl, rfl, _, rfl, ite2 (fun c2 => ?_) (fun c2 => ?_)⟩
        · have e2 : v = b := by
            have := V.int.inj (of_decide_eq_true c2)
            omega
          rw [hv, e2, if_pos rfl] at q'
          refine ⟨vN i, rfl, (i : Int), 1, rfl, rfl, 1, (i : Int) + 1, rfl, rfl, ⟨by omega, by omega, by decide⟩, ?_⟩
          show Q (.int (1 * 2 ^ ((i : Int) + 1).toNat)) H
          rw [show ((i : Int) + 1).toNat = i + 1 by omega, Int.one_mul]
          have : ((2 ^ (i + 1) : Nat) : Int) = (2 : Int) ^ (i + 1) := by simp
          rw [← this]
          exact q'
        · rw [hv, if_neg (fun z => c2 (decide_eq_true (by rw [Option.some.inj z])))] at q'
          exact q'
      · have hl : ws[i]? = none := List.getElem?_eq_none (by
          rcases Nat.lt_or_ge i ws.length with z | z
          · exact absurd (decide_eq_true (by rw [hn]; omega)) c
          · exact z)
        rw [hl, if_neg (by simp)] at q'
        exact q'
/-! ### Ends.behind -/
def sp_Ends_behind (P : Program) (w : World) (K : PySem.W.Frag) (a : Ad) : Sp := fun vs H Q _ => ∃ (e : Addr) (g : Grammar) (ws : List Nat) (L : EL) (Pt : Ps) (Rt : Rs) (r k i : Nat) (x : Rule), vs = [.ref e, vN r, vN k, vN i] ∧ EndsAt a H e g ws L Pt Rt ∧ Good g ∧ Lim g ∧ g.rules[r]? = some x ∧ k < x.right.length ∧
  i ≤ ws.length ∧ ws.length ≤ 24 ∧ SndP g ws Pt i ∧ ∀ H', Same H H' → Q (vN (behindF g ws Pt Rt r k i)) H'
theorem ok_Ends_behind (F : Fn K "behind" "Ends.behind" s_Ends_behind a.f_Ends_behind) (T : Txt K mg a) (h_Ends_of_sign : Pr P w K mg base CX0 2 a.f_Ends_of_sign ["self", "sign", "place"] (sp_Ends_of_sign P w K a)) (h_places_in : Pr P w K mg base CX0 1 a.f_places_in ["some"] (sp_places_in P w K a)) : Pr P w K mg base CX0 3 a.f_Ends_behind ["self", "rule", "at", "place"] (sp_Ends_behind P w K a) := by
  obtain ⟨fd, F⟩ := F
  obtain ⟨fd_Ends_of_sign, G_Ends_of_sign, B_Ends_of_sign, K_Ends_of_sign⟩ := h_Ends_of_sign
  obtain ⟨fd_places_in, G_places_in, B_places_in, K_places_in⟩ := h_places_in
  refine ⟨fd, F.ok sc_Ends_behind (fun vs H Q E h => ?_) (fun cdv A outer s H vs Q E hr h => ?_), F.binds (ps := ["self", "rule", "at", "place"]) fun _ _ _ _ _ _ us hl => match us, hl with | [_, _, _, _], _ => rfl, F.kp⟩
  · obtain ⟨e, g, ws, L, Pt, Rt, r, k, i, x, rfl, _⟩ := h
    rfl
  · obtain ⟨e, g, ws, L, Pt, Rt, r, k, i, x, rfl, hE, GG, G, hx, hk, hi, hw, hs, q⟩ := h
    refine ⟨_, (pss_cons (ps_set (i := 4) sc_Ends_behind.nd rfl (Or.inl rfl) (pe_meth (pv 0) T.c_Ends T.m_Ends_of_sign G_Ends_of_sign (hr.mono (by decide)) B_Ends_of_sign .nil pass0 (pa_cons (pe_ix ix_tup (pe_ix ix_tup (pe_ix ix_list (pe_fld (pe_fld (pv 0) rfl) rfl) (pv 1) (fun _ _ => rfl)) pe_int (fun _ _ => rfl)) (pv 2) (fun _ _ => rfl)) (pa_cons (pv 3) pa_nil))))
      (pss_cons (ps_if (pt_cmpR op_eq (pe_op op_add (pv 2) pe_int) (pe_callB call_len_seq (by rfl) T.n_len PySem.boot_len (pa_cons (pe_ix ix_tup (pe_ix ix_list (pe_fld (pe_fld (pv 0) rfl) rfl) (pv 1) (fun _ _ => rfl)) pe_int (fun _ _ => rfl)) pa_nil)) (nomark _)) (pss_one (ps_ret (pv 4))) pss_nil)
      (pss_cons (ps_set (i := 5) sc_Ends_behind.nd rfl (Or.inl rfl) pe_int)
      (pss_cons (ps_for PassesOwn.never rfl (pi_list (pe_call G_places_in (hr.mono (by decide)) (by rfl) T.g_places_in K_places_in B_places_in .nil pass0 (pa_cons (pv 4) pa_nil))) (pg_name (i := 6) sc_Ends_behind.nd rfl (Or.inl rfl)) (pss_one (ps_set (i := 5) sc_Ends_behind.nd rfl (Or.inl rfl) (pe_op op_or (pv 5) (pe_ix ix_list (pe_ix ix_list (pe_ix ix_list (pe_fld (pv 0) rfl) (pv 6) (fun _ _ => rfl)) (pv 1) (fun _ _ => rfl)) (pe_op op_add (pv 2) pe_int) (fun _ _ => rfl))))))
      (pss_one (ps_ret (pv 5))))))), ?_⟩
    obtain ⟨ps, t, u, hl, hlen, hpt, ht, hu⟩ := hE.st.gram.rule hx
    obtain ⟨dxg, hg⟩ := hE.st.gram.1
    obtain ⟨s, e1, e2⟩ := Gs.drop_cons hk
    have kn : g.knows s = true := GG.kn x (List.mem_of_getElem? hx) s (List.mem_of_getElem? e1)
    have hat : atI ((x.right.map Sign.number).map vN) (k : Int) = some (vN s.number) := at_map (by rw [List.getElem?_map, e1]; rfl)
    -- ends = self.of_sign(self.grammar.rules[rule][1][at], place)
    refine ⟨.ref e, rfl, e, _, _, rfl, hE.st.ins, rfl, .ref e, rfl, e, _, _, _, .ref L.ga, rfl, hE.st.ins, T.c_Ends, T.na_Ends_grammar, rfl, L.ga, _, _, _, .ref L.gl, rfl, hg, T.c_Grammar, T.na_Grammar_rules, rfl, vN r, rfl, L.gl, _, (r : Int), .ref t, rfl, rfl, sqL hl, atI_nat hpt,
      t, _, 1, .ref u, rfl, rfl, sqT ht, atI_nat (j := 1) rfl, vN k, rfl, u, _, (k : Int), vN s.number, rfl, rfl, sqT hu, hat, vN i, rfl, e, g, ws, L, Pt, Rt, s, i, rfl, hE, G, kn, hi, hw, ?_⟩
    have hlr : ((x.right.map Sign.number).map vN).length = x.right.length := by rw [List.length_map, List.length_map]
    -- if at + 1 == len(..): return ends
    refine ⟨vN k, rfl, (k : Int), 1, rfl, rfl, .ref e, rfl, e, _, _, _, .ref L.ga, rfl, hE.st.ins, T.c_Ends, T.na_Ends_grammar, rfl, L.ga, _, _, _, .ref L.gl, rfl, hg, T.c_Grammar, T.na_Grammar_rules, rfl, vN r, rfl, L.gl, _, (r : Int), .ref t, rfl, rfl, sqL hl, atI_nat hpt,
      t, _, 1, .ref u, rfl, rfl, sqT ht, atI_nat (j := 1) rfl, u, _, rfl, .inr (sqT hu), rfl, _, rfl, ite2 (fun c => ?_) (fun c => ?_)⟩
    · have e3 : x.right.drop (k + 1) = [] := List.drop_eq_nil_of_le (by
        have := V.int.inj (of_decide_eq_true c)
        rw [hlr] at this
        omega)
      rw [e3] at e2
      refine ⟨_, rfl, ?_⟩
      have := q H (Same.refl H)
      rw [Gs.behind_one hx e2] at this
      exact this
    · have hl2 : k + 1 < x.right.length := by
        rcases Nat.lt_or_ge (k + 1) x.right.length with z | z
        · exact z
        · exact absurd (decide_eq_true (by rw [hlr, show ((x.right.length : Nat) : Int) = (k : Int) + 1 by omega])) c
      obtain ⟨s', e3, e4⟩ := Gs.drop_cons hl2
      rw [e4] at e2
      rw [Gs.behind_more hx e2] at q
      generalize hn : ofSign ws Pt s i = n at q
      have bits : ∀ j, n.testBit j = true → j ≤ ws.length := fun j hj => by
        rw [← hn] at hj
        exact (Gs.ofSign_snd hs kn hj).bound hi
      have hnl : n < 2 ^ 64 := Nat.lt_of_lt_of_le (Gs.lt_pow_of_bits (m := 25) fun j hj => by have := bits j hj; omega) (by decide)
      -- found = 0; for end in places_in(ends)
      refine ⟨vN n, rfl, n, rfl, hnl, fun H1 l s1 _ hL => ?_⟩
      have hrl : (g.right r).length = x.right.length := by rw [Gs.right_of hx]
      refine ⟨l, rfl, ⟨_, sqL hL⟩, for_list (xs := (Gs.places n).map vN) (fun j σ H' => ∃ v6, σ = [some (.ref e), some (vN r), some (vN k), some (vN i), some (vN n), some (vN (Gs.orAll Rt r (k + 1) ((Gs.places n).take j) 0)), v6] ∧ Same H H' ∧ NumsL H' l (Gs.places n))
        ⟨none, rfl, s1, hL⟩ (fun j σ H' _ ⟨_, _, _, h⟩ => sqL h) (fun j v σ H' hv ⟨v6, eσ, s2, hL2⟩ => ?_) (fun σ H' ⟨v6, eσ, s2, hL2⟩ => ?_)⟩
      · subst eσ
        obtain ⟨m, hm, rfl⟩ := get_map hv
        have hmn : m ≤ ws.length := bits m (Gs.mem_places.mp (List.mem_of_getElem? hm))
        have hr : r < g.rules.length := (List.getElem?_eq_some_iff.mp hx).1
        refine ⟨_, rfl, .ref e, rfl, e, _, _, _, .ref L.ra, rfl, s2 _ _ hE.st.ins, T.c_Ends, T.na_Ends_of_rests, rfl, vN m, rfl, L.ra, _, (m : Int), .ref (L.ro m), rfl, rfl, sqL (s2 _ _ hE.st.rests), range_at (by omega), vN r, rfl, L.ro m, _, (r : Int), .ref (L.rr m r), rfl, rfl, sqL (s2 _ _ (hE.st.row m hmn)), range_at hr,
          vN k, rfl, (k : Int), 1, rfl, rfl, L.rr m r, _, _, vN (Rt m r (k + 1)), rfl, rfl, sqL (s2 _ _ (hE.dy.rr m r hmn hr)), ?_, _, _, rfl, rfl, ?_⟩
        · exact at_of (j := k + 1) (by omega) (range_get (by rw [hrl]; exact hl2))
        · refine ⟨some (vN m), ?_, s2, hL2⟩
          rw [take_one hm]
          show [some (V.ref e), some (vN r), some (vN k), some (vN i), some (vN n), some (V.int (Builtin.bitOr _ _)), _] = _
          rw [bitOr_nat]
          unfold Gs.orAll
          rw [List.foldl_append]
          rfl
      · subst eσ
        refine ⟨_, rfl, ?_⟩
        rw [nums_len, List.take_length]
        exact q H' s2
end
end Gw
/-! # Walks: a place grows, its rests are filled -/
namespace Gw
open PySem PySem.Spec PyProof.Rows L2 Gr
open Nt (Sign Rule Grammar)
open Gs (Ps Rs ofSign behindF Good SndP GoodR growF growOne restsF restRule restOne)
section
variable {P : Program} {w : World} {K : PySem.W.Frag} {mg : Str → Option Value} {base : Heap} {a : Ad}
theorem ixN_nat {n j : Nat} (h : j < n) : ixN n (j : Int) = some j := by
  unfold ixN
  rw [if_pos (by omega), if_pos (by omega), Int.toNat_natCast]
theorem range_fold_succ {α : Type} (f : α → Nat → α) (s : α) (j : Nat) : (List.range (j + 1)).foldl f s = f ((List.range j).foldl f s) j := by
  rw [List.range_succ, List.foldl_append]
  rfl
theorem ne_bl {x y : Nat} : (!decide (vN x = vN y)) = (x != y) := by
  have : decide (vN x = vN y) = (x == y) := by
    rw [Bool.eq_iff_iff, decide_eq_true_eq, beq_iff_eq]
    exact ⟨fun h => by have := V.int.inj h; omega, fun h => by rw [h]⟩
  rw [this]
  rfl
/-! ### Ends.grow -/
def sp_Ends_grow (P : Program) (w : World) (K : PySem.W.Frag) (a : Ad) : Sp := fun vs H Q _ => ∃ (e : Addr) (g : Grammar) (ws : List Nat) (L : EL) (Pt : Ps) (Rt : Rs) (i : Nat), vs = [.ref e, vN i] ∧ EndsAt a H e g ws L Pt Rt ∧ Good g ∧ Lim g ∧ i ≤ ws.length ∧ ws.length ≤ 24 ∧ SndP g ws Pt i ∧
  (∀ i', i < i' → i' ≤ ws.length → GoodR g ws Rt i') ∧ ∀ H', EndsAt a H' e g ws L (growF g ws Rt i Pt).1 Rt → Kp (L.S g ws) H H' → Q (.bl (growF g ws Rt i Pt).2) H'
theorem ok_Ends_grow (F : Fn K "grow" "Ends.grow" s_Ends_grow a.f_Ends_grow) (T : Txt K mg a) (h_Ends_behind : Pr P w K mg base CX0 3 a.f_Ends_behind ["self", "rule", "at", "place"] (sp_Ends_behind P w K a)) : Pr P w K mg base CX0 4 a.f_Ends_grow ["self", "place"] (sp_Ends_grow P w K a) := by
  obtain ⟨fd, F⟩ := F
  obtain ⟨fd_Ends_behind, G_Ends_behind, B_Ends_behind, K_Ends_behind⟩ := h_Ends_behind
  refine ⟨fd, F.ok sc_Ends_grow (fun vs H Q E h => ?_) (fun cdv A outer s H vs Q E hr h => ?_), F.binds (ps := ["self", "place"]) fun _ _ _ _ _ _ us hl => match us, hl with | [_, _], _ => rfl, F.kp⟩
  · obtain ⟨e, g, ws, L, Pt, Rt, i, rfl, _⟩ := h
    rfl
  · obtain ⟨e, g, ws, L, Pt, Rt, i, rfl, hE, GG, G, hi, hw, hs, hgr, q⟩ := h
    refine ⟨_, (pss_cons (ps_set (i := 2) sc_Ends_grow.nd rfl (Or.inl rfl) pe_bl)
      (pss_cons (ps_for PassesOwn.never rfl (pi_enum (by rfl) T.n_enumerate (pa_cons (pe_fld (pe_fld (pv 0) rfl) rfl) pa_nil)) (pg_tup (by rfl) (pgs_cons (pg_name (i := 3) sc_Ends_grow.nd rfl (Or.inl rfl)) (pgs_cons (pg_tup (by rfl) (pgs_cons (pg_name (i := 4) sc_Ends_grow.nd rfl (Or.inl rfl)) (pgs_cons (pg_name (i := 5) sc_Ends_grow.nd rfl (Or.inl rfl)) pgs_nil))) pgs_nil))) (pss_cons (ps_set (i := 6) sc_Ends_grow.nd rfl (Or.inl rfl) (pe_op op_or (pe_meth (pv 0) T.c_Ends T.m_Ends_behind G_Ends_behind (hr.mono (by decide)) B_Ends_behind .nil pass0 (pa_cons (pv 3) (pa_cons pe_int (pa_cons (pv 1) pa_nil)))) (pe_ix ix_list (pe_ix ix_list (pe_fld (pv 0) rfl) (pv 1) (fun _ _ => rfl)) (pv 4) (fun _ _ => rfl))))
      (pss_cons (ps_set (i := 2) sc_Ends_grow.nd rfl (Or.inl rfl) (pe_or (pv 2) (pe_one (pe_cmpR op_ne (pv 6) (pe_ix ix_list (pe_ix ix_list (pe_fld (pv 0) rfl) (pv 1) (fun _ _ => rfl)) (pv 4) (fun _ _ => rfl)) (nomark _)))))
      (pss_one (ps_asg (pv 6) (pg_sub (pe_ix ix_list (pe_fld (pv 0) rfl) (pv 1) (fun _ _ => rfl)) (pv 4) set_list))))))
      (pss_one (ps_ret (pv 2))))), ?_⟩
    obtain ⟨dxg, hg⟩ := hE.st.gram.1
    obtain ⟨ps, hl, hp, hk⟩ := hE.st.gram.2
    have hlen : ps.length = g.rules.length := by
      have := congrArg List.length hp
      simpa using this
    have hL : (ps.map fun p => V.ref p.1).length = g.rules.length := by rw [List.length_map, hlen]
    have nl : ¬ L.S g ws L.gl := hE.st.ng
    refine ⟨.ref e, rfl, e, _, _, _, .ref L.ga, rfl, hE.st.ins, T.c_Ends, T.na_Ends_grammar, rfl, L.ga, _, _, _, .ref L.gl, rfl, hg, T.c_Grammar, T.na_Grammar_rules, rfl, L.gl, _, rfl, sqL hl,
      for_enum (xs := ps.map fun p => V.ref p.1) (fun j σ H' => ∃ v3 v4 v5 v6, σ = [some (.ref e), some (vN i), some (.bl ((List.range j).foldl (growOne g ws Rt i) (Pt, false)).2), v3, v4, v5, v6] ∧
          EndsAt a H' e g ws L ((List.range j).foldl (growOne g ws Rt i) (Pt, false)).1 Rt ∧ Kp (L.S g ws) H H')
        ⟨none, none, none, none, rfl, hE, Kp.refl _ H⟩ (fun j σ H' _ ⟨_, _, _, _, _, _, k⟩ => sqL (k _ _ hl nl)) (fun j v U σ H' hv ⟨v3, v4, v5, v6, eσ, hE', k⟩ hU => ?_) (fun σ H' ⟨v3, v4, v5, v6, eσ, hE', k⟩ => ?_)⟩
    · subst eσ
      obtain ⟨⟨t, kx⟩, hx, rfl⟩ := get_map hv
      have hj : j < g.rules.length := by rw [← hlen]; exact (List.getElem?_eq_some_iff.mp hx).1
      obtain ⟨x, hxr⟩ : ∃ x, g.rules[j]? = some x := ⟨_, List.getElem?_eq_getElem hj⟩
      have hkx : kx = ruleKey x := by
        have e1 : (ps.map (·.2))[j]? = some kx := by rw [List.getElem?_map, hx]; rfl
        rw [hp, List.getElem?_map, hxr] at e1
        exact (Option.some.inj e1).symm
      subst hkx
      obtain ⟨u, ht, hu⟩ := hk _ (List.mem_of_getElem? hx)
      have kt : ∀ b xs, H b = some (.tup xs) → H' b = some (.tup xs) := fun b xs z => k _ _ z (hE.notS z fun _ y => by cases y)
      have hsj : SndP g ws ((List.range j).foldl (growOne g ws Rt i) (Pt, false)).1 i :=
        (Gs.grow_fold GG hi Rt hgr (List.range j) Pt false (fun r hr => by have := List.mem_range.mp hr; omega) hs).1.snd hs
      rw [range_fold_succ]
      generalize (List.range j).foldl (growOne g ws Rt i) (Pt, false) = st at hE' hsj
      have hpl : x.left < g.parts := GG.left x (List.mem_of_getElem? hxr)
      have el := Gs.left_of hxr
      have hpos : 0 < x.right.length := List.length_pos_iff.mpr (GG.ne j x hxr)
      -- rule, (part, signs)
      have s1 : Same H' (upd H' U (.tup [.int ((j : Nat) : Int), V.ref t])) := same_new hU
      have hE1 := hE'.mono s1
      refine ⟨U, _, rfl, sqT upd_same, rfl, _, _, rfl, .ref t, _, rfl, ⟨t, _, rfl, sqT (s1 _ _ (kt _ _ ht)), rfl, vN x.left, _, rfl, .ref u, _, rfl, rfl, rfl, ?_⟩⟩
      -- ends = self.behind(rule, 0, place) | self.of_parts[place][part]
      refine ⟨.ref e, rfl, e, _, _, rfl, hE1.st.ins, rfl, .int (j : Int), rfl, vN i, rfl, e, g, ws, L, st.1, Rt, j, 0, i, x, rfl, hE1, GG, G, hxr, hpos, hi, hw, hsj, fun H2 s2 => ?_⟩
      have hE2 := hE1.mono s2
      have hrow := hE2.dy.pr i hi
      refine ⟨.ref e, rfl, e, _, _, _, .ref L.pa, rfl, hE2.st.ins, T.c_Ends, T.na_Ends_of_parts, rfl, vN i, rfl, L.pa, _, (i : Int), .ref (L.pr i), rfl, rfl, sqL hE2.st.parts, range_at (by omega), vN x.left, rfl, L.pr i, _, (x.left : Int), _, rfl, rfl, sqL hrow, range_at hpl, _, _, rfl, rfl, ?_⟩
      -- has_come = has_come or ends != self.of_parts[place][part]
      have eor : (fun i j => V.int (Builtin.bitOr i j)) ((behindF g ws st.1 Rt j 0 i : Nat) : Int) ((st.1 i x.left : Nat) : Int) = vN (behindF g ws st.1 Rt j 0 i ||| st.1 i x.left) := by
        show V.int (Builtin.bitOr _ _) = _
        rw [bitOr_nat]
      rw [eor]
      refine ⟨.bl st.2, rfl, st.2, rfl, ?_⟩
      have eb : (growOne g ws Rt i st j).2 = (st.2 || ((behindF g ws st.1 Rt j 0 i ||| st.1 i x.left) != st.1 i x.left)) := by
        unfold growOne
        rw [el]
      have eP : (growOne g ws Rt i st j).1 = Gs.updP st.1 i x.left (behindF g ws st.1 Rt j 0 i ||| st.1 i x.left) := by
        unfold growOne
        rw [el]
      -- what follows: the store
      have fin : ∀ b : Bool, b = (growOne g ws Rt i st j).2 → ∀ H3, H3 = H2 → (fun σ H3 => ∃ v : V, σ[6]? = some (some v) ∧ v = vN (behindF g ws st.1 Rt j 0 i ||| st.1 i x.left) ∧ H3 = H2) [some (.ref e), some (vN i), some (.bl b), some (.int (j : Int)), some (vN x.left), some (.ref u), some (vN (behindF g ws st.1 Rt j 0 i ||| st.1 i x.left))] H3 := fun b _ H3 hH => ⟨_, rfl, rfl, hH⟩
      have store : ∀ b : Bool, b = (growOne g ws Rt i st j).2 → ∃ v3 v4 v5 v6, [some (V.ref e), some (vN i), some (.bl b), some (.int (j : Int)), some (vN x.left), some (.ref u), some (vN (behindF g ws st.1 Rt j 0 i ||| st.1 i x.left))] = [some (V.ref e), some (vN i), some (.bl (growOne g ws Rt i st j).2), v3, v4, v5, v6] ∧
          EndsAt a (upd H2 (L.pr i) (.lst (((List.range g.parts).map fun p => vN (st.1 i p)).set x.left (vN (behindF g ws st.1 Rt j 0 i ||| st.1 i x.left))))) e g ws L (growOne g ws Rt i st j).1 Rt ∧ Kp (L.S g ws) H (upd H2 (L.pr i) (.lst (((List.range g.parts).map fun p => vN (st.1 i p)).set x.left (vN (behindF g ws st.1 Rt j 0 i ||| st.1 i x.left))))) := fun b hb => by
        rw [eP, hb]
        obtain ⟨z1, z2⟩ := hE2.setP (p := x.left) (v := behindF g ws st.1 Rt j 0 i ||| st.1 i x.left) hi
        exact ⟨_, _, _, _, rfl, z1, (k.trans (Kp.of (s1.trans s2))).trans z2⟩
      cases hb : st.2 with
      | true =>
        refine ⟨_, rfl, .ref e, rfl, e, _, _, _, .ref L.pa, rfl, hE2.st.ins, T.c_Ends, T.na_Ends_of_parts, rfl, vN i, rfl, L.pa, _, (i : Int), .ref (L.pr i), rfl, rfl, sqL hE2.st.parts, range_at (by omega), vN x.left, rfl, L.pr i, _, (x.left : Int), x.left, rfl, rfl, hrow, ixN_nat (by rw [List.length_map, List.length_range]; exact hpl), ?_⟩
        exact store true (by rw [eb, hb]; rfl)
      | false =>
        refine ⟨vN (behindF g ws st.1 Rt j 0 i ||| st.1 i x.left), rfl, .ref e, rfl, e, _, _, _, .ref L.pa, rfl, hE2.st.ins, T.c_Ends, T.na_Ends_of_parts, rfl, vN i, rfl, L.pa, _, (i : Int), .ref (L.pr i), rfl, rfl, sqL hE2.st.parts, range_at (by omega), vN x.left, rfl, L.pr i, _, (x.left : Int), _, rfl, rfl, sqL hrow, range_at hpl, rfl, ?_⟩
        refine ⟨_, rfl, .ref e, rfl, e, _, _, _, .ref L.pa, rfl, hE2.st.ins, T.c_Ends, T.na_Ends_of_parts, rfl, vN i, rfl, L.pa, _, (i : Int), .ref (L.pr i), rfl, rfl, sqL hE2.st.parts, range_at (by omega), vN x.left, rfl, L.pr i, _, (x.left : Int), x.left, rfl, rfl, hrow, ixN_nat (by rw [List.length_map, List.length_range]; exact hpl), ?_⟩
        exact store _ (by rw [eb, hb, ne_bl]; rfl)
    · subst eσ
      rw [hL] at hE' ⊢
      exact ⟨_, rfl, q H' hE' k⟩
/-! ### Ends.fill_rests -/
def sp_Ends_fill_rests (P : Program) (w : World) (K : PySem.W.Frag) (a : Ad) : Sp := fun vs H Q _ => ∃ (e : Addr) (g : Grammar) (ws : List Nat) (L : EL) (Pt : Ps) (Rt : Rs) (i : Nat), vs = [.ref e, vN i] ∧ EndsAt a H e g ws L Pt Rt ∧ Good g ∧ Lim g ∧ i ≤ ws.length ∧ ws.length ≤ 24 ∧ SndP g ws Pt i ∧
  ∀ H', EndsAt a H' e g ws L Pt (restsF g ws Pt i Rt) → Kp (L.S g ws) H H' → Q .non H'
theorem ok_Ends_fill_rests (F : Fn K "fill_rests" "Ends.fill_rests" s_Ends_fill_rests a.f_Ends_fill_rests) (T : Txt K mg a) (h_Ends_behind : Pr P w K mg base CX0 3 a.f_Ends_behind ["self", "rule", "at", "place"] (sp_Ends_behind P w K a)) : Pr P w K mg base CX0 4 a.f_Ends_fill_rests ["self", "place"] (sp_Ends_fill_rests P w K a) := by
  obtain ⟨fd, F⟩ := F
  obtain ⟨fd_Ends_behind, G_Ends_behind, B_Ends_behind, K_Ends_behind⟩ := h_Ends_behind
  refine ⟨fd, F.ok sc_Ends_fill_rests (fun vs H Q E h => ?_) (fun cdv A outer s H vs Q E hr h => ?_), F.binds (ps := ["self", "place"]) fun _ _ _ _ _ _ us hl => match us, hl with | [_, _], _ => rfl, F.kp⟩
  · obtain ⟨e, g, ws, L, Pt, Rt, i, rfl, _⟩ := h
    rfl
  · obtain ⟨e, g, ws, L, Pt, Rt, i, rfl, hE, GG, G, hi, hw, hs, q⟩ := h
    refine ⟨_, (pss_one (ps_for PassesOwn.never rfl (pi_enum (by rfl) T.n_enumerate (pa_cons (pe_fld (pe_fld (pv 0) rfl) rfl) pa_nil)) (pg_tup (by rfl) (pgs_cons (pg_name (i := 2) sc_Ends_fill_rests.nd rfl (Or.inl rfl)) (pgs_cons (pg_tup (by rfl) (pgs_cons (pg_name (i := 3) sc_Ends_fill_rests.nd rfl (Or.inl rfl)) (pgs_cons (pg_name (i := 4) sc_Ends_fill_rests.nd rfl (Or.inl rfl)) pgs_nil))) pgs_nil))) (pss_one (ps_for PassesOwn.never rfl (pi_range2 (by rfl) T.n_range (pa_cons pe_int (pa_cons (pe_callB call_len_seq (by rfl) T.n_len PySem.boot_len (pa_cons (pv 4) pa_nil)) pa_nil))) (pg_name (i := 5) sc_Ends_fill_rests.nd rfl (Or.inl rfl)) (pss_one (ps_asg (pe_meth (pv 0) T.c_Ends T.m_Ends_behind G_Ends_behind (hr.mono (by decide)) B_Ends_behind .nil pass0 (pa_cons (pv 2) (pa_cons (pv 5) (pa_cons (pv 1) pa_nil)))) (pg_sub (pe_ix ix_list (pe_ix ix_list (pe_fld (pv 0) rfl) (pv 1) (fun _ _ => rfl)) (pv 2) (fun _ _ => rfl)) (pv 5) set_list))))))), ?_⟩
    obtain ⟨dxg, hg⟩ := hE.st.gram.1
    obtain ⟨ps, hl, hp, hk⟩ := hE.st.gram.2
    have hlen : ps.length = g.rules.length := by
      have := congrArg List.length hp
      simpa using this
    have hL : (ps.map fun p => V.ref p.1).length = g.rules.length := by rw [List.length_map, hlen]
    have nl : ¬ L.S g ws L.gl := hE.st.ng
    refine ⟨.ref e, rfl, e, _, _, _, .ref L.ga, rfl, hE.st.ins, T.c_Ends, T.na_Ends_grammar, rfl, L.ga, _, _, _, .ref L.gl, rfl, hg, T.c_Grammar, T.na_Grammar_rules, rfl, L.gl, _, rfl, sqL hl,
      for_enum (xs := ps.map fun p => V.ref p.1) (fun j σ H' => ∃ v2 v3 v4 v5, σ = [some (.ref e), some (vN i), v2, v3, v4, v5] ∧
          EndsAt a H' e g ws L Pt ((List.range j).foldl (restRule g ws Pt i) Rt) ∧ Kp (L.S g ws) H H')
        ⟨none, none, none, none, rfl, hE, Kp.refl _ H⟩ (fun j σ H' _ ⟨_, _, _, _, _, _, k⟩ => sqL (k _ _ hl nl)) (fun j v U σ H' hv ⟨v2, v3, v4, v5, eσ, hE', k⟩ hU => ?_) (fun σ H' ⟨v2, v3, v4, v5, eσ, hE', k⟩ => ?_)⟩
    · subst eσ
      obtain ⟨⟨t, kx⟩, hx, rfl⟩ := get_map hv
      have hj : j < g.rules.length := by rw [← hlen]; exact (List.getElem?_eq_some_iff.mp hx).1
      obtain ⟨x, hxr⟩ : ∃ x, g.rules[j]? = some x := ⟨_, List.getElem?_eq_getElem hj⟩
      have hkx : kx = ruleKey x := by
        have e1 : (ps.map (·.2))[j]? = some kx := by rw [List.getElem?_map, hx]; rfl
        rw [hp, List.getElem?_map, hxr] at e1
        exact (Option.some.inj e1).symm
      subst hkx
      obtain ⟨u, ht, hu⟩ := hk _ (List.mem_of_getElem? hx)
      have kt : ∀ b xs, H b = some (.tup xs) → H' b = some (.tup xs) := fun b xs z => k _ _ z (hE.notS z fun _ y => by cases y)
      rw [range_fold_succ]
      generalize (List.range j).foldl (restRule g ws Pt i) Rt = Rj at hE'
      have hlr : (g.right j).length = x.right.length := by rw [Gs.right_of hxr]
      have h8 := G.long x (List.mem_of_getElem? hxr)
      have s1 : Same H' (upd H' U (.tup [.int ((j : Nat) : Int), V.ref t])) := same_new hU
      have hE1 := hE'.mono s1
      refine ⟨U, _, rfl, sqT upd_same, rfl, _, _, rfl, .ref t, _, rfl, ⟨t, _, rfl, sqT (s1 _ _ (kt _ _ ht)), rfl, vN x.left, _, rfl, .ref u, _, rfl, rfl, rfl, ?_⟩⟩
      have hu1 := s1 _ _ (kt _ _ hu)
      have hul : (((ruleKey x).2).map vN).length = x.right.length := by
        show ((x.right.map Sign.number).map vN).length = _
        rw [List.length_map, List.length_map]
      -- for at in range(1, len(signs))
      refine ⟨.ref u, rfl, u, _, rfl, .inr (sqT hu1), 1, ((((ruleKey x).2).map vN).length : Int), rfl, ⟨by omega, by omega, by omega, by rw [hul]; omega⟩, ?_⟩
      rw [hul]
      rw [show ((x.right.length : Int) - 1).toNat = x.right.length - 1 by omega]
      refine for_range (fun m σ H3 => ∃ v5, σ = [some (.ref e), some (vN i), some (.int (j : Int)), some (vN x.left), some (.ref u), v5] ∧ EndsAt a H3 e g ws L Pt ((List.range' 1 m).foldl (restOne g ws Pt i j) Rj) ∧ Kp (L.S g ws) H H3)
        ⟨v5, rfl, hE1, k.trans (Kp.of s1)⟩ (fun m σ H3 hm ⟨v5, eσ, hE3, k3⟩ => ?_) (fun σ H3 ⟨v5, eσ, hE3, k3⟩ => ?_)
      · subst eσ
        have ei : (1 : Int) + (m : Int) = ((1 + m : Nat) : Int) := by omega
        rw [ei]
        rw [List.range'_1_concat, List.foldl_append]
        generalize (List.range' 1 m).foldl (restOne g ws Pt i j) Rj = Rm at hE3
        have hk1 : 1 + m < x.right.length := by omega
        refine ⟨.ref e, rfl, e, _, _, rfl, hE3.st.ins, rfl, .int (j : Int), rfl, vN (1 + m), rfl, vN i, rfl, e, g, ws, L, Pt, Rm, j, 1 + m, i, x, rfl, hE3, GG, G, hxr, hk1, hi, hw, hs, fun H4 s4 => ?_⟩
        have hE4 := hE3.mono s4
        have hrow := hE4.dy.rr i j hi hj
        refine ⟨.ref e, rfl, e, _, _, _, .ref L.ra, rfl, hE4.st.ins, T.c_Ends, T.na_Ends_of_rests, rfl, vN i, rfl, L.ra, _, (i : Int), .ref (L.ro i), rfl, rfl, sqL hE4.st.rests, range_at (by omega), .int (j : Int), rfl, L.ro i, _, (j : Int), .ref (L.rr i j), rfl, rfl, sqL (hE4.st.row i hi), range_at hj,
          vN (1 + m), rfl, L.rr i j, _, ((1 + m : Nat) : Int), 1 + m, rfl, rfl, hrow, ixN_nat (by rw [List.length_map, List.length_range, hlr]; exact hk1), ?_⟩
        obtain ⟨z1, z2⟩ := hE4.setR (r := j) (k := 1 + m) (v := behindF g ws Pt Rm j (1 + m) i) hi hj
        exact ⟨_, rfl, z1, (k3.trans (Kp.of s4)).trans z2⟩
      · subst eσ
        refine ⟨_, _, _, _, rfl, ?_, k3⟩
        rw [← hlr] at hE3
        exact hE3
    · subst eσ
      rw [hL] at hE'
      exact q H' hE' k
end
end Gw
/-! # Walks: all is filled, from the end on -/
namespace Gw
open PySem PySem.Spec PyProof.Rows L2 Gr
open Nt (Sign Rule Grammar)
open Gs (Ps Rs ofSign behindF Good SndP CmpP GoodR GoodAt GoodE growF restsF Ds)
section
variable {P : Program} {w : World} {K : PySem.W.Frag} {mg : Str → Option Value} {base : Heap} {a : Ad}
theorem goodR_cong {g : Grammar} {ws : List Nat} {R R' : Rs} {i : Nat} (h : ∀ b c, R' i b c = R i b c) (q : GoodR g ws R i) : GoodR g ws R' i := fun r x k j hx h1 h2 => by
  rw [h]
  exact q r x k j hx h1 h2
theorem goodAt_cong {g : Grammar} {ws : List Nat} {P P' : Ps} {R R' : Rs} {i : Nat} (hp : ∀ p, P' i p = P i p) (h : ∀ b c, R' i b c = R i b c) (q : GoodAt g ws P R i) : GoodAt g ws P' R' i :=
  ⟨fun p j hl hb => q.snd p j hl (by rw [← hp]; exact hb), fun p j hl d => by rw [hp]; exact q.cmp p j hl d, goodR_cong h q.rest⟩
theorem goodAt_end {g : Grammar} (G : Good g) (ws : List Nat) : GoodAt g ws (fun _ _ => 0) (fun _ _ _ => 0) ws.length := by
  refine ⟨fun p j _ h => by simp at h, fun p j _ d => ?_, fun r x k j hx h1 h2 => ⟨fun h => by simp at h, fun d => ?_⟩⟩
  · have := d.lt G.ne (by simp)
    have := d.bound (Nat.le_refl _)
    omega
  · have := d.lt G.ne (fun z => by
      have := congrArg List.length z
      rw [List.length_drop] at this
      simp at this
      omega)
    have := d.bound (Nat.le_refl _)
    omega
/-! ### Ends.fill -/
def sp_Ends_fill (P : Program) (w : World) (K : PySem.W.Frag) (a : Ad) : Sp := fun vs H Q _ => ∃ (e : Addr) (g : Grammar) (ws : List Nat) (L : EL), vs = [.ref e] ∧ EndsAt a H e g ws L (fun _ _ => 0) (fun _ _ _ => 0) ∧ Good g ∧ Lim g ∧ ws.length ≤ 24 ∧
  ∀ H' Pt Rt, EndsAt a H' e g ws L Pt Rt → GoodE g ws Pt Rt → Kp (L.S g ws) H H' → Q .non H'
theorem ok_Ends_fill (F : Fn K "fill" "Ends.fill" s_Ends_fill a.f_Ends_fill) (T : Txt K mg a) (h_Ends_grow : Pr P w K mg base CX0 4 a.f_Ends_grow ["self", "place"] (sp_Ends_grow P w K a)) (h_Ends_fill_rests : Pr P w K mg base CX0 4 a.f_Ends_fill_rests ["self", "place"] (sp_Ends_fill_rests P w K a)) : Pr P w K mg base CX0 5 a.f_Ends_fill ["self"] (sp_Ends_fill P w K a) := by
  obtain ⟨fd, F⟩ := F
  obtain ⟨fd_Ends_grow, G_Ends_grow, B_Ends_grow, K_Ends_grow⟩ := h_Ends_grow
  obtain ⟨fd_Ends_fill_rests, G_Ends_fill_rests, B_Ends_fill_rests, K_Ends_fill_rests⟩ := h_Ends_fill_rests
  refine ⟨fd, F.ok sc_Ends_fill (fun vs H Q E h => ?_) (fun cdv A outer s H vs Q E hr h => ?_), F.binds (ps := ["self"]) fun _ _ _ _ _ _ us hl => match us, hl with | [_], _ => rfl, F.kp⟩
  · obtain ⟨e, g, ws, L, rfl, _⟩ := h
    rfl
  · obtain ⟨e, g, ws, L, rfl, hE, GG, G, hw, q⟩ := h
    refine ⟨_, (pss_one (ps_for PassesOwn.never rfl (pi_range3 (by rfl) T.n_range (pa_cons (pe_op op_sub (pe_callB call_len_seq (by rfl) T.n_len PySem.boot_len (pa_cons (pe_fld (pv 0) rfl) pa_nil)) pe_int) (pa_cons (pe_un un_neg pe_int) (pa_cons (pe_un un_neg pe_int) pa_nil)))) (pg_name (i := 1) sc_Ends_fill.nd rfl (Or.inl rfl)) (pss_cons (ps_while PassesOwn.never (pt_val (pe_meth (pv 0) T.c_Ends T.m_Ends_grow G_Ends_grow (hr.mono (by decide)) B_Ends_grow .nil pass0 (pa_cons (pv 1) pa_nil))) (pss_one ps_pass))
      (pss_one (ps_expr (pe_meth (pv 0) T.c_Ends T.m_Ends_fill_rests G_Ends_fill_rests (hr.mono (by decide)) B_Ends_fill_rests .nil pass0 (pa_cons (pv 1) pa_nil))))))), ?_⟩
    have hn : (ws.map vN).length = ws.length := List.length_map ..
    have rg : RgC (((ws.map vN).length : Int) - 1) (-1) (-1) ws.length := by
      rw [hn]
      have := RgC.neg (i := (ws.length : Int) - 1) (j := -1) (by omega) (by omega) (by omega) (by omega)
      rwa [show ((ws.length : Int) - 1 - -1).toNat = ws.length by omega] at this
    refine ⟨.ref e, rfl, e, _, _, _, .ref L.xa, rfl, hE.st.ins, T.c_Ends, T.na_Ends_text, rfl, L.xa, _, rfl, .inl (sqL hE.st.text), _, 1, rfl, rfl, 1, rfl, 1, rfl, _, _, _, ws.length, rfl, rg, ?_⟩
    refine for_rangeC (fun i σ H' => ∃ v Pt Rt, σ = [some (.ref e), v] ∧ EndsAt a H' e g ws L Pt Rt ∧ Kp (L.S g ws) H H' ∧ (∀ i', ws.length - i ≤ i' → i' ≤ ws.length → GoodAt g ws Pt Rt i') ∧ ∀ i' p, i' < ws.length - i → Pt i' p = 0)
      ⟨none, _, _, rfl, hE, Kp.refl _ H, fun i' h1 h2 => ?_, fun _ _ _ => rfl⟩ (fun i σ H1 hi ⟨v, Pt, Rt, eσ, hE1, k1, hg, hz⟩ => ?_) (fun σ H1 ⟨v, Pt, Rt, eσ, hE1, k1, hg, hz⟩ => ?_)
    · have : i' = ws.length := by omega
      subst this
      exact goodAt_end GG ws
    · subst eσ
      have ei : ((ws.map vN).length : Int) - 1 + (i : Int) * -1 = ((ws.length - 1 - i : Nat) : Int) := by
        rw [hn]
        omega
      rw [ei]
      obtain ⟨pl, hpl⟩ : ∃ pl, ws.length - 1 - i = pl := ⟨_, rfl⟩
      rw [hpl]
      have hgr : ∀ i', pl < i' → i' ≤ ws.length → GoodAt g ws Pt Rt i' := fun i' h1 h2 => hg i' (by omega) h2
      have hps : SndP g ws Pt pl := fun p j _ hb => by
        rw [hz pl p (by omega)] at hb
        simp at hb
      have hpw : pl ≤ ws.length := by omega
      refine ⟨fun m σ H2 => ∃ P2, σ = [some (.ref e), some (vN pl)] ∧ m = Gs.lack g ws P2 pl ∧ EndsAt a H2 e g ws L P2 Rt ∧ Kp (L.S g ws) H H2 ∧ SndP g ws P2 pl ∧ ∀ a b, a ≠ pl → P2 a b = Pt a b,
        ⟨_, Pt, rfl, rfl, hE1, k1, hps, fun _ _ _ => rfl⟩, fun m σ H2 ⟨P2, eσ, em, hE2, k2, hs2, ho⟩ => ?_⟩
      subst eσ
      subst em
      have hr2 : ∀ i', pl < i' → i' ≤ ws.length → GoodR g ws Rt i' := fun i' h1 h2 => (hgr i' h1 h2).rest
      obtain ⟨t1, t2, t3⟩ := Gs.grow_turn GG hpw hr2 hs2
      refine ⟨.ref e, rfl, e, _, _, rfl, hE2.st.ins, rfl, vN pl, rfl, e, g, ws, L, P2, Rt, pl, rfl, hE2, GG, G, hpw, hw, hs2, hr2, fun H3 hE3 k3 => ?_⟩
      refine ⟨_, rfl, ifE (fun c => ?_) fun c => ?_⟩
      · refine ⟨fun σ H4 => σ = [some (.ref e), some (vN pl)] ∧ H4 = H3, fun σ H4 ⟨eσ, eH⟩ => ?_, rfl, rfl⟩
        subst eσ eH
        exact ⟨_, t2 c, _, rfl, rfl, hE3, k2.trans k3, t1.snd hs2, fun a b h => (t1.other a b h).trans (ho a b h)⟩
      · obtain ⟨e1, hc⟩ := t3 c
        rw [e1] at hE3
        obtain ⟨r1, r2⟩ := Gs.rests_good GG hpw hs2 hc hr2
        refine ⟨.ref e, rfl, e, _, _, rfl, hE3.st.ins, rfl, vN pl, rfl, e, g, ws, L, P2, Rt, pl, rfl, hE3, GG, G, hpw, hw, hs2, fun H4 hE4 k4 => ?_⟩
        refine ⟨_, _, _, rfl, hE4, (k2.trans k3).trans k4, fun i' h1 h2 => ?_, fun i' p h => ?_⟩
        · by_cases c : i' = pl
          · subst c
            exact ⟨hs2, hc, r2⟩
          · exact goodAt_cong (fun p => ho i' p c) (fun b d => r1 i' b d c) (hg i' (by omega) h2)
        · rw [ho i' p (by omega)]
          exact hz i' p (by omega)
    · subst eσ
      exact q H1 Pt Rt hE1 (fun i h => hg i (by omega) h) k1
end
end Gw
/-! # Walks: the tables are made -/
namespace Gw
open PySem PySem.Spec PyProof.Rows L2 Gr
open Nt (Sign Rule Grammar)
open Gs (Ps Rs)
/-- a list of rows that were just made -/
structure Rows1 (H0 H : Hp) (D : Addr) (n : Nat) (f : Nat → Addr) (xs : Nat → List V) : Prop where
  same : Same H0 H
  d0 : H0 D = none
  list : H D = some (.lst ((List.range n).map fun j => V.ref (f j)))
  row : ∀ j, j < n → H0 (f j) = none ∧ f j ≠ D ∧ H (f j) = some (.lst (xs j))
  inj : ∀ j j', j < n → j' < n → f j = f j' → j = j'
theorem range_ref {f f' : Nat → Addr} {n : Nat} {p : Addr} (h : ∀ j, j < n → f' j = f j) (hp : f' n = p) : (List.range (n + 1)).map (fun j => V.ref (f' j)) = (List.range n).map (fun j => V.ref (f j)) ++ [.ref p] := by
  rw [List.range_succ, List.map_append, List.map_cons, List.map_nil, hp]
  congr 1
  refine List.map_congr_left fun j hj => ?_
  rw [h j (List.mem_range.mp hj)]
theorem Rows1.start {H0 : Hp} {D : Addr} {f : Nat → Addr} {xs : Nat → List V} (h : H0 D = none) : Rows1 H0 (upd H0 D (.lst [])) D 0 f xs :=
  ⟨same_new h, h, upd_same, fun j hj => absurd hj (Nat.not_lt_zero j), fun j _ hj => absurd hj (Nat.not_lt_zero j)⟩
theorem Rows1.more {H0 H H1 : Hp} {D p : Addr} {n : Nat} {f : Nat → Addr} {xs : Nat → List V} (h : Rows1 H0 H D n f xs) (s : Same H H1) (hp : H1 p = none) :
    Rows1 H0 (upd (upd H1 p (.lst (xs n))) D (.lst ((List.range n).map (fun j => V.ref (f j)) ++ [.ref p]))) D (n + 1) (fun j => if j = n then p else f j) xs := by
  have hd := s _ _ h.list
  have pd : p ≠ D := Ne.symm (ne_of_none hd hp)
  have fp : ∀ j, j < n → f j ≠ p := fun j hj => ne_of_none (s _ _ (h.row j hj).2.2) hp
  refine ⟨same_upd_of ((h.same.trans s).trans (same_new hp)) h.d0, h.d0, ?_, fun j hj => ?_, fun j j' hj hj' e => ?_⟩
  · rw [upd_same, range_ref (f' := fun j => if j = n then p else f j) (fun j hj => if_neg (by omega)) (if_pos rfl)]
  · by_cases c : j = n
    · subst c
      rw [if_pos rfl]
      refine ⟨?_, pd, by rw [upd_ne pd, upd_same]⟩
      cases z : H0 p with
      | none => rfl
      | some o =>
        have := s _ _ (h.same _ _ z)
        rw [hp] at this
        cases this
    · rw [if_neg c]
      obtain ⟨r1, r2, r3⟩ := h.row j (by omega)
      exact ⟨r1, r2, by rw [upd_ne r2, upd_ne (fp j (by omega))]; exact s _ _ r3⟩
  · by_cases c : j = n
    · by_cases c' : j' = n
      · omega
      · rw [if_pos c, if_neg c'] at e
        exact absurd e.symm (fp j' (by omega))
    · by_cases c' : j' = n
      · rw [if_neg c, if_pos c'] at e
        exact absurd e (fp j (by omega))
      · rw [if_neg c, if_neg c'] at e
        exact h.inj j j' (by omega) (by omega) e
/-- a list of lists of rows -/
structure Rows2 (H0 H : Hp) (D : Addr) (n m : Nat) (ro : Nat → Addr) (rr : Nat → Nat → Addr) (xs : Nat → List V) : Prop where
  same : Same H0 H
  d0 : H0 D = none
  list : H D = some (.lst ((List.range n).map fun j => V.ref (ro j)))
  out : ∀ i, i < n → H0 (ro i) = none ∧ ro i ≠ D ∧ H (ro i) = some (.lst ((List.range m).map fun r => V.ref (rr i r)))
  row : ∀ i r, i < n → r < m → H0 (rr i r) = none ∧ rr i r ≠ D ∧ H (rr i r) = some (.lst (xs r))
  inj : ∀ i i' r r', i < n → i' < n → r < m → r' < m → rr i r = rr i' r' → i = i' ∧ r = r'
  apart : ∀ i i' r, i < n → i' < n → r < m → ro i ≠ rr i' r
theorem Rows2.start {H0 : Hp} {D : Addr} {m : Nat} {ro : Nat → Addr} {rr : Nat → Nat → Addr} {xs : Nat → List V} (h : H0 D = none) : Rows2 H0 (upd H0 D (.lst [])) D 0 m ro rr xs :=
  ⟨same_new h, h, upd_same, fun j hj => absurd hj (Nat.not_lt_zero j), fun j _ hj => absurd hj (Nat.not_lt_zero j), fun j _ _ _ hj => absurd hj (Nat.not_lt_zero j), fun j _ _ hj => absurd hj (Nat.not_lt_zero j)⟩
theorem none_of_same {H H' : Hp} {b : Addr} (s : Same H H') (h : H' b = none) : H b = none := by
  cases z : H b with
  | none => rfl
  | some o =>
    rw [s _ _ z] at h
    cases h
theorem Rows2.more {H0 H H1 : Hp} {D p : Addr} {n m : Nat} {ro : Nat → Addr} {rr : Nat → Nat → Addr} {f : Nat → Addr} {xs : Nat → List V} (h : Rows2 H0 H D n m ro rr xs) (k : Rows1 H H1 p m f xs) :
    Rows2 H0 (upd H1 D (.lst ((List.range n).map (fun j => V.ref (ro j)) ++ [.ref p]))) D (n + 1) m (fun j => if j = n then p else ro j) (fun j r => if j = n then f r else rr j r) xs := by
  have pd : p ≠ D := Ne.symm (ne_of_none h.list k.d0)
  have fd : ∀ r, r < m → f r ≠ D := fun r hr => Ne.symm (ne_of_none h.list (k.row r hr).1)
  refine ⟨same_upd_of (h.same.trans k.same) h.d0, h.d0, ?_, fun i hi => ?_, fun i r hi hr => ?_, fun i i' r r' hi hi' hr hr' e => ?_, fun i i' r hi hi' hr => ?_⟩
  · rw [upd_same, range_ref (f' := fun j => if j = n then p else ro j) (fun j hj => if_neg (by omega)) (if_pos rfl)]
  · by_cases c : i = n
    · subst c
      simp only [if_pos]
      exact ⟨none_of_same h.same k.d0, pd, by rw [upd_ne pd]; exact k.list⟩
    · simp only [if_neg c]
      obtain ⟨r1, r2, r3⟩ := h.out i (by omega)
      exact ⟨r1, r2, by rw [upd_ne r2]; exact k.same _ _ r3⟩
  · by_cases c : i = n
    · subst c
      simp only [if_pos]
      exact ⟨none_of_same h.same (k.row r hr).1, fd r hr, by rw [upd_ne (fd r hr)]; exact (k.row r hr).2.2⟩
    · simp only [if_neg c]
      obtain ⟨r1, r2, r3⟩ := h.row i r (by omega) hr
      exact ⟨r1, r2, by rw [upd_ne r2]; exact k.same _ _ r3⟩
  · by_cases c : i = n
    · by_cases c' : i' = n
      · rw [if_pos c, if_pos c'] at e
        exact ⟨by omega, k.inj r r' hr hr' e⟩
      · rw [if_pos c, if_neg c'] at e
        exact absurd e.symm (ne_of_none (h.row i' r' (by omega) hr').2.2 (k.row r hr).1)
    · by_cases c' : i' = n
      · rw [if_neg c, if_pos c'] at e
        exact absurd e (ne_of_none (h.row i r (by omega) hr).2.2 (k.row r' hr').1)
      · rw [if_neg c, if_neg c'] at e
        exact h.inj i i' r r' (by omega) (by omega) hr hr' e
  · by_cases c : i = n
    · by_cases c' : i' = n
      · rw [if_pos c, if_pos c']
        exact Ne.symm (k.row r hr).2.1
      · rw [if_pos c, if_neg c']
        exact Ne.symm (ne_of_none (h.row i' r (by omega) hr).2.2 k.d0)
    · by_cases c' : i' = n
      · rw [if_neg c, if_pos c']
        exact ne_of_none (h.out i (by omega)).2.2 (k.row r hr).1
      · rw [if_neg c, if_neg c']
        exact h.apart i i' r (by omega) (by omega) hr
theorem zeros (n : Nat) : (List.replicate n [V.int 0]).flatten = (List.range n).map fun _ => vN 0 := by
  induction n with
  | zero => rfl
  | succ n ih =>
    rw [List.replicate_succ', List.flatten_append, ih, List.range_succ, List.map_append]
    rfl
section
variable {P : Program} {w : World} {K : PySem.W.Frag} {mg : Str → Option Value} {base : Heap} {a : Ad}
/-! ### Ends.__init__ -/
def sp_Ends_init (P : Program) (w : World) (K : PySem.W.Frag) (a : Ad) : Sp := fun vs H Q _ => ∃ (e dx ga gl xa : Addr) (g : Grammar) (ws : List Nat), vs = [.ref e, .ref ga, .ref xa] ∧ H e = some (.ins a.c_Ends dx []) ∧ GramAt a H ga gl g ∧ NumsL H xa ws ∧ Lim g ∧ ws.length ≤ 24 ∧
  ∀ H' (L : EL), L.ga = ga → L.gl = gl → L.xa = xa → EndsAt a H' e g ws L (fun _ _ => 0) (fun _ _ _ => 0) → (∀ b, L.S g ws b → H b = none) → (∀ b o, b ≠ e → H b = some o → H' b = some o) → Q .non H'
theorem ok_Ends_init (F : Fn K "__init__" "Ends.__init__" s_Ends_init a.f_Ends_init) (T : Txt K mg a)  : Pr P w K mg base CX0 1 a.f_Ends_init ["self", "grammar", "text"] (sp_Ends_init P w K a) := by
  obtain ⟨fd, F⟩ := F
  refine ⟨fd, F.ok sc_Ends_init (fun vs H Q E h => ?_) (fun cdv A outer s H vs Q E hr h => ?_), F.binds (ps := ["self", "grammar", "text"]) fun _ _ _ _ _ _ us hl => match us, hl with | [_, _, _], _ => rfl, F.kp⟩
  · obtain ⟨e, dx, ga, gl, xa, g, ws, rfl, _⟩ := h
    rfl
  · obtain ⟨e, dx, ga, gl, xa, g, ws, rfl, he, hg, hx, G, hw, q⟩ := h
    refine ⟨_, (pss_cons (ps_fld (pv 0) (pv 1) rfl)
      (pss_cons (ps_fld (pv 0) (pv 2) rfl)
      (pss_cons (ps_fld (pv 0) (pe_lc (own := [("place", 3)]) rfl sc_Ends_init.nd (pi_range1 (by rfl) T.n_range (pa_cons (pe_op op_add (pe_callB call_len_seq (by rfl) T.n_len PySem.boot_len (pa_cons (pv 2) pa_nil)) pe_int) pa_nil)) (blkOk_by (N := ["self", "grammar", "text", "place", "part", "signs"]) (sc := defScope s_Ends_init) (by decide +kernel)) (fun _ _ _ _ _ => (pg_name (i := 3) sc_Ends_init.nd rfl (Or.inl rfl))) (fun _ _ _ _ _ => pts_nil) (fun _ _ _ _ _ => (pe_op op_rep (pe_lst (pa_cons pe_int pa_nil)) (pe_fldK (K := K) rfl (pv 1) rfl)))) rfl)
      (pss_one (ps_fld (pv 0) (pe_lc (own := [("place", 3)]) rfl sc_Ends_init.nd (pi_range1 (by rfl) T.n_range (pa_cons (pe_op op_add (pe_callB call_len_seq (by rfl) T.n_len PySem.boot_len (pa_cons (pv 2) pa_nil)) pe_int) pa_nil)) (blkOk_by (N := ["self", "grammar", "text", "place", "part", "signs"]) (sc := defScope s_Ends_init) (by decide +kernel)) (fun _ _ _ _ _ => (pg_name (i := 3) sc_Ends_init.nd rfl (Or.inl rfl))) (fun _ _ _ _ _ => pts_nil) (fun _ _ _ _ _ => (pe_lc (own := [("part", 4), ("signs", 5)]) rfl sc_Ends_init.nd (pi_listK (K := K) rfl (pe_fldK (K := K) rfl (pv 1) rfl)) (blkOk_by (N := ["self", "grammar", "text", "place", "part", "signs"]) (sc := { kind := .function, names := [(".0", .local), ("place", .local), ("grammar", .cell)], isGenerator := false, isCoroutine := false }) (by decide +kernel)) (fun _ _ _ _ _ => (pg_tupK (K := K) (n := 2) rfl (by rfl) (pgs_cons (pg_name (i := 4) sc_Ends_init.nd rfl (Or.inl rfl)) (pgs_cons (pg_name (i := 5) sc_Ends_init.nd rfl (Or.inl rfl)) pgs_nil)))) (fun _ _ _ _ _ => pts_nil) (fun _ _ _ _ _ => (pe_op op_rep (pe_lst (pa_cons pe_int pa_nil)) (pe_callB (call_len_seqK (K := K) rfl) (by rfl) T.n_len PySem.boot_len (pa_cons (pv 5) pa_nil))))))) rfl))))), ?_⟩
    have hn : (ws.map vN).length = ws.length := List.length_map ..
    obtain ⟨⟨dxg, hga⟩, ps, hl, hp, hk⟩ := hg
    have hlen : ps.length = g.rules.length := by
      have := congrArg List.length hp
      simpa using this
    have nga : ga ≠ e := fun z => by
      rw [z, he] at hga
      injection hga with hga
      injection hga with _ _ h3
      cases h3
    have nxa : xa ≠ e := fun z => by
      unfold NumsL at hx
      rw [z, he] at hx
      cases hx
    have ngl : gl ≠ e := fun z => by
      rw [z, he] at hl
      cases hl
    refine ⟨_, rfl, _, rfl, e, _, dx, [], rfl, he, T.c_Ends, T.na_Ends_grammar, (by decide), ?_⟩
    refine ⟨_, rfl, _, rfl, e, _, dx, _, rfl, upd_same, T.c_Ends, T.na_Ends_text, (by show 1 < 1000; decide), ?_⟩
    rw [upd_upd]
    obtain ⟨f0, hf0⟩ : ∃ f0, f0 = putF "text" (V.ref xa) (putF "grammar" (V.ref ga) []) := ⟨_, rfl⟩
    rw [← hf0]
    obtain ⟨H2, eH2⟩ : ∃ H2, H2 = upd H e (.ins a.c_Ends dx f0) := ⟨_, rfl⟩
    rw [← eH2]
    have k2 : ∀ b o, b ≠ e → H b = some o → H2 b = some o := fun b o n h => by
      rw [eH2, upd_ne n]
      exact h
    have he2 : H2 e = some (.ins a.c_Ends dx f0) := by rw [eH2, upd_same]
    have hx2 := k2 _ _ nxa hx
    have hga2 := k2 _ _ nga hga
    have hl2 := k2 _ _ ngl hl
    refine ⟨.ref xa, rfl, xa, _, rfl, .inl (sqL hx2), _, 1, rfl, rfl, _, rfl, (by rw [hn]; omega), (by rw [hn]; omega), fun D1 hD1 => ?_⟩
    rw [show (((ws.map vN).length : Int) + 1).toNat = ws.length + 1 by rw [hn]; omega]
    have hpar := G.parts
    refine lc_range (fun i H' => ∃ f, Rows1 H2 H' D1 i f fun _ => (List.range g.parts).map fun _ => vN 0) ⟨fun _ => 0, Rows1.start hD1⟩ (fun i H' hi ⟨f, hr⟩ => ?_) fun H3 ⟨f1, hr1⟩ => ?_
    · refine ⟨rfl, ?_⟩
      refine turn_yes ?_
      refine ⟨line_le (by show 1 ≤ _; decide), ?_⟩
      intro p1 hp1
      refine ⟨.ref ga, rfl, ga, _, _, _, vN g.parts, rfl, same_new hp1 _ _ (hr.same _ _ hga2), T.c_Grammar, T.na_Grammar_parts, rfl, p1, (g.parts : Int), [.int 0], rfl, rfl, upd_same, by omega, by omega, ?_, fun p2 hp2 => ?_⟩
      · exact line_le (by rw [Int.toNat_natCast]; show 1 * g.parts ≤ _; omega)
      · rw [Int.toNat_natCast, zeros]
        refine ⟨_, same_new hp2 _ _ (same_new hp1 _ _ hr.list), line_lt (by rw [List.length_map, List.length_range]; omega), _, hr.more (same_new hp1) hp2⟩
    · have he3 := hr1.same _ _ he2
      refine ⟨_, rfl, e, _, dx, f0, rfl, he3, T.c_Ends, T.na_Ends_of_parts, (by rw [hf0]; show 2 < 1000; decide), ?_⟩
      obtain ⟨f4, hf4⟩ : ∃ f4, f4 = putF "of_parts" (V.ref D1) f0 := ⟨_, rfl⟩
      rw [← hf4]
      obtain ⟨H4, eH4⟩ : ∃ H4, H4 = upd H3 e (.ins a.c_Ends dx f4) := ⟨_, rfl⟩
      rw [← eH4]
      have k4 : ∀ b o, b ≠ e → H3 b = some o → H4 b = some o := fun b o n h => by
        rw [eH4, upd_ne n]
        exact h
      have he4 : H4 e = some (.ins a.c_Ends dx f4) := by rw [eH4, upd_same]
      have hx4 := k4 _ _ nxa (hr1.same _ _ hx2)
      have hga4 := k4 _ _ nga (hr1.same _ _ hga2)
      have hl4 := k4 _ _ ngl (hr1.same _ _ hl2)
      have hk4 : ∀ p ∈ ps, PairAt H4 p.1 p.2 := fun p hpm => KeyAt.mono (hk p hpm) fun b xs h => k4 _ _ (fun z => by rw [z, he] at h; cases h) (hr1.same _ _ (k2 _ _ (fun z => by rw [z, he] at h; cases h) h))
      refine ⟨.ref xa, rfl, xa, _, rfl, .inl (sqL hx4), _, 1, rfl, rfl, _, rfl, (by rw [hn]; omega), (by rw [hn]; omega), fun D2 hD2 => ?_⟩
      rw [show (((ws.map vN).length : Int) + 1).toNat = ws.length + 1 by rw [hn]; omega]
      have hG := G.rules
      refine lc_range (fun i H' => ∃ ro rr, Rows2 H4 H' D2 i g.rules.length ro rr fun r => (List.range (g.right r).length).map fun _ => vN 0) ⟨fun _ => 0, fun _ _ => 0, Rows2.start hD2⟩ (fun i H' hi ⟨ro, rr, hr⟩ => ?_) fun H5 ⟨ro, rr, hr⟩ => ?_
      · refine ⟨rfl, ?_⟩
        refine turn_yes ?_
        refine ⟨.ref ga, rfl, ga, _, _, _, .ref gl, rfl, hr.same _ _ hga4, T.c_Grammar, T.na_Grammar_rules, rfl, gl, rfl, ⟨_, sqL (hr.same _ _ hl4)⟩, fun D3 hD3 => ?_⟩
        refine lc_list (xs := ps.map fun p => V.ref p.1) (fun j H'' => ∃ f, Rows1 H' H'' D3 j f fun r => (List.range (g.right r).length).map fun _ => vN 0) ⟨fun _ => 0, Rows1.start hD3⟩ (fun j H'' _ ⟨f, z⟩ => sqL (z.same _ _ (hr.same _ _ hl4))) (fun j v H'' hv ⟨f, z⟩ => ?_) (fun H'' ⟨f, z⟩ => ?_)
        · obtain ⟨⟨t, kx⟩, hxj, rfl⟩ := get_map hv
          have hj : j < g.rules.length := by rw [← hlen]; exact (List.getElem?_eq_some_iff.mp hxj).1
          obtain ⟨x, hxr⟩ : ∃ x, g.rules[j]? = some x := ⟨_, List.getElem?_eq_getElem hj⟩
          have hkx : kx = ruleKey x := by
            have e1 : (ps.map (·.2))[j]? = some kx := by rw [List.getElem?_map, hxj]; rfl
            rw [hp, List.getElem?_map, hxr] at e1
            exact (Option.some.inj e1).symm
          subst hkx
          obtain ⟨u, ht, hu⟩ := hk4 _ (List.mem_of_getElem? hxj)
          have s5 := hr.same.trans z.same
          have ht5 := s5 _ _ ht
          have hu5 := s5 _ _ hu
          have hul : (((ruleKey x).2).map vN).length = (g.right j).length := by
            rw [Gs.right_of hxr]
            show ((x.right.map Sign.number).map vN).length = _
            rw [List.length_map, List.length_map]
          have h8 := G.long x (List.mem_of_getElem? hxr)
          rw [← Gs.right_of hxr] at h8
          refine ⟨t, _, rfl, sqT ht5, rfl, vN x.left, _, rfl, .ref u, _, rfl, rfl, rfl, ?_⟩
          refine turn_yes ?_
          refine ⟨line_le (by show 1 ≤ _; decide), ?_⟩
          intro p1 hp1
          refine ⟨.ref u, rfl, u, _, rfl, .inr (sqT (same_new hp1 _ _ hu5)), p1, _, [.int 0], rfl, rfl, upd_same, (by omega), (by rw [hul]; omega), line_le (by rw [hul, Int.toNat_natCast]; show 1 * _ ≤ _; omega), fun p2 hp2 => ?_⟩
          rw [hul, Int.toNat_natCast, zeros]
          exact ⟨_, same_new hp2 _ _ (same_new hp1 _ _ z.list), line_lt (by rw [List.length_map, List.length_range]; omega), _, z.more (same_new hp1) hp2⟩
        · rw [List.length_map, hlen] at z
          exact ⟨_, z.same _ _ hr.list, line_lt (by rw [List.length_map, List.length_range]; omega), _, _, hr.more z⟩
      · have he5 := hr.same _ _ he4
        refine ⟨_, rfl, e, _, dx, f4, rfl, he5, T.c_Ends, T.na_Ends_of_rests, (by rw [hf4, hf0]; show 3 < 1000; decide), ?_⟩
        have k6 : ∀ b o, b ≠ e → H5 b = some o → upd H5 e (.ins a.c_Ends dx (putF "of_rests" (V.ref D2) f4)) b = some o := fun b o n h => by
          rw [upd_ne n]
          exact h
        have nn : ∀ b, H4 b = none → b ≠ e := fun b h z => by rw [z, he4] at h; cases h
        have n2 : ∀ b, H2 b = none → b ≠ e := fun b h z => by rw [z, he2] at h; cases h
        have h20 : ∀ b, H2 b = none → H b = none := fun b h => by
          have z := n2 b h
          rw [eH2, upd_ne z] at h
          exact h
        have h40 : ∀ b, H4 b = none → H2 b = none := fun b h => by
          have z := nn b h
          rw [eH4, upd_ne z] at h
          exact none_of_same hr1.same h
        have d1 : D1 ≠ e := n2 _ hD1
        have in4 : ∀ b o, b ≠ e → H3 b = some o → upd H5 e (.ins a.c_Ends dx (putF "of_rests" (V.ref D2) f4)) b = some o := fun b o n h => k6 b o n (hr.same _ _ (k4 b o n h))
        have all : ∀ b o, b ≠ e → H b = some o → upd H5 e (.ins a.c_Ends dx (putF "of_rests" (V.ref D2) f4)) b = some o := fun b o n h => in4 b o n (hr1.same _ _ (k2 b o n h))
        have keys : ∀ p ∈ ps, PairAt (upd H5 e (.ins a.c_Ends dx (putF "of_rests" (V.ref D2) f4))) p.1 p.2 := fun p hpm => KeyAt.mono (hk p hpm) fun b xs h => all _ _ (fun z => by rw [z, he] at h; cases h) h
        have fresh : ∀ b, (EL.mk dx ga gl xa D1 D2 f1 ro rr).S g ws b → H2 b = none := fun b hb => by
          rcases hb with ⟨i, hi, rfl⟩ | ⟨i, r, hi, hrr, rfl⟩
          · exact (hr1.row i (by omega)).1
          · exact h40 _ (hr.row i r (by omega) hrr).1
        have notIn : ∀ b o, H2 b = some o → ¬ (EL.mk dx ga gl xa D1 D2 f1 ro rr).S g ws b := fun b o h z => by
          rw [fresh b z] at h
          cases h
        refine q _ ⟨dx, ga, gl, xa, D1, D2, f1, ro, rr⟩ rfl rfl rfl ⟨⟨?_, ⟨⟨dxg, all _ _ nga hga⟩, ps, all _ _ ngl hl, hp, keys⟩, all _ _ nxa hx, in4 _ _ d1 hr1.list, k6 _ _ (nn _ hD2) hr.list, fun i hi => k6 _ _ (nn _ (hr.out i (by omega)).1) (hr.out i (by omega)).2.2, notIn _ _ hx2, notIn _ _ hl2, ?_, ?_, fun i hi => ?_⟩,
          ⟨fun i hi => in4 _ _ (n2 _ (hr1.row i (by omega)).1) (hr1.row i (by omega)).2.2, fun i r hi hrr => k6 _ _ (nn _ (hr.row i r (by omega) hrr).1) (hr.row i r (by omega) hrr).2.2⟩,
          ⟨fun i i' hi hi' => hr1.inj i i' (by omega) (by omega), fun i i' r r' hi hi' => hr.inj i i' r r' (by omega) (by omega), fun i i' r hi hi' hrr z => ?_⟩⟩ (fun b hb => h20 b (fresh b hb)) all
        · rw [upd_same, hf4, hf0]
          rfl
        · rintro (⟨i, hi, z⟩ | ⟨i, r, hi, hrr, z⟩)
          · exact (hr1.row i (by omega)).2.1 z.symm
          · have z : D1 = rr i r := z
            have := (hr.row i r (by omega) hrr).1
            rw [← z] at this
            rw [k4 _ _ d1 hr1.list] at this
            cases this
        · rintro (⟨i, hi, z⟩ | ⟨i, r, hi, hrr, z⟩)
          · have z : D2 = f1 i := z
            have y := k4 _ _ (n2 _ (hr1.row i (by omega)).1) (hr1.row i (by omega)).2.2
            rw [← z] at y
            rw [show H4 D2 = none from hD2] at y
            cases y
          · exact (hr.row i r (by omega) hrr).2.1 z.symm
        · rintro (⟨i', hi', z⟩ | ⟨i', r, hi', hrr, z⟩)
          · have z : ro i = f1 i' := z
            have y := k4 _ _ (n2 _ (hr1.row i' (by omega)).1) (hr1.row i' (by omega)).2.2
            rw [← z] at y
            rw [show H4 (ro i) = none from (hr.out i (by omega)).1] at y
            cases y
          · exact hr.apart i i' r (by omega) (by omega) hrr z
        · have z : f1 i = rr i' r := z
          have y := k4 _ _ (n2 _ (hr1.row i (by omega)).1) (hr1.row i (by omega)).2.2
          rw [z, (hr.row i' r (by omega) hrr).1] at y
          cases y
end
end Gw
/-! # Walks: the first rule, the cuts -/
namespace Gw
open PySem PySem.Spec PyProof.Rows L2 Gr
open Nt (Sign Rule Grammar)
open Gs (Ps Rs ofSign behindF Good SndP CmpP GoodR GoodAt GoodE Ds FR Cut CutsL)
section
variable {P : Program} {w : World} {K : PySem.W.Frag} {mg : Str → Option Value} {base : Heap} {a : Ad}
/-- a loop's item: the j-th rule -/
theorem rule_item {H : Hp} {g : Grammar} {ps : List (Addr × NKey)} (hp : ps.map (·.2) = g.rules.map ruleKey) (hk : ∀ p ∈ ps, PairAt H p.1 p.2) {j : Nat} {v : V} (hv : (ps.map fun p => V.ref p.1)[j]? = some v) :
    ∃ t u x, v = .ref t ∧ j < g.rules.length ∧ g.rules[j]? = some x ∧ H t = some (.tup [vN x.left, .ref u]) ∧ H u = some (.tup ((x.right.map Sign.number).map vN)) := by
  have hlen : ps.length = g.rules.length := by
    have := congrArg List.length hp
    simpa using this
  obtain ⟨⟨t, kx⟩, hx, rfl⟩ := get_map hv
  have hj : j < g.rules.length := by rw [← hlen]; exact (List.getElem?_eq_some_iff.mp hx).1
  obtain ⟨x, hxr⟩ : ∃ x, g.rules[j]? = some x := ⟨_, List.getElem?_eq_getElem hj⟩
  have hkx : kx = ruleKey x := by
    have e1 : (ps.map (·.2))[j]? = some kx := by rw [List.getElem?_map, hx]; rfl
    rw [hp, List.getElem?_map, hxr] at e1
    exact (Option.some.inj e1).symm
  subst hkx
  obtain ⟨u, ht, hu⟩ := hk _ (List.mem_of_getElem? hx)
  exact ⟨t, u, x, rfl, hj, hxr, ht, hu⟩
theorem get_mapN {α β : Type} {f : α → β} {xs : List α} {j : Nat} {v : β} (h : (xs.map f)[j]? = some v) : ∃ x, xs[j]? = some x ∧ v = f x := by
  rw [List.getElem?_map] at h
  cases e : xs[j]? with
  | none => rw [e] at h; cases h
  | some x => rw [e] at h; exact ⟨x, rfl, (Option.some.inj h).symm⟩
/-! ### first_rule -/
def sp_first_rule (P : Program) (w : World) (K : PySem.W.Frag) (a : Ad) : Sp := fun vs H Q _ => ∃ (e : Addr) (g : Grammar) (ws : List Nat) (L : EL) (Pt : Ps) (Rt : Rs) (p i j r : Nat) (x : Rule), vs = [.ref e, vN p, vN i, vN j] ∧ EndsAt a H e g ws L Pt Rt ∧ GoodE g ws Pt Rt ∧ Good g ∧ Lim g ∧ ws.length ≤ 24 ∧
  i ≤ ws.length ∧ FR g ws p i j r x ∧ ∀ H', Same H H' → Q (vN r) H'
theorem ok_first_rule (F : Fn K "first_rule" "first_rule" s_first_rule a.f_first_rule) (T : Txt K mg a) (h_has : Pr P w K mg base CX0 1 a.f_has ["some", "place"] (sp_has P w K a)) (h_Ends_behind : Pr P w K mg base CX0 3 a.f_Ends_behind ["self", "rule", "at", "place"] (sp_Ends_behind P w K a)) : Pr P w K mg base CX0 4 a.f_first_rule ["ends", "part", "begin", "end"] (sp_first_rule P w K a) := by
  obtain ⟨fd, F⟩ := F
  obtain ⟨fd_has, G_has, B_has, K_has⟩ := h_has
  obtain ⟨fd_Ends_behind, G_Ends_behind, B_Ends_behind, K_Ends_behind⟩ := h_Ends_behind
  refine ⟨fd, F.ok sc_first_rule (fun vs H Q E h => ?_) (fun cdv A outer s H vs Q E hr h => ?_), F.binds (ps := ["ends", "part", "begin", "end"]) fun _ _ _ _ _ _ us hl => match us, hl with | [_, _, _, _], _ => rfl, F.kp⟩
  · obtain ⟨e, g, ws, L, Pt, Rt, p, i, j, r, x, rfl, _⟩ := h
    rfl
  · obtain ⟨e, g, ws, L, Pt, Rt, p, i, j, r, x, rfl, hE, hG, GG, G, hw, hi, fr, q⟩ := h
    refine ⟨_, (pss_cons (ps_for PassesOwn.never rfl (pi_enum (by rfl) T.n_enumerate (pa_cons (pe_fld (pe_fld (pv 0) rfl) rfl) pa_nil)) (pg_tup (by rfl) (pgs_cons (pg_name (i := 4) sc_first_rule.nd rfl (Or.inl rfl)) (pgs_cons (pg_tup (by rfl) (pgs_cons (pg_name (i := 5) sc_first_rule.nd rfl (Or.inl rfl)) (pgs_cons (pg_name (i := 6) sc_first_rule.nd rfl (Or.inl rfl)) pgs_nil))) pgs_nil))) (pss_one (ps_if (PW.pt (pw_and (pt_cmpR op_eq (pv 5) (pv 1) (nomark _)) (pw_and1 (pt_val (pe_call G_has (hr.mono (by decide)) (by rfl) T.g_has K_has B_has .nil pass0 (pa_cons (pe_meth (pv 0) T.c_Ends T.m_Ends_behind G_Ends_behind (hr.mono (by decide)) B_Ends_behind .nil pass0 (pa_cons (pv 4) (pa_cons pe_int (pa_cons (pv 2) pa_nil)))) (pa_cons (pv 3) pa_nil))))))) (pss_one (ps_ret (pv 4))) pss_nil)))
      (pss_one (ps_ret pe_non))), ?_⟩
    obtain ⟨dxg, hg⟩ := hE.st.gram.1
    obtain ⟨ps, hl, hp, hk⟩ := hE.st.gram.2
    have hlen : ps.length = g.rules.length := by
      have := congrArg List.length hp
      simpa using this
    have hL : (ps.map fun p => V.ref p.1).length = g.rules.length := by rw [List.length_map, hlen]
    have hrl : r < g.rules.length := (List.getElem?_eq_some_iff.mp fr.at_).1
    refine ⟨.ref e, rfl, e, _, _, _, .ref L.ga, rfl, hE.st.ins, T.c_Ends, T.na_Ends_grammar, rfl, L.ga, _, _, _, .ref L.gl, rfl, hg, T.c_Grammar, T.na_Grammar_rules, rfl, L.gl, _, rfl, sqL hl,
      for_enum (xs := ps.map fun p => V.ref p.1) (fun n σ H' => ∃ v4 v5 v6, σ = [some (.ref e), some (vN p), some (vN i), some (vN j), v4, v5, v6] ∧ Same H H' ∧ n ≤ r)
        ⟨none, none, none, rfl, Same.refl H, Nat.zero_le _⟩ (fun n σ H' _ ⟨_, _, _, _, s1, _⟩ => sqL (s1 _ _ hl)) (fun n v U σ H1 hv ⟨v4, v5, v6, eσ, s1, hn⟩ hU => ?_) (fun σ H1 ⟨v4, v5, v6, eσ, s1, hn⟩ => ?_)⟩
    · subst eσ
      obtain ⟨t, u, y, rfl, hj, hy, ht, hu⟩ := rule_item (H := H) hp hk hv
      have s2 : Same H (upd H1 U (.tup [.int ((n : Nat) : Int), V.ref t])) := s1.trans (same_new hU)
      have hE1 := hE.mono s2
      refine ⟨U, _, rfl, sqT upd_same, rfl, _, _, rfl, .ref t, _, rfl, ⟨t, _, rfl, sqT (s2 _ _ ht), rfl, vN y.left, _, rfl, .ref u, _, rfl, rfl, rfl, ?_⟩⟩
      have hpos : 0 < y.right.length := List.length_pos_iff.mpr (GG.ne n y hy)
      have hbg := Gs.behind_good (P := Pt) (R := Rt) (k := 0) GG hy hpos hi (hG i hi).snd (hG i hi).cmp (fun i' _ h2 => (hG i' h2).rest) j
      rw [List.drop_zero] at hbg
      have next : ∀ H3, Same H H3 → n ≠ r → ∃ v4 v5 v6, [some (V.ref e), some (vN p), some (vN i), some (vN j), some (.int (n : Int)), some (vN y.left), some (.ref u)] = [some (V.ref e), some (vN p), some (vN i), some (vN j), v4, v5, v6] ∧ Same H H3 ∧ n + 1 ≤ r :=
        fun H3 s3 c => ⟨_, _, _, rfl, s3, by omega⟩
      refine ⟨vN y.left, rfl, vN p, rfl, rfl, _, rfl, ite2 (fun c => ?_) (fun c => ?_)⟩
      · have el : y.left = p := by
          have := V.int.inj (of_decide_eq_true c)
          omega
        refine ⟨.ref e, rfl, e, _, _, rfl, hE1.st.ins, rfl, .int (n : Int), rfl, vN i, rfl, e, g, ws, L, Pt, Rt, n, 0, i, y, rfl, hE1, GG, G, hy, hpos, hi, hw, (hG i hi).snd, fun H3 s3 => ?_⟩
        refine ⟨vN j, rfl, _, j, rfl, _, rfl, ifE (fun c2 => ?_) fun c2 => ?_⟩
        · have er : n = r := by
            rcases Nat.lt_or_ge n r with z | z
            · exact absurd (hbg.mp c2) (fr.first n y z hy el)
            · omega
          subst er
          exact ⟨_, rfl, q H3 (s2.trans s3)⟩
        · refine next H3 (s2.trans s3) fun er => ?_
          subst er
          have : x = y := Option.some.inj (fr.at_.symm.trans hy)
          subst this
          rw [hbg.mpr fr.ds] at c2
          cases c2
      · refine next _ s2 fun er => c (decide_eq_true ?_)
        subst er
        have : x = y := Option.some.inj (fr.at_.symm.trans hy)
        subst this
        rw [fr.left]
    · rw [hL] at hn
      omega
/-! ### cuts -/
def CutAt (H : Hp) (t : Addr) (c : Nat × Nat × Nat) : Prop := H t = some (.tup [vN c.1, vN c.2.1, vN c.2.2])
theorem first_of_sorted : ∀ {l : List Nat} {m : Nat}, l.Pairwise (· < ·) → m ∈ l → (∀ e ∈ l, m ≤ e) → l[0]? = some m
  | [], m, _, h, _ => by cases h
  | b :: l, m, hs, h, hle => by
    rcases List.mem_cons.mp h with e | e
    · rw [e]
      rfl
    · have h1 := (List.pairwise_cons.mp hs).1 m e
      have h2 := hle b List.mem_cons_self
      omega
theorem places_sorted (n : Nat) : (Gs.places n).Pairwise (· < ·) := List.Pairwise.filter _ List.pairwise_lt_range
theorem places_len {n : Nat} (hn : n < 2 ^ 64) : (Gs.places n).length ≤ 64 := by
  refine Nat.le_trans (List.length_filter_le _ _) ?_
  rw [List.length_range]
  unfold Gs.bl
  split
  · omega
  · rename_i h0
    have := (Nat.log2_lt h0).mpr hn
    omega
theorem first_cut {g : Grammar} {ws : List Nat} {Pt : Ps} {Rt : Rs} (GG : Good g) (hG : GoodE g ws Pt Rt) {r k i m j : Nat} {x : Rule} {s : Sign} {ss : List Sign} (hx : g.rules[r]? = some x) (hd : x.right.drop k = s :: ss) (hss : ss ≠ []) (hi : i ≤ ws.length) (c : Cut g ws s ss i m j) :
    ((Gs.places (ofSign ws Pt s i)).filter fun pl => (Rt pl r (k + 1)).testBit j)[0]? = some m := by
  have hd2 : x.right.drop (k + 1) = ss := by
    rw [← List.drop_drop, hd]
    rfl
  have hk : k + 1 < x.right.length := by
    rcases Nat.lt_or_ge (k + 1) x.right.length with z | z
    · exact z
    · rw [List.drop_eq_nil_of_le z] at hd2
      exact absurd hd2.symm hss
  have hm : s ∈ x.right := List.mem_of_mem_drop (i := k) (by rw [hd]; exact List.mem_cons_self)
  have kn : g.knows s = true := GG.kn x (List.mem_of_getElem? hx) s hm
  have hr : ∀ e, e ≤ ws.length → ((Rt e r (k + 1)).testBit j = true ↔ Ds g ws ss e j) := fun e he => by
    rw [(hG e he).rest r x (k + 1) j hx (by omega) hk, hd2]
  refine first_of_sorted ((places_sorted _).filter _) (List.mem_filter.mpr ⟨Gs.mem_places.mpr (Gs.ofSign_cmp (hG i hi).cmp kn c.one), (hr m (c.one.bound hi)).mpr c.rest⟩) fun e he => ?_
  obtain ⟨h1, h2⟩ := List.mem_filter.mp he
  have d1 := Gs.ofSign_snd (hG i hi).snd kn (Gs.mem_places.mp h1)
  have d2 := (hr e (d1.bound hi)).mp h2
  rcases Nat.lt_or_ge e m with z | z
  · exact absurd d2 (c.first e z d1)
  · exact z
def sp_cuts (P : Program) (w : World) (K : PySem.W.Frag) (a : Ad) : Sp := fun vs H Q _ => ∃ (e : Addr) (g : Grammar) (ws : List Nat) (L : EL) (Pt : Ps) (Rt : Rs) (r i j : Nat) (x : Rule) (cs : List (Nat × Nat × Nat)), vs = [.ref e, vN r, vN i, vN j] ∧ EndsAt a H e g ws L Pt Rt ∧ GoodE g ws Pt Rt ∧ Good g ∧ Lim g ∧ ws.length ≤ 24 ∧
  i ≤ ws.length ∧ g.rules[r]? = some x ∧ CutsL g ws x.right i j cs ∧ ∀ H' p, Same H H' → H p = none → LA CutAt H' p cs → Q (.ref p) H'
theorem ok_cuts (F : Fn K "cuts" "cuts" s_cuts a.f_cuts) (T : Txt K mg a) (h_places_in : Pr P w K mg base CX0 1 a.f_places_in ["some"] (sp_places_in P w K a)) (h_Ends_of_sign : Pr P w K mg base CX0 2 a.f_Ends_of_sign ["self", "sign", "place"] (sp_Ends_of_sign P w K a)) (h_has : Pr P w K mg base CX0 1 a.f_has ["some", "place"] (sp_has P w K a)) : Pr P w K mg base CX0 3 a.f_cuts ["ends", "rule", "begin", "end"] (sp_cuts P w K a) := by
  obtain ⟨fd, F⟩ := F
  obtain ⟨fd_places_in, G_places_in, B_places_in, K_places_in⟩ := h_places_in
  obtain ⟨fd_Ends_of_sign, G_Ends_of_sign, B_Ends_of_sign, K_Ends_of_sign⟩ := h_Ends_of_sign
  obtain ⟨fd_has, G_has, B_has, K_has⟩ := h_has
  refine ⟨fd, F.ok sc_cuts (fun vs H Q E h => ?_) (fun cdv A outer s H vs Q E hr h => ?_), F.binds (ps := ["ends", "rule", "begin", "end"]) fun _ _ _ _ _ _ us hl => match us, hl with | [_, _, _, _], _ => rfl, F.kp⟩
  · obtain ⟨e, g, ws, L, Pt, Rt, r, i, j, x, cs, rfl, _⟩ := h
    rfl
  · obtain ⟨e, g, ws, L, Pt, Rt, r, i, j, x, cs, rfl, hE, hG, GG, G, hw, hi, hx, hcs, q⟩ := h
    refine ⟨_, (pss_cons (ps_set (i := 4) sc_cuts.nd rfl (Or.inl rfl) (pe_ix ix_tup (pe_ix ix_list (pe_fld (pe_fld (pv 0) rfl) rfl) (pv 1) (fun _ _ => rfl)) pe_int (fun _ _ => rfl)))
      (pss_cons (ps_set (i := 5) sc_cuts.nd rfl (Or.inl rfl) (pe_lst pa_nil))
      (pss_cons (ps_set (i := 6) sc_cuts.nd rfl (Or.inl rfl) (pv 2))
      (pss_cons (ps_for PassesOwn.never rfl (pi_enumT (by rfl) T.n_enumerate (pa_cons (pv 4) pa_nil)) (pg_tup (by rfl) (pgs_cons (pg_name (i := 7) sc_cuts.nd rfl (Or.inr rfl)) (pgs_cons (pg_name (i := 8) sc_cuts.nd rfl (Or.inl rfl)) pgs_nil))) (pss_cons (ps_set (i := 9) sc_cuts.nd rfl (Or.inl rfl) (pv 3))
      (pss_cons (ps_if (pt_cmpR op_lt (pe_op op_add (pv 7) pe_int) (pe_callB call_len_seq (by rfl) T.n_len PySem.boot_len (pa_cons (pv 4) pa_nil)) (nomark _)) (pss_cons (ps_set (i := 10) sc_cuts.nd rfl (Or.inl rfl) (pe_call G_places_in (hr.mono (by decide)) (by rfl) T.g_places_in K_places_in B_places_in .nil pass0 (pa_cons (pe_meth (pv 0) T.c_Ends T.m_Ends_of_sign G_Ends_of_sign (hr.mono (by decide)) B_Ends_of_sign .nil pass0 (pa_cons (pv 8) (pa_cons (pv 6) pa_nil))) pa_nil)))
      (pss_one (ps_set (i := 9) sc_cuts.nd rfl (Or.inl rfl) (pe_ix ix_list (pe_lc (own := [("place", 11)]) rfl sc_cuts.nd (pi_list (pv 10)) (blkOk_by (N := ["ends", "rule", "begin", "end", "signs", "found", "here", "at", "sign", "there", "some", "place"]) (sc := defScope s_cuts) (by decide +kernel)) (fun _ _ _ _ _ => (pg_name (i := 11) sc_cuts.nd rfl (Or.inl rfl))) (fun _ _ _ _ _ => (pts_one (pt_val (pe_call G_has (hr.mono (by decide)) (by rfl) T.g_has K_has B_has .nil pass0 (pa_cons (pe_ix (ix_listK (K := K) rfl) (pe_ix (ix_listK (K := K) rfl) (pe_ix (ix_listK (K := K) rfl) (pe_fldK (K := K) rfl (pv 0) rfl) (pv 11) (fun _ _ => rfl)) (pv 1) (fun _ _ => rfl)) (pe_op op_add (pv 7) pe_int) (fun _ _ => rfl)) (pa_cons (pv 3) pa_nil)))))) (fun _ _ _ _ _ => (pv 11))) pe_int (fun _ _ => rfl))))) pss_nil)
      (pss_cons (ps_expr (pe_bm PySem.F.plainAttrs_list PySem.F.slot_list_append PySem.F.type_list_append mt_append (pv 5) (pa_cons (pe_tup (pa_cons (pv 8) (pa_cons (pv 6) (pa_cons (pv 9) pa_nil)))) pa_nil)))
      (pss_one (ps_set (i := 6) sc_cuts.nd rfl (Or.inl rfl) (pv 9)))))))
      (pss_one (ps_ret (pv 5))))))), ?_⟩
    obtain ⟨ps, t, u, hl, hlen, hpt, ht, hu⟩ := hE.st.gram.rule hx
    obtain ⟨dxg, hg⟩ := hE.st.gram.1
    have hrl : r < g.rules.length := (List.getElem?_eq_some_iff.mp hx).1
    have hlr : ((x.right.map Sign.number).map vN).length = x.right.length := by rw [List.length_map, List.length_map]
    have h8 := G.long x (List.mem_of_getElem? hx)
    have hcl := Gs.cuts_len hcs
    refine ⟨.ref e, rfl, e, _, _, _, .ref L.ga, rfl, hE.st.ins, T.c_Ends, T.na_Ends_grammar, rfl, L.ga, _, _, _, .ref L.gl, rfl, hg, T.c_Grammar, T.na_Grammar_rules, rfl, vN r, rfl, L.gl, _, (r : Int), .ref t, rfl, rfl, sqL hl, atI_nat hpt, t, _, 1, .ref u, rfl, rfl, sqT ht, atI_nat (j := 1) rfl, ?_⟩
    -- found = []; here = begin
    refine ⟨line_le (by show 0 ≤ _; decide), ?_⟩
    intro F hF
    have s0 : Same H (upd H F (.lst [])) := same_new hF
    refine ⟨vN i, rfl, .ref u, rfl, u, _, rfl, sqT (s0 _ _ hu), ?_⟩
    refine for_enumT (xs := (x.right.map Sign.number).map vN) (fun n σ H' => ∃ v7 v8 v9 v10 v11 hm cs0 cs1, σ = [some (.ref e), some (vN r), some (vN i), some (vN j), some (.ref u), some (.ref F), some (vN hm), v7, v8, v9, v10, v11] ∧
        Same H H' ∧ LA CutAt H' F cs0 ∧ cs0 ++ cs1 = cs ∧ cs0.length = n ∧ hm ≤ ws.length ∧ CutsL g ws (x.right.drop n) hm j cs1)
      ⟨none, none, none, none, none, i, [], cs, rfl, s0, LA.nil upd_same, rfl, rfl, hi, hcs⟩ (fun n σ H' _ ⟨_, _, _, _, _, _, _, _, _, s1, _⟩ => sqT (s1 _ _ hu)) (fun n v U σ H1 hv ⟨v7, v8, v9, v10, v11, hm, cs0, cs1, eσ, s1, hF1, hap, hn, hhm, hc⟩ hU => ?_) (fun σ H1 ⟨v7, v8, v9, v10, v11, hm, cs0, cs1, eσ, s1, hF1, hap, hn, hhm, hc⟩ => ?_)
    · subst eσ
      obtain ⟨sn, hsn, rfl⟩ := get_map hv
      obtain ⟨s, hs, rfl⟩ := get_mapN hsn
      have hnl : n < x.right.length := (List.getElem?_eq_some_iff.mp hs).1
      obtain ⟨s', e1, e2⟩ := Gs.drop_cons hnl
      have es : s' = s := by
        rw [hs] at e1
        exact (Option.some.inj e1).symm
      subst es
      rw [e2] at hc
      cases hc with
      | @cons _ _ _ m _ cs1' c hc' =>
      have kn : g.knows s' = true := GG.kn x (List.mem_of_getElem? hx) s' (List.mem_of_getElem? hs)
      have hmw : m ≤ ws.length := c.one.bound hhm
      have s2 : Same H (upd H1 U (.tup [.int ((n : Nat) : Int), vN s'.number])) := s1.trans (same_new hU)
      obtain ⟨qs, hq1, hq2, hq3⟩ := hF1
      have hqn : qs.length = n := by
        rw [← hn, ← hq2, List.length_map]
      -- the end of the turn
      have fin : ∀ H3, Same (upd H1 U (.tup [.int ((n : Nat) : Int), vN s'.number])) H3 → ∀ t1, H3 t1 = none → ∀ v9 v10 v11, (fun σ H' => ∃ v7 v8 v9 v10 v11 hm cs0 cs1, σ = [some (.ref e), some (vN r), some (vN i), some (vN j), some (.ref u), some (.ref F), some (vN hm), v7, v8, v9, v10, v11] ∧
        Same H H' ∧ LA CutAt H' F cs0 ∧ cs0 ++ cs1 = cs ∧ cs0.length = n + 1 ∧ hm ≤ ws.length ∧ CutsL g ws (x.right.drop (n + 1)) hm j cs1)
          [some (.ref e), some (vN r), some (vN i), some (vN j), some (.ref u), some (.ref F), some (vN m), some (.int (n : Int)), some (vN s'.number), v9, v10, v11] (upd (upd H3 t1 (.tup [vN s'.number, vN hm, vN m])) F (.lst ((qs.map fun p => V.ref p.1) ++ [.ref t1]))) := fun H3 s3 t1 ht1 v9 v10 v11 => by
        have hF3 : H3 F = some (.lst (qs.map fun p => V.ref p.1)) := s3 _ _ (same_new hU _ _ hq1)
        have nt : t1 ≠ F := Ne.symm (ne_of_none hF3 ht1)
        refine ⟨_, _, _, _, _, m, cs0 ++ [(s'.number, hm, m)], cs1', rfl, same_upd_of ((s2.trans s3).trans (same_new ht1)) hF, ⟨qs ++ [(t1, (s'.number, hm, m))], by rw [upd_same, List.map_append]; rfl, by rw [List.map_append, hq2]; rfl, fun p hp => ?_⟩, by rw [List.append_assoc]; exact hap, by rw [List.length_append, hn]; rfl, hmw, hc'⟩
        rcases List.mem_append.mp hp with z | z
        · have h1 := hq3 p z
          have n1 : p.1 ≠ F := fun y => by
            unfold CutAt at h1
            rw [y, hq1] at h1
            cases h1
          have h3 := s3 _ _ (same_new hU _ _ h1)
          show upd _ F _ p.1 = _
          rw [upd_ne n1, upd_ne (ne_of_none h3 ht1)]
          exact h3
        · rw [List.mem_singleton.mp z]
          show upd _ F _ t1 = _
          rw [upd_ne nt, upd_same]
      refine ⟨U, _, rfl, sqT upd_same, rfl, _, _, rfl, vN s'.number, _, rfl, rfl, ?_⟩
      refine ⟨vN j, rfl, .int (n : Int), rfl, (n : Int), 1, rfl, rfl, .ref u, rfl, u, _, rfl, .inr (sqT (s2 _ _ hu)), _, _, rfl, rfl, _, rfl, ite2 (fun cc => ?_) (fun cc => ?_)⟩
      · have hl2 : n + 1 < x.right.length := by
          have := of_decide_eq_true cc
          rw [hlr] at this
          omega
        have hss : x.right.drop (n + 1) ≠ [] := fun z => by
          have := congrArg List.length z
          rw [List.length_drop] at this
          simp at this
          omega
        have fc := first_cut GG hG hx e2 hss hhm c
        have hE2 := hE.mono s2
        refine ⟨.ref e, rfl, e, _, _, rfl, hE2.st.ins, rfl, vN s'.number, rfl, vN hm, rfl, e, g, ws, L, Pt, Rt, s', hm, rfl, hE2, G, kn, hhm, hw, ?_⟩
        generalize hN : ofSign ws Pt s' hm = N at fc
        have bits : ∀ j, N.testBit j = true → j ≤ ws.length := fun j hj => by
          rw [← hN] at hj
          exact (Gs.ofSign_snd (hG hm hhm).snd kn hj).bound hhm
        have hnl : N < 2 ^ 64 := Nat.lt_of_lt_of_le (Gs.lt_pow_of_bits (m := 25) fun j hj => by have := bits j hj; omega) (by decide)
        refine ⟨N, rfl, hnl, fun H3 l s3 _ hPl => ?_⟩
        have s3' := s2.trans s3
        refine ⟨.ref l, rfl, l, rfl, ⟨_, sqL hPl⟩, fun D hD => ?_⟩
        refine lc_list (xs := (Gs.places N).map vN) (fun k H' => Same H3 H' ∧ NumsL H' D (((Gs.places N).take k).filter fun pl => (Rt pl r (n + 1)).testBit j)) ⟨same_new hD, upd_same⟩ (fun k H' _ ⟨s4, _⟩ => sqL (s4 _ _ hPl)) (fun k v H' hv ⟨s4, hD4⟩ => ?_) (fun H' ⟨s4, hD4⟩ => ?_)
        · obtain ⟨pl, hpl, rfl⟩ := get_map hv
          have hple : pl ≤ ws.length := bits pl (Gs.mem_places.mp (List.mem_of_getElem? hpl))
          have sE := s3'.trans s4
          refine ⟨rfl, ?_⟩
          refine ⟨.ref e, rfl, e, _, _, _, .ref L.ra, rfl, sE _ _ hE.st.ins, T.c_Ends, T.na_Ends_of_rests, rfl, vN pl, rfl, L.ra, _, (pl : Int), .ref (L.ro pl), rfl, rfl, sqL (sE _ _ hE.st.rests), range_at (by omega), vN r, rfl, L.ro pl, _, (r : Int), .ref (L.rr pl r), rfl, rfl, sqL (sE _ _ (hE.st.row pl hple)), range_at hrl,
            .int (n : Int), rfl, (n : Int), 1, rfl, rfl, L.rr pl r, _, _, vN (Rt pl r (n + 1)), rfl, rfl, sqL (sE _ _ (hE.dy.rr pl r hple hrl)), at_of (j := n + 1) (by omega) (range_get (by rw [Gs.right_of hx]; exact hl2)), vN j, rfl, Rt pl r (n + 1), j, rfl, _, rfl, ?_⟩
          rw [take_one hpl, List.filter_append]
          cases hb : (Rt pl r (n + 1)).testBit j with
          | true =>
            refine iteT ⟨vN pl, rfl, _, hD4, ?_, fun b o eb => ?_, ?_⟩
            · have h1 := List.length_filter_le (fun pl => (Rt pl r (n + 1)).testBit j) ((Gs.places N).take k)
              have h2 := List.length_take_le k (Gs.places N)
              have h3 := places_len hnl
              refine line_lt ?_
              rw [List.length_map, List.length_take] at *
              omega
            · have nb : b ≠ D := ne_of_none eb hD
              rw [upd_ne nb]
              exact s4 b o eb
            · unfold NumsL
              rw [upd_same]
              simp [hb]
          | false =>
            refine iteF ⟨s4, ?_⟩
            simpa [hb] using hD4
        · rw [nums_len, List.take_length] at hD4
          refine ⟨D, _, 0, vN m, rfl, rfl, sqL hD4, at_map fc, ?_⟩
          have s5 := s3.trans s4
          refine ⟨.ref F, rfl, tyL (s5 _ _ (same_new hU _ _ hq1)), vN s'.number, rfl, vN hm, rfl, vN m, rfl, line_le (by show 3 ≤ _; decide), ?_⟩
          intro t1 ht1
          refine ⟨F, _, _, rfl, rfl, same_new ht1 _ _ (s5 _ _ (same_new hU _ _ hq1)), line_lt (by rw [List.length_map]; omega), ?_⟩
          exact ⟨vN m, rfl, fin _ s5 t1 ht1 _ _ _⟩
      · have e3 : x.right.drop (n + 1) = [] := List.drop_eq_nil_of_le (by
          rcases Nat.lt_or_ge (n + 1) x.right.length with z | z
          · exact absurd (decide_eq_true (by rw [hlr]; omega)) cc
          · exact z)
        have em : m = j := by
          have := c.rest
          rw [e3] at this
          cases this
          rfl
        refine ⟨.ref F, rfl, tyL (same_new hU _ _ hq1), vN s'.number, rfl, vN hm, rfl, vN j, rfl, line_le (by show 3 ≤ _; decide), ?_⟩
        intro t1 ht1
        refine ⟨F, _, _, rfl, rfl, same_new ht1 _ _ (same_new hU _ _ hq1), line_lt (by rw [List.length_map]; omega), ?_⟩
        subst em
        exact ⟨vN m, rfl, fin _ (Same.refl _) t1 ht1 _ _ _⟩
    · subst eσ
      have : cs1 = [] := by
        rw [hlr, List.drop_length] at hc
        cases hc
        rfl
      subst this
      rw [List.append_nil] at hap
      subst hap
      exact ⟨_, rfl, q H1 F s1 hF hF1⟩
end
end Gw
/-! # Walks: the first tree -/
namespace Gw
open PySem PySem.Spec PyProof.Rows L2 Gr
open Nt (Sign Rule Grammar Tree)
open Gs (Ps Rs ofSign behindF Good SndP CmpP GoodR GoodAt GoodE Ds FR FTs FT1 Cut CutsL Pend pRows pNodes pCnt Nd)
section
variable {P : Program} {w : World} {K : PySem.W.Frag} {mg : Str → Option Value} {base : Heap} {a : Ad}
/-! ### Tree.__init__ -/
def treeF (l n : Addr) : List (Str × V) := [("listed", .ref l), ("nodes", .ref n)]
def sp_Tree_init (P : Program) (w : World) (K : PySem.W.Frag) (a : Ad) : Sp := fun vs H Q _ => ∃ (t dx : Addr), vs = [.ref t] ∧ H t = some (.ins a.c_Tree dx []) ∧
  ∀ H' l n, H l = none → H n = none → l ≠ n → H' t = some (.ins a.c_Tree dx (treeF l n)) → H' l = some (.lst []) → H' n = some (.lst []) → (∀ b o, b ≠ t → H b = some o → H' b = some o) → Q .non H'
theorem ok_Tree_init (F : Fn K "__init__" "Tree.__init__" s_Tree_init a.f_Tree_init) (T : Txt K mg a)  : Pr P w K mg base CX0 1 a.f_Tree_init ["self"] (sp_Tree_init P w K a) := by
  obtain ⟨fd, F⟩ := F
  refine ⟨fd, F.ok sc_Tree_init (fun vs H Q E h => ?_) (fun cdv A outer s H vs Q E hr h => ?_), F.binds (ps := ["self"]) fun _ _ _ _ _ _ us hl => match us, hl with | [_], _ => rfl, F.kp⟩
  · obtain ⟨t, dx, rfl, _⟩ := h
    rfl
  · obtain ⟨t, dx, rfl, ht, q⟩ := h
    refine ⟨_, (pss_cons (ps_fld (pv 0) (pe_lst pa_nil) rfl)
      (pss_one (ps_fld (pv 0) (pe_lst pa_nil) rfl))), ?_⟩
    refine ⟨Nat.zero_le _, ?_⟩
    intro l hl
    have nl : l ≠ t := Ne.symm (ne_of_none ht hl)
    have s1 : Same H (upd H l (.lst [])) := same_new hl
    refine ⟨_, rfl, t, _, dx, [], rfl, s1 _ _ ht, T.c_Tree, T.na_Tree_listed, (by decide), ?_⟩
    refine ⟨Nat.zero_le _, ?_⟩
    intro n hn
    have nt : n ≠ t := fun z => by
      rw [z, upd_same] at hn
      cases hn
    have e1 : upd H l (.lst []) n = none := by rwa [upd_ne nt] at hn
    have nn : l ≠ n := fun z => by
      rw [← z, upd_same] at e1
      cases e1
    have hn0 : H n = none := by rwa [upd_ne (Ne.symm nn)] at e1
    refine ⟨_, rfl, t, _, dx, _, rfl, by rw [upd_ne (Ne.symm nt), upd_same], T.c_Tree, T.na_Tree_nodes, (by show 1 < 1000; decide), ?_⟩
    refine q _ l n hl hn0 nn (by rw [upd_same]; rfl) (by rw [upd_ne nl, upd_ne nn, upd_ne nl, upd_same]) (by rw [upd_ne nt, upd_same]) fun b o nb hb => ?_
    rw [upd_ne nb, upd_ne (ne_of_none hb hn0), upd_ne nb]
    exact s1 _ _ hb
/-! ### the tree and the stack in the heap -/
def optV : Option Nat → V
  | none => .non
  | some k => vN k
def NdAt (H : Hp) (t : Addr) (x : Nd) : Prop := H t = some (.tup [vN x.1, vN x.2.1, vN x.2.2.1, optV x.2.2.2])
def PendAt (H : Hp) (t : Addr) (x : Pend) : Prop := H t = some (.tup [vN x.s.number, vN x.i, vN x.m, optV x.ar])
def TreeAt (a : Ad) (H : Hp) (p : Addr) (T : List Nat × List Nd) : Prop := ∃ dx l n, H p = some (.ins a.c_Tree dx (treeF l n)) ∧ NumsL H l T.1 ∧ LA NdAt H n T.2
theorem TreeAt.mono {H H' : Hp} {p : Addr} {T : List Nat × List Nd} (h : TreeAt a H p T) (k : Same H H') : TreeAt a H' p T := by
  obtain ⟨dx, l, n, h1, h2, h3⟩ := h
  exact ⟨dx, l, n, k _ _ h1, k _ _ h2, h3.mono k fun _ _ e => k _ _ e⟩
/-- the stack: its last item is the next -/
def StackAt (H : Hp) (S : Addr) (pend : List Pend) : Prop := ∃ qs : List (Addr × Pend), H S = some (.lst (qs.map fun q => V.ref q.1).reverse) ∧ qs.map (·.2) = pend ∧ ∀ q ∈ qs, PendAt H q.1 q.2
structure FtSt (a : Ad) (H0 H : Hp) (p S l n dx : Addr) (row : List Nat) (nodes : List Nd) (pend : List Pend) : Prop where
  same : Same H0 H
  tr : H p = some (.ins a.c_Tree dx (treeF l n))
  ls : H l = some (.lst (row.map vN))
  nd : LA NdAt H n nodes
  st : StackAt H S pend
  fS : H0 S = none
  fl : H0 l = none
  fn : H0 n = none
  Sl : S ≠ l
  Sn : S ≠ n
  ln : l ≠ n
section
variable {H0 H H' : Hp} {p S l n dx : Addr} {row : List Nat} {nodes : List Nd} {pend : List Pend}
theorem StackAt.keep (h : StackAt H S pend) (k : ∀ b o, H b = some o → (b = S ∨ ∀ xs, o ≠ .lst xs) → H' b = some o) : StackAt H' S pend := by
  obtain ⟨qs, h1, h2, h3⟩ := h
  exact ⟨qs, k _ _ h1 (.inl rfl), h2, fun q hq => k _ _ (h3 q hq) (.inr fun _ z => by cases z)⟩
theorem LA.keepNd {b : Addr} (h : LA NdAt H n nodes) (k : ∀ b o, H b = some o → (b = n ∨ ∀ xs, o ≠ .lst xs) → H' b = some o) : LA NdAt H' n nodes := by
  obtain ⟨qs, h1, h2, h3⟩ := h
  exact ⟨qs, k _ _ h1 (.inl rfl), h2, fun q hq => k _ _ (h3 q hq) (.inr fun _ z => by cases z)⟩
theorem FtSt.mono (h : FtSt a H0 H p S l n dx row nodes pend) (k : Same H H') : FtSt a H0 H' p S l n dx row nodes pend :=
  ⟨h.same.trans k, k _ _ h.tr, k _ _ h.ls, h.nd.mono k fun _ _ e => k _ _ e, h.st.keep fun b o e _ => k b o e, h.fS, h.fl, h.fn, h.Sl, h.Sn, h.ln⟩
/-- the stack is another one -/
theorem FtSt.setS (h : FtSt a H0 H p S l n dx row nodes pend) {qs : List (Addr × Pend)} (hq : ∀ q ∈ qs, PendAt H q.1 q.2) : FtSt a H0 (upd H S (.lst (qs.map fun q => V.ref q.1).reverse)) p S l n dx row nodes (qs.map (·.2)) := by
  obtain ⟨qs0, e0, _, _⟩ := h.st
  have k : ∀ b o, H b = some o → (∀ xs, o ≠ .lst xs) → upd H S (.lst (qs.map fun q => V.ref q.1).reverse) b = some o := fun b o e z => by
    rw [upd_ne]
    · exact e
    · intro y
      rw [y, e0] at e
      exact z _ (Option.some.inj e).symm
  refine ⟨same_upd_of h.same h.fS, k _ _ h.tr (fun _ z => by cases z), by rw [upd_ne (Ne.symm h.Sl)]; exact h.ls, ?_, ⟨qs, upd_same, rfl, fun q hm => k _ _ (hq q hm) fun _ z => by cases z⟩, h.fS, h.fl, h.fn, h.Sl, h.Sn, h.ln⟩
  refine LA.keepNd (b := S) h.nd fun b o e z => ?_
  rcases z with z | z
  · subst z
    rw [upd_ne (Ne.symm h.Sn)]
    exact e
  · exact k b o e z
/-- one more in the list -/
theorem FtSt.addL (h : FtSt a H0 H p S l n dx row nodes pend) (v : Nat) : FtSt a H0 (upd H l (.lst (row.map vN ++ [vN v]))) p S l n dx (row ++ [v]) nodes pend := by
  have k : ∀ b o, H b = some o → (∀ xs, o ≠ .lst xs) → upd H l (.lst (row.map vN ++ [vN v])) b = some o := fun b o e z => by
    rw [upd_ne]
    · exact e
    · intro y
      rw [y, h.ls] at e
      exact z _ (Option.some.inj e).symm
  refine ⟨same_upd_of h.same h.fl, k _ _ h.tr (fun _ z => by cases z), by rw [upd_same, List.map_append]; rfl, ?_, ?_, h.fS, h.fl, h.fn, h.Sl, h.Sn, h.ln⟩
  · refine LA.keepNd (b := S) h.nd fun b o e z => ?_
    rcases z with z | z
    · subst z
      rw [upd_ne (Ne.symm h.ln)]
      exact e
    · exact k b o e z
  · refine h.st.keep fun b o e z => ?_
    rcases z with z | z
    · subst z
      rw [upd_ne h.Sl]
      exact e
    · exact k b o e z
/-- one more rule -/
theorem FtSt.addN (h : FtSt a H0 H p S l n dx row nodes pend) {ps : List (Addr × Nd)} (hp : H n = some (.lst (ps.map fun p => V.ref p.1))) (h2 : ps.map (·.2) = nodes) (h3 : ∀ p ∈ ps, NdAt H p.1 p.2) {t : Addr} {x : Nd} (ht : NdAt H t x) :
    FtSt a H0 (upd H n (.lst ((ps.map fun p => V.ref p.1) ++ [.ref t]))) p S l n dx row (nodes ++ [x]) pend := by
  have k : ∀ b o, H b = some o → (∀ xs, o ≠ .lst xs) → upd H n (.lst ((ps.map fun p => V.ref p.1) ++ [.ref t])) b = some o := fun b o e z => by
    rw [upd_ne]
    · exact e
    · intro y
      rw [y, hp] at e
      exact z _ (Option.some.inj e).symm
  refine ⟨same_upd_of h.same h.fn, k _ _ h.tr (fun _ z => by cases z), by rw [upd_ne h.ln]; exact h.ls, ?_, ?_, h.fS, h.fl, h.fn, h.Sl, h.Sn, h.ln⟩
  · refine ⟨ps ++ [(t, x)], by rw [upd_same, List.map_append]; rfl, by rw [List.map_append, h2]; rfl, fun q hq => ?_⟩
    rcases List.mem_append.mp hq with z | z
    · exact k _ _ (h3 q z) fun _ z => by cases z
    · rw [List.mem_singleton.mp z]
      exact k _ _ ht fun _ z => by cases z
  · refine h.st.keep fun b o e z => ?_
    rcases z with z | z
    · subst z
      rw [upd_ne h.Sn]
      exact e
    · exact k b o e z
end
/-! ### first_tree -/
def sp_first_tree (P : Program) (w : World) (K : PySem.W.Frag) (a : Ad) : Sp := fun vs H Q _ => ∃ (e : Addr) (g : Grammar) (ws : List Nat) (L : EL) (Pt : Ps) (Rt : Rs), vs = [.ref e] ∧ EndsAt a H e g ws L Pt Rt ∧ GoodE g ws Pt Rt ∧ Good g ∧ Lim g ∧ ws.length ≤ 24 ∧
  (Gs.readT g ws = none → ∀ H', Same H H' → Q .non H') ∧ ∀ T, Gs.readT g ws = some T → T.1.length ≤ 2000 → T.2.length ≤ 2000 → ∀ H' p, Same H H' → H p = none → TreeAt a H' p T → Q (.ref p) H'
theorem ok_first_tree (F : Fn K "first_tree" "first_tree" s_first_tree a.f_first_tree) (T : Txt K mg a) (h_Tree_init : Pr P w K mg base CX0 1 a.f_Tree_init ["self"] (sp_Tree_init P w K a)) (h_is_part : Pr P w K mg base CX0 1 a.f_is_part ["sign"] (sp_is_part P w K a)) (h_has : Pr P w K mg base CX0 1 a.f_has ["some", "place"] (sp_has P w K a)) (h_first_rule : Pr P w K mg base CX0 4 a.f_first_rule ["ends", "part", "begin", "end"] (sp_first_rule P w K a)) (h_cuts : Pr P w K mg base CX0 3 a.f_cuts ["ends", "rule", "begin", "end"] (sp_cuts P w K a)) : Pr P w K mg base CX0 5 a.f_first_tree ["ends"] (sp_first_tree P w K a) := by
  obtain ⟨fd, F⟩ := F
  obtain ⟨fd_Tree_init, G_Tree_init, B_Tree_init, K_Tree_init⟩ := h_Tree_init
  obtain ⟨fd_is_part, G_is_part, B_is_part, K_is_part⟩ := h_is_part
  obtain ⟨fd_has, G_has, B_has, K_has⟩ := h_has
  obtain ⟨fd_first_rule, G_first_rule, B_first_rule, K_first_rule⟩ := h_first_rule
  obtain ⟨fd_cuts, G_cuts, B_cuts, K_cuts⟩ := h_cuts
  refine ⟨fd, F.ok sc_first_tree (fun vs H Q E h => ?_) (fun cdv A outer s H vs Q E hr h => ?_), F.binds (ps := ["ends"]) fun _ _ _ _ _ _ us hl => match us, hl with | [_], _ => rfl, F.kp⟩
  · obtain ⟨e, g, ws, L, Pt, Rt, rfl, _⟩ := h
    rfl
  · obtain ⟨e, g, ws, L, Pt, Rt, rfl, hE, hG, GG, G, hw, qn, qs⟩ := h
    refine ⟨_, (pss_cons (ps_set (i := 1) sc_first_tree.nd rfl (Or.inl rfl) (pe_callB call_len_seq (by rfl) T.n_len PySem.boot_len (pa_cons (pe_fld (pv 0) rfl) pa_nil)))
      (pss_cons (ps_if (PW.pt (pw_or (pt_cmpR op_eq (pv 1) pe_int (nomark _)) (pw_or1 (pt_not (pt_val (pe_call G_has (hr.mono (by decide)) (by rfl) T.g_has K_has B_has .nil pass0 (pa_cons (pe_ix ix_list (pe_ix ix_list (pe_fld (pv 0) rfl) pe_int (fun _ _ => rfl)) pe_int (fun _ _ => rfl)) (pa_cons (pv 1) pa_nil)))))))) (pss_one (ps_ret pe_non)) pss_nil)
      (pss_cons (ps_set (i := 2) sc_first_tree.nd rfl (Or.inl rfl) (pe_make0 T.mk_Tree G_Tree_init (hr.mono (by decide)) (by rfl) T.g_Tree B_Tree_init .nil pass0))
      (pss_cons (ps_set (i := 3) sc_first_tree.nd rfl (Or.inl rfl) (pe_lst (pa_cons (pe_tup (pa_cons (pe_glob (v := .int (64)) rfl T.i_PART ⟨_, rfl⟩) (pa_cons pe_int (pa_cons (pv 1) (pa_cons pe_non pa_nil))))) pa_nil)))
      (pss_cons (ps_while PassesOwn.never (pt_cmpR (op_neE (huN 0 hr)) (pv 3) (pe_lst pa_nil) (nomark _)) (pss_cons (ps_asg (pe_bm0 PySem.F.plainAttrs_list PySem.F.slot_list_pop PySem.F.type_list_pop mt_pop (pv 3)) (pg_tup (by rfl) (pgs_cons (pg_name (i := 4) sc_first_tree.nd rfl (Or.inl rfl)) (pgs_cons (pg_name (i := 5) sc_first_tree.nd rfl (Or.inl rfl)) (pgs_cons (pg_name (i := 6) sc_first_tree.nd rfl (Or.inl rfl)) (pgs_cons (pg_name (i := 7) sc_first_tree.nd rfl (Or.inl rfl)) pgs_nil))))))
      (pss_one (ps_if (pt_val (pe_call G_is_part (hr.mono (by decide)) (by rfl) T.g_is_part K_is_part B_is_part .nil pass0 (pa_cons (pv 4) pa_nil))) (pss_cons (ps_set (i := 8) sc_first_tree.nd rfl (Or.inl rfl) (pe_call G_first_rule (hr.mono (by decide)) (by rfl) T.g_first_rule K_first_rule B_first_rule .nil pass0 (pa_cons (pv 0) (pa_cons (pe_op op_sub (pv 4) (pe_glob (v := .int (64)) rfl T.i_PART ⟨_, rfl⟩)) (pa_cons (pv 5) (pa_cons (pv 6) pa_nil))))))
      (pss_cons (ps_expr (pe_bm PySem.F.plainAttrs_list PySem.F.slot_list_append PySem.F.type_list_append mt_append (pe_fld (pv 2) rfl) (pa_cons (pe_op op_add (pe_glob (v := .int (64)) rfl T.i_PART ⟨_, rfl⟩) (pv 8)) pa_nil)))
      (pss_cons (ps_expr (pe_bm PySem.F.plainAttrs_list PySem.F.slot_list_append PySem.F.type_list_append mt_append (pe_fld (pv 2) rfl) (pa_cons (pe_tup (pa_cons (pv 8) (pa_cons (pv 5) (pa_cons (pv 6) (pa_cons (pv 7) pa_nil))))) pa_nil)))
      (pss_cons (ps_set (i := 9) sc_first_tree.nd rfl (Or.inr rfl) (pe_op op_sub (pe_callB call_len_seq (by rfl) T.n_len PySem.boot_len (pa_cons (pe_fld (pv 2) rfl) pa_nil)) pe_int))
      (pss_one (ps_expr (pe_bm PySem.F.plainAttrs_list PySem.F.slot_list_extend PySem.F.type_list_extend mt_extend (pv 3) (pa_cons (pe_lc (own := [("one", 10), ("first", 11), ("last", 12)]) rfl sc_first_tree.nd (pi_list (pe_revL (pe_call G_cuts (hr.mono (by decide)) (by rfl) T.g_cuts K_cuts B_cuts .nil pass0 (pa_cons (pv 0) (pa_cons (pv 8) (pa_cons (pv 5) (pa_cons (pv 6) pa_nil))))))) (blkOk_by (N := ["ends", "many", "found", "waiting", "sign", "begin", "end", "around", "rule", "own", "one", "first", "last"]) (sc := defScope s_first_tree) (by decide +kernel)) (fun _ _ _ _ _ => (pg_tupK (K := K) (n := 3) rfl (by rfl) (pgs_cons (pg_name (i := 10) sc_first_tree.nd rfl (Or.inl rfl)) (pgs_cons (pg_name (i := 11) sc_first_tree.nd rfl (Or.inl rfl)) (pgs_cons (pg_name (i := 12) sc_first_tree.nd rfl (Or.inl rfl)) pgs_nil))))) (fun _ _ _ _ _ => pts_nil) (fun _ _ _ _ _ => (pe_tup (pa_cons (pv 10) (pa_cons (pv 11) (pa_cons (pv 12) (pa_cons (pv 9) pa_nil))))))) pa_nil)))))))) (pss_one (ps_expr (pe_bm PySem.F.plainAttrs_list PySem.F.slot_list_append PySem.F.type_list_append mt_append (pe_fld (pv 2) rfl) (pa_cons (pv 4) pa_nil))))))))
      (pss_one (ps_ret (pv 2)))))))), ?_⟩
    have hn : (ws.map vN).length = ws.length := List.length_map ..
    refine ⟨.ref e, rfl, e, _, _, _, .ref L.xa, rfl, hE.st.ins, T.c_Ends, T.na_Ends_text, rfl, L.xa, _, rfl, .inl (sqL hE.st.text), ?_⟩
    rw [hn]
    have no : (ws = [] ∨ ¬ Ds g ws [.part 0] 0 ws.length) → ∀ H', Same H H' → Q .non H' := fun z => qn (by unfold Gs.readT; rw [Gs.firstOf_none GG z]; rfl)
    refine ⟨vN ws.length, rfl, rfl, _, rfl, ite2 (fun c => ?_) (fun c => ?_)⟩
    · have : ws = [] := by
        have := V.int.inj (of_decide_eq_true c)
        exact List.eq_nil_of_length_eq_zero (by omega)
      exact no (.inl this) H (Same.refl H)
    have hne : ws ≠ [] := fun z => c (decide_eq_true (by rw [z]; rfl))
    have hlw : 0 < ws.length := List.length_pos_iff.mpr hne
    have hpos := GG.parts
    refine ⟨.ref e, rfl, e, _, _, _, .ref L.pa, rfl, hE.st.ins, T.c_Ends, T.na_Ends_of_parts, rfl, L.pa, _, 0, .ref (L.pr 0), rfl, rfl, sqL hE.st.parts, at_of (j := 0) rfl (range_get (by omega)), L.pr 0, _, 0, vN (Pt 0 0), rfl, rfl, sqL (hE.dy.pr 0 (Nat.zero_le _)), at_of (j := 0) rfl (range_get hpos), vN ws.length, rfl, Pt 0 0, ws.length, rfl, _, rfl, ?_⟩
    have hbit : (Pt 0 0).testBit ws.length = true ↔ Ds g ws [.part 0] 0 ws.length := ⟨(hG 0 (Nat.zero_le _)).snd 0 _ hpos, (hG 0 (Nat.zero_le _)).cmp 0 _ hpos⟩
    cases hb : (Pt 0 0).testBit ws.length with
    | false => exact no (.inr fun d => by rw [hbit.mpr d] at hb; cases hb) H (Same.refl H)
    | true =>
      have d0 := hbit.mp hb
      obtain ⟨r0, x0, ks0, er, fr0, ft0⟩ := Gs.firstOf_some GG hne d0
      have eT : Gs.readT g ws = some ((Tree.node r0 ks0).row, Gs.nodesA 0 none 0 (.node r0 ks0)) := by
        unfold Gs.readT
        rw [er]
        rfl
      have few := Gs.few_rows GG G.parts hw fr0 ft0
      generalize hRow : (Tree.node r0 ks0).row = Row at eT few
      generalize hNs : Gs.nodesA 0 none 0 (.node r0 ks0) = Ns at eT
      have fewN : Ns.length ≤ 2000 := by
        rw [← hNs, Gs.nodesA_len]
        rw [← hRow, Gs.row_len] at few
        omega
      have qs' := qs _ eT few fewN
      -- found = Tree()
      refine fun p dx hp hdx ndx => ⟨p, dx, rfl, upd_same, fun H1 l n hl hn' hln etr el en kp => ⟨rfl, ?_⟩⟩
      have s1 : Same H H1 := fun b o hb => by
        refine kp b o (ne_of_none hb hp) ?_
        rw [upd_ne (ne_of_none hb hp), upd_ne (ne_of_none hb hdx)]
        exact hb
      have nnew : ∀ b, upd (upd H dx (.own p)) p (.ins a.c_Tree dx []) b = none → H b = none := fun b hb => none_of_same (H' := upd (upd H dx (.own p)) p (.ins a.c_Tree dx [])) (fun b' o hb' => by
        rw [upd_ne (ne_of_none hb' hp), upd_ne (ne_of_none hb' hdx)]
        exact hb') hb
      -- waiting = [(PART, 0, many, None)]
      refine ⟨vN ws.length, rfl, line_le (by show 4 ≤ _; decide), ?_⟩
      intro t0 ht0
      refine ⟨line_le (by show 1 ≤ _; decide), ?_⟩
      intro S hS
      have s2 : Same H1 (upd H1 t0 (.tup [V.int 64, V.int 0, vN ws.length, V.non])) := same_new ht0
      have s3 : Same (upd H1 t0 (.tup [V.int 64, V.int 0, vN ws.length, V.non])) (upd (upd H1 t0 (.tup [V.int 64, V.int 0, vN ws.length, V.non])) S (.lst [.ref t0])) := same_new hS
      obtain ⟨H3, hH3⟩ : ∃ H3, H3 = upd (upd H1 t0 (.tup [V.int 64, V.int 0, vN ws.length, V.non])) S (.lst [.ref t0]) := ⟨_, rfl⟩
      rw [← hH3] at s3 ⊢
      have hS1 : H1 S = none := none_of_same s2 hS
      have st0 : FtSt a H H3 p S l n dx [] [] [⟨.part 0, 0, ws.length, none, .node r0 ks0⟩] := by
        have s13 := s2.trans s3
        refine ⟨s1.trans s13, s13 _ _ etr, s13 _ _ el, LA.nil (s13 _ _ en), ⟨[(t0, ⟨.part 0, 0, ws.length, none, .node r0 ks0⟩)], by rw [hH3, upd_same]; rfl, rfl, fun q hq => ?_⟩, none_of_same s1 hS1, nnew _ hl, nnew _ hn', Ne.symm (ne_of_none el hS1), Ne.symm (ne_of_none en hS1), hln⟩
        rw [List.mem_singleton.mp hq]
        exact s3 _ _ upd_same
      -- while waiting != []
      refine ⟨fun m σ H4 => ∃ (row : List Nat) (nodes : List Nd) (pend : List Pend) (v4 v5 v6 v7 v8 v9 v10 v11 v12 : Option V), σ = [some (.ref e), some (vN ws.length), some (.ref p), some (.ref S), v4, v5, v6, v7, v8, v9, v10, v11, v12] ∧ m = (pRows pend).length ∧
        FtSt a H H4 p S l n dx row nodes pend ∧ row ++ pRows pend = Row ∧ nodes ++ pNodes nodes.length pend = Ns ∧ ∀ y ∈ pend, FT1 g ws y.s y.i y.m y.t ∧ y.i ≤ ws.length ∧ g.knows y.s = true,
        ⟨_, [], [], [⟨.part 0, 0, ws.length, none, .node r0 ks0⟩], none, none, none, none, none, none, none, none, none, rfl, rfl, st0, ?_, ?_, fun y hy => ?_⟩, ?_⟩
      · rw [List.nil_append, ← hRow]
        show (Tree.node r0 ks0).row ++ [] = _
        rw [List.append_nil]
      · rw [List.nil_append, ← hNs]
        show Gs.nodesA 0 none 0 (.node r0 ks0) ++ [] = _
        rw [List.append_nil]
      · rw [List.mem_singleton.mp hy]
        exact ⟨⟨0, x0, rfl, fr0, ft0⟩, Nat.zero_le _, decide_eq_true hpos⟩
      rintro m σ H4 ⟨row, nodes, pend, v4, v5, v6, v7, v8, v9, v10, v11, v12, rfl, rfl, st4, hrow, hnodes, hpend⟩
      obtain ⟨qs4, eS4, eq4, hq4⟩ := st4.st
      refine ⟨.ref S, rfl, Nat.zero_le _, fun z hz => ?_⟩
      have s5 : Same H4 (upd H4 z (.lst [])) := same_new hz
      have st5 := st4.mono s5
      obtain ⟨H5, hH5⟩ : ∃ H5, H5 = upd H4 z (.lst []) := ⟨_, rfl⟩
      have ez5 : H5 z = some (.lst []) := by rw [hH5, upd_same]
      rw [← hH5] at s5 st5 ⊢
      have eS5 := s5 _ _ eS4
      refine ⟨S, z, _, rfl, rfl, sqL eS5, sqL ez5, _, rfl, ?_⟩
      have hfew : row.length + (pRows pend).length ≤ 2000 := by
        rw [← List.length_append, hrow]
        exact few
      have hfewN : nodes.length ≤ 2000 := by
        rw [← hnodes, List.length_append] at fewN
        omega
      have hpl := Gs.pRows_len pend
      cases qs4 with
      | nil =>
        subst eq4
        refine iteF ⟨.ref p, rfl, qs' H5 p st5.same hp ⟨dx, l, n, st5.tr, ?_, ?_⟩⟩
        · have e1 : row = Row := by rw [← hrow]; exact (List.append_nil _).symm
          rw [← e1]
          exact st5.ls
        · have e1 : nodes = Ns := by rw [← hnodes]; exact (List.append_nil _).symm
          rw [← e1]
          exact st5.nd
      | cons q0 qs4 =>
      obtain ⟨t1, y⟩ := q0
      subst eq4
      rw [List.map_cons] at hrow hnodes hpend hfew hpl
      have ht1 : PendAt H5 t1 y := s5 _ _ (hq4 (t1, y) List.mem_cons_self)
      have hq5 : ∀ q ∈ qs4, PendAt H5 q.1 q.2 := fun q hq => s5 _ _ (hq4 q (List.mem_cons_of_mem _ hq))
      have eS5' : H5 S = some (.lst ((qs4.map fun q => V.ref q.1).reverse ++ [.ref t1])) := by
        rw [eS5, List.map_cons, List.reverse_cons]
      refine ifE (fun _ => ?_) fun c => absurd c (by simp)
      refine ⟨fun σ' H' => ∃ (row' : List Nat) (nodes' : List Nd) (pend' : List Pend) (v4 v5 v6 v7 v8 v9 v10 v11 v12 : Option V), σ' = [some (.ref e), some (vN ws.length), some (.ref p), some (.ref S), v4, v5, v6, v7, v8, v9, v10, v11, v12] ∧ (pRows pend').length < (pRows (y :: qs4.map (·.2))).length ∧
        FtSt a H H' p S l n dx row' nodes' pend' ∧ row' ++ pRows pend' = Row ∧ nodes' ++ pNodes nodes'.length pend' = Ns ∧ ∀ y ∈ pend', FT1 g ws y.s y.i y.m y.t ∧ y.i ≤ ws.length ∧ g.knows y.s = true,
        fun σ' H' ⟨row', nodes', pend', v4, v5, v6, v7, v8, v9, v10, v11, v12, h1, h2, h3⟩ => ⟨_, h2, row', nodes', pend', v4, v5, v6, v7, v8, v9, v10, v11, v12, h1, rfl, h3⟩, ?_⟩
      -- sign, begin, end, around = waiting.pop()
      refine ⟨.ref S, rfl, tyL eS5', S, _, .ref t1, rfl, rfl, eS5', ?_, ?_⟩
      · rw [List.length_append, List.length_singleton]
        simp
      rw [List.dropLast_concat]
      have st6 := st5.setS hq5
      obtain ⟨H6, hH6⟩ : ∃ H6, H6 = upd H5 S (.lst (qs4.map fun q => V.ref q.1).reverse) := ⟨_, rfl⟩
      rw [← hH6] at st6 ⊢
      have ht6 : PendAt H6 t1 y := by
        have : t1 ≠ S := fun z => by
          unfold PendAt at ht1
          rw [z, eS5'] at ht1
          cases ht1
        rw [hH6]
        show upd _ S _ t1 = _
        rw [upd_ne this]
        exact ht1
      have eS6 : H6 S = some (.lst (qs4.map fun q => V.ref q.1).reverse) := by rw [hH6, upd_same]
      have hE6 := hE.mono st6.same
      obtain ⟨hy1, hy2, hy3⟩ := hpend y List.mem_cons_self
      refine ⟨t1, _, rfl, sqT ht6, rfl, vN y.s.number, _, rfl, vN y.i, _, rfl, vN y.m, _, rfl, optV y.ar, _, rfl, rfl, ?_⟩
      refine ⟨vN y.s.number, rfl, y.s.number, rfl, _, rfl, ?_⟩
      obtain ⟨ys, yi, ym, yar, yt⟩ := y
      have hyl : ∀ y ∈ qs4.map (·.2), FT1 g ws y.s y.i y.m y.t ∧ y.i ≤ ws.length ∧ g.knows y.s = true := fun y hy => hpend y (List.mem_cons_of_mem _ hy)
      cases yt with
      | leaf b =>
        obtain ⟨ey, em⟩ : ys = .word b ∧ ym = yi + 1 := hy1
        subst ey
        have hb : b < g.words := by simpa [Grammar.knows] using hy3
        have hgw := G.words
        refine ite2 (fun c => absurd (of_decide_eq_true c) (by show ¬ 64 ≤ b; omega)) fun _ => ?_
        refine ⟨.ref p, rfl, p, _, _, _, .ref l, rfl, st6.tr, T.c_Tree, T.na_Tree_listed, rfl, tyL st6.ls, vN b, rfl, l, _, vN b, rfl, rfl, st6.ls, line_lt (by rw [List.length_map]; omega), ?_⟩
        refine ⟨row ++ [b], nodes, qs4.map (·.2), _, _, _, _, _, _, _, _, _, rfl, ?_, st6.addL b, ?_, ?_, hyl⟩
        · show _ < ([b] ++ pRows _).length
          rw [List.length_append]
          simp
        · rw [List.append_assoc, ← hrow]
          rfl
        · rw [← hnodes]
          rfl
      | node r ks =>
        obtain ⟨q, x, ey, fr, ft⟩ := hy1
        subst ey
        have hq : q < g.parts := by simpa [Grammar.knows] using hy3
        have hgp := G.parts
        have hgr := G.rules
        have hrl : r < g.rules.length := (List.getElem?_eq_some_iff.mp fr.at_).1
        have hms : ym ≤ ws.length := fr.ds.bound hy2
        have elen : ym = yi + (Nt.saysAll ks).length := ft.len
        refine ite2 (fun _ => ?_) fun c => absurd (decide_eq_true (show 64 ≤ 64 + q by omega)) c
        -- rule = first_rule(ends, sign - PART, begin, end)
        have eq64 : ((64 + q : Nat) : Int) - 64 = (q : Int) := by omega
        refine ⟨.ref e, rfl, vN (64 + q), rfl, ((64 + q : Nat) : Int), 64, rfl, rfl, vN yi, rfl, vN ym, rfl, e, g, ws, L, Pt, Rt, q, yi, ym, r, x, ?_, hE6, hG, GG, G, hw, hy2, fr, fun H7 s7 => ?_⟩
        · show [V.ref e, V.int (((64 + q : Nat) : Int) - 64), vN yi, vN ym] = [V.ref e, vN q, vN yi, vN ym]
          rw [eq64]
        have st7 := st6.mono s7
        -- found.listed.append(PART + rule)
        have e64 : (64 : Int) + (r : Int) = ((64 + r : Nat) : Int) := by omega
        refine ⟨.ref p, rfl, p, _, _, _, .ref l, rfl, st7.tr, T.c_Tree, T.na_Tree_listed, rfl, tyL st7.ls, vN r, rfl, 64, (r : Int), rfl, rfl, l, _, V.int (64 + (r : Int)), rfl, rfl, st7.ls, line_lt (by rw [List.length_map]; omega), ?_⟩
        rw [e64]
        have st8 := st7.addL (64 + r)
        obtain ⟨H8, hH8⟩ : ∃ H8, H8 = upd H7 l (.lst (row.map vN ++ [vN (64 + r)])) := ⟨_, rfl⟩
        rw [← hH8] at st8
        show tSeq _ _ _ _ (upd H7 l (.lst (row.map vN ++ [vN (64 + r)])))
        rw [← hH8]
        obtain ⟨ns8, en8, hn8, hk8⟩ := st8.nd
        have hnl8 : ns8.length = nodes.length := by rw [← hn8, List.length_map]
        -- found.nodes.append((rule, begin, end, around))
        refine ⟨.ref p, rfl, p, _, _, _, .ref n, rfl, st8.tr, T.c_Tree, T.na_Tree_nodes, rfl, tyL en8, vN r, rfl, vN yi, rfl, vN ym, rfl, optV yar, rfl, line_le (by show 4 ≤ _; decide), ?_⟩
        intro t2 ht2
        have s8 : Same H8 (upd H8 t2 (.tup [vN r, vN yi, vN ym, optV yar])) := same_new ht2
        refine ⟨n, _, _, rfl, rfl, s8 _ _ en8, line_lt (by rw [List.length_map]; omega), ?_⟩
        have st9 := (st8.mono s8).addN (t := t2) (x := (r, yi, ym, yar)) (s8 _ _ en8) hn8 (fun p hp => s8 _ _ (hk8 p hp)) upd_same
        obtain ⟨H9, hH9⟩ : ∃ H9, H9 = upd (upd H8 t2 (.tup [vN r, vN yi, vN ym, optV yar])) n (.lst ((ns8.map fun p => V.ref p.1) ++ [.ref t2])) := ⟨_, rfl⟩
        rw [← hH9] at st9 ⊢
        have en9 : H9 n = some (.lst ((ns8.map fun p => V.ref p.1) ++ [.ref t2])) := by rw [hH9, upd_same]
        -- own = len(found.nodes) - 1
        refine ⟨.ref p, rfl, p, _, _, _, .ref n, rfl, st9.tr, T.c_Tree, T.na_Tree_nodes, rfl, n, _, rfl, .inl (sqL en9), ((nodes.length + 1 : Nat) : Int), 1, (by rw [List.length_append, List.length_map, hnl8]; rfl), rfl, ?_⟩
        have eown : V.int (((nodes.length + 1 : Nat) : Int) - 1) = vN nodes.length := by
          show V.int _ = V.int _
          congr 1
          omega
        -- the kids
        obtain ⟨kd, hkc, hkd, hkr, hkn, hkcnt⟩ := Gs.kids ft (some nodes.length) hy2
        have hE9 := hE.mono st9.same
        obtain ⟨qs9, eS9, eq9, hq9⟩ := st9.st
        have hx8 := G.long x (List.mem_of_getElem? fr.at_)
        have hkl : kd.length = x.right.length := by
          have := Gs.cuts_len hkc
          rwa [List.length_map] at this
        refine ⟨.ref S, rfl, tyL eS9, .ref e, rfl, vN r, rfl, vN yi, rfl, vN ym, rfl, e, g, ws, L, Pt, Rt, r, yi, ym, x, kd.map Pend.cut, rfl, hE9, hG, GG, G, hw, hy2, fr.at_, hkc, fun H10 c s10 hc ⟨cs10, ec10, hc10, hck10⟩ => ⟨c, _, rfl, sqL ec10, fun rv hrv => ⟨rv, rfl, ⟨_, sqL upd_same⟩, fun D hD => ?_⟩⟩⟩
        have hcl10 : cs10.length = kd.length := by
          have := congrArg List.length hc10
          rwa [List.length_map, List.length_map] at this
        have s11 : Same H10 (upd H10 rv (.lst (cs10.map fun p => V.ref p.1).reverse)) := same_new hrv
        obtain ⟨H11, hH11⟩ : ∃ H11, H11 = upd H10 rv (.lst (cs10.map fun p => V.ref p.1).reverse) := ⟨_, rfl⟩
        have erv : H11 rv = some (.lst (cs10.map fun p => V.ref p.1).reverse) := by rw [hH11, upd_same]
        rw [← hH11] at s11 hD ⊢
        have hlr : (cs10.map fun p => V.ref p.1).reverse.length = kd.length := by rw [List.length_reverse, List.length_map, hcl10]
        refine lc_list (xs := (cs10.map fun p => V.ref p.1).reverse) (fun k H' => Same H11 H' ∧ ∃ ds : List (Addr × Pend), H' D = some (.lst (ds.map fun q => V.ref q.1).reverse) ∧ ds.map (·.2) = kd.drop (kd.length - k) ∧ ∀ q ∈ ds, PendAt H' q.1 q.2)
          ⟨same_new hD, [], upd_same, by rw [Nat.sub_zero, List.drop_length]; rfl, fun q hq => by cases hq⟩ (fun k H' _ ⟨s12, _⟩ => sqL (s12 _ _ erv)) (fun k v H' hv ⟨s12, ds, eD, hds, hdk⟩ => ?_) (fun H' ⟨s12, ds, eD, hds, hdk⟩ => ?_)
        · have hkk : k < kd.length := by
            have := (List.getElem?_eq_some_iff.mp hv).1
            rwa [hlr] at this
          have hv2 : (cs10.map fun p => V.ref p.1)[kd.length - 1 - k]? = some v := by
            rw [List.getElem?_reverse (by rw [List.length_map, hcl10]; exact hkk), List.length_map, hcl10] at hv
            exact hv
          obtain ⟨⟨tc, cc⟩, hcc, rfl⟩ := get_map hv2
          obtain ⟨kid, hkid⟩ : ∃ kid, kd[kd.length - 1 - k]? = some kid := ⟨_, List.getElem?_eq_getElem (by omega)⟩
          have ecc : cc = kid.cut := by
            have e1 : (cs10.map (·.2))[kd.length - 1 - k]? = some cc := by rw [List.getElem?_map, hcc]; rfl
            rw [hc10, List.getElem?_map, hkid] at e1
            exact (Option.some.inj e1).symm
          subst ecc
          have htc : CutAt H' tc kid.cut := s12 _ _ (s11 _ _ (hck10 _ (List.mem_of_getElem? hcc)))
          have hkar : kid.ar = some nodes.length := (hkd kid (List.mem_of_getElem? hkid)).2.1
          refine ⟨tc, _, rfl, sqT htc, rfl, vN kid.s.number, _, rfl, vN kid.i, _, rfl, vN kid.m, _, rfl, rfl, rfl, ?_⟩
          refine turn_yes ?_
          refine ⟨vN kid.s.number, rfl, vN kid.i, rfl, vN kid.m, rfl, V.int (((nodes.length + 1 : Nat) : Int) - 1), rfl, line_le (by show 4 ≤ _; decide), ?_⟩
          intro t3 ht3
          have dl : ds.length ≤ kd.length := by
            have := congrArg List.length hds
            rw [List.length_map, List.length_drop] at this
            omega
          have s13 : Same H' (upd H' t3 (.tup [vN kid.s.number, vN kid.i, vN kid.m, V.int (((nodes.length + 1 : Nat) : Int) - 1)])) := same_new ht3
          have hDH : H11 D = none := hD
          have tD : t3 ≠ D := Ne.symm (ne_of_none eD ht3)
          refine ⟨_, s13 _ _ eD, line_lt (by rw [List.length_reverse, List.length_map]; omega), same_upd_of (s12.trans s13) hDH, (t3, kid) :: ds, by rw [upd_same, List.map_cons, List.reverse_cons], ?_, fun q hq => ?_⟩
          · rw [List.map_cons, hds, show kd.length - k = (kd.length - 1 - k) + 1 by omega, show kd.length - (k + 1) = kd.length - 1 - k by omega]
            have := List.getElem?_eq_some_iff.mp hkid
            obtain ⟨h1, h2⟩ := this
            rw [List.drop_eq_getElem_cons h1, h2]
          · rcases List.mem_cons.mp hq with z | z
            · subst z
              show upd _ D _ t3 = _
              rw [upd_ne tD, upd_same]
              show _ = some (HO.tup [vN kid.s.number, vN kid.i, vN kid.m, optV kid.ar])
              rw [hkar]
              exact congrArg (fun v => some (HO.tup [vN kid.s.number, vN kid.i, vN kid.m, v])) eown
            · have h1 := hdk q z
              have n1 : q.1 ≠ D := fun y => by
                unfold PendAt at h1
                rw [y, eD] at h1
                cases h1
              show upd _ D _ q.1 = _
              rw [upd_ne n1]
              exact s13 _ _ h1
        · rw [hlr, Nat.sub_self, List.drop_zero] at hds
          have s9 := (s10.trans s11).trans s12
          have st12 := st9.mono s9
          have dl : ds.length = kd.length := by rw [← hds, List.length_map]
          have ql : qs9.length = qs4.length := by
            have := congrArg List.length eq9
            rwa [List.length_map, List.length_map] at this
          rw [List.length_cons, List.length_map] at hpl
          refine ⟨S, D, _, _, rfl, rfl, s9 _ _ eS9, eD, line_le (by rw [List.length_reverse, List.length_reverse, List.length_map, List.length_map]; omega), ?_⟩
          have eapp : (qs9.map fun q => V.ref q.1).reverse ++ (ds.map fun q => V.ref q.1).reverse = ((ds ++ qs9).map fun q => V.ref q.1).reverse := by
            rw [List.map_append, List.reverse_append]
          rw [eapp]
          have st13 := st12.setS (qs := ds ++ qs9) fun q hq => by
            rcases List.mem_append.mp hq with z | z
            · exact hdk q z
            · exact s9 _ _ (hq9 q z)
          have epend : (ds ++ qs9).map (·.2) = kd ++ qs4.map (·.2) := by rw [List.map_append, hds, eq9]
          rw [epend] at st13
          refine ⟨row ++ [64 + r], nodes ++ [(r, yi, ym, yar)], kd ++ qs4.map (·.2), _, _, _, _, _, _, _, _, _, rfl, ?_, st13, ?_, ?_, fun y hy => ?_⟩
          · have e1 : pRows (kd ++ qs4.map (·.2)) = Nt.rowAll ks ++ pRows (qs4.map (·.2)) := by
              rw [← hkr]
              exact List.flatMap_append ..
            have e2 : pRows (⟨.part q, yi, ym, yar, .node r ks⟩ :: qs4.map (·.2)) = ((64 + r) :: Nt.rowAll ks) ++ pRows (qs4.map (·.2)) := by
              show (Tree.node r ks).row ++ pRows (qs4.map (·.2)) = _
              rw [Nt.Tree.row]
            rw [e1, e2]
            simp
          · have e1 : pRows (kd ++ qs4.map (·.2)) = Nt.rowAll ks ++ pRows (qs4.map (·.2)) := by
              rw [← hkr]
              exact List.flatMap_append ..
            have e2 : pRows (⟨.part q, yi, ym, yar, .node r ks⟩ :: qs4.map (·.2)) = ((64 + r) :: Nt.rowAll ks) ++ pRows (qs4.map (·.2)) := by
              show (Tree.node r ks).row ++ pRows (qs4.map (·.2)) = _
              rw [Nt.Tree.row]
            rw [e1, ← hrow, e2]
            simp
          · rw [← hnodes, List.length_append, Gs.pNodes_append, hkn]
            show _ = nodes ++ (Gs.nodesA nodes.length yar yi (.node r ks) ++ pNodes (nodes.length + Gs.cntT (.node r ks)) (qs4.map (·.2)))
            rw [Gs.nodesA, hkcnt]
            simp only [Gs.cntT, List.length_singleton]
            rw [← elen, show nodes.length + 1 + Gs.cntTs ks = nodes.length + (1 + Gs.cntTs ks) by omega]
            simp
          · rcases List.mem_append.mp hy with z | z
            · obtain ⟨z1, z2, z3, z4⟩ := hkd y z
              exact ⟨z1, z3, GG.kn x (List.mem_of_getElem? fr.at_) _ z4⟩
            · exact hyl y z
end
end Gw
/-! # Walks: read; the house's small defs -/
namespace Gw
open PySem PySem.Spec PyProof.Rows L2 Gr
open Nt (Sign Rule Grammar Tree)
open Gs (Ps Rs Good GoodE Nd)
section
variable {P : Program} {w : World} {K : PySem.W.Frag} {mg : Str → Option Value} {base : Heap} {a : Ad}
def TreeV (a : Ad) (H : Hp) (tv : V) (t : Option (List Nat × List Nd)) : Prop := match t with
  | none => tv = .non
  | some T => ∃ b, tv = .ref b ∧ TreeAt a H b T
theorem TreeV.mono {a : Ad} {H H' : Hp} {tv : V} {t : Option (List Nat × List Nd)} (h : TreeV a H tv t) (k : Same H H') : TreeV a H' tv t := by
  cases t with
  | none => exact h
  | some T =>
    obtain ⟨b, h1, h2⟩ := h
    exact ⟨b, h1, h2.mono k⟩
/-! ### read -/
def sp_read (P : Program) (w : World) (K : PySem.W.Frag) (a : Ad) : Sp := fun vs H Q _ => ∃ (ga gl xa : Addr) (g : Grammar) (ws : List Nat), vs = [.ref ga, .ref xa] ∧ GramAt a H ga gl g ∧ NumsL H xa ws ∧ Good g ∧ Lim g ∧ ws.length ≤ 24 ∧
  ∀ H' v, Same H H' → TreeV a H' v (Gs.readT g ws) → Q v H'
theorem ok_read (F : Fn K "read" "read" s_read a.f_read) (T : Txt K mg a) (h_Ends_init : Pr P w K mg base CX0 1 a.f_Ends_init ["self", "grammar", "text"] (sp_Ends_init P w K a)) (h_Ends_fill : Pr P w K mg base CX0 5 a.f_Ends_fill ["self"] (sp_Ends_fill P w K a)) (h_first_tree : Pr P w K mg base CX0 5 a.f_first_tree ["ends"] (sp_first_tree P w K a)) : Pr P w K mg base CX0 6 a.f_read ["grammar", "text"] (sp_read P w K a) := by
  obtain ⟨fd, F⟩ := F
  obtain ⟨fd_Ends_init, G_Ends_init, B_Ends_init, K_Ends_init⟩ := h_Ends_init
  obtain ⟨fd_Ends_fill, G_Ends_fill, B_Ends_fill, K_Ends_fill⟩ := h_Ends_fill
  obtain ⟨fd_first_tree, G_first_tree, B_first_tree, K_first_tree⟩ := h_first_tree
  refine ⟨fd, F.ok sc_read (fun vs H Q E h => ?_) (fun cdv A outer s H vs Q E hr h => ?_), F.binds (ps := ["grammar", "text"]) fun _ _ _ _ _ _ us hl => match us, hl with | [_, _], _ => rfl, F.kp⟩
  · obtain ⟨ga, gl, xa, g, ws, rfl, _⟩ := h
    rfl
  · obtain ⟨ga, gl, xa, g, ws, rfl, hg, hx, GG, G, hw, q⟩ := h
    refine ⟨_, (pss_cons (ps_set (i := 2) sc_read.nd rfl (Or.inl rfl) (pe_make T.mk_Ends G_Ends_init (hr.mono (by decide)) (by rfl) T.g_Ends B_Ends_init .nil pass0 (pa_cons (pv 0) (pa_cons (pv 1) pa_nil))))
      (pss_cons (ps_expr (pe_meth0 (pv 2) T.c_Ends T.m_Ends_fill G_Ends_fill (hr.mono (by decide)) B_Ends_fill .nil pass0))
      (pss_one (ps_ret (pe_call G_first_tree (hr.mono (by decide)) (by rfl) T.g_first_tree K_first_tree B_first_tree .nil pass0 (pa_cons (pv 2) pa_nil)))))), ?_⟩
    refine ⟨.ref ga, rfl, .ref xa, rfl, fun e dx he hdx ndx => ?_⟩
    have s1 : Same H (upd (upd H dx (.own e)) e (.ins a.c_Ends dx [])) := fun b o hb => by
      rw [upd_ne (ne_of_none hb he), upd_ne (ne_of_none hb hdx)]
      exact hb
    refine ⟨e, dx, ga, gl, xa, g, ws, rfl, upd_same, hg.mono s1, s1 _ _ hx, G, hw, fun H2 L _ _ _ hE2 hfr kp => ⟨rfl, ?_⟩⟩
    have s2 : Same H H2 := fun b o hb => kp b o (ne_of_none hb he) (s1 _ _ hb)
    refine ⟨.ref e, rfl, e, _, _, rfl, hE2.st.ins, rfl, e, g, ws, L, rfl, hE2, GG, G, hw, fun H3 Pt Rt hE3 hG k3 => ?_⟩
    have s3 : Same H H3 := fun b o hb => k3 b o (s2 _ _ hb) fun z => by
      have := hfr b z
      rw [s1 _ _ hb] at this
      cases this
    exact ⟨_, rfl, e, g, ws, L, Pt, Rt, rfl, hE3, hG, GG, G, hw, fun hn H4 s4 => q H4 .non (s3.trans s4) (by rw [hn]; rfl), fun Tr hT h1 h2 H4 p s4 hp hTr => q H4 (.ref p) (s3.trans s4) (by rw [hT]; exact ⟨p, rfl, hTr⟩)⟩
end
end Gw
/-! # How a house lies in the heap; its small defs -/
namespace Gw
open PySem PySem.Spec PyProof.Rows L2 Gr
open Nt (Sign Rule Grammar Tree)
open Gs (Nd Wd HM NRule)
theorem lim_of {g : Grammar} (h : Gs.LimG g) : Lim g := ⟨h.words, h.parts, h.rules, h.long⟩
def WdAt (H : Hp) (t : Addr) (x : Wd) : Prop := H t = some (.tup [vN x.1, vN x.2])
abbrev TextAt : Hp → Addr → List Wd → Prop := LA WdAt
abbrev TextsAt : Hp → Addr → List (List Wd) → Prop := LA TextAt
theorem TextAt.mono {H H' : Hp} {b : Addr} {t : List Wd} (h : TextAt H b t) (k : Same H H') : TextAt H' b t := LA.mono h k fun _ _ e => k _ _ e
theorem TextsAt.mono {H H' : Hp} {b : Addr} {t : List (List Wd)} (h : TextsAt H b t) (k : Same H H') : TextsAt H' b t := LA.mono h k fun _ _ e => TextAt.mono e k
def marksK (l : List (Nat × Nat)) : List (L2.Key × V) := l.map fun x => (Sum.inl ((x.1 : Nat) : Int), vN x.2)
/-- a house's fields -/
structure HF where
  ga : Addr
  ta : Addr
  nx : Nat
  nm : Addr
  mr : Addr
  ea : Addr
  la : Addr
  tv : V
  oa : Addr
def HF.f (F : HF) : List (Str × V) := [("grammar", .ref F.ga), ("text", .ref F.ta), ("next_word", vN F.nx), ("names", .ref F.nm), ("marks", .ref F.mr), ("elder", .ref F.ea), ("later", .ref F.la), ("tree", F.tv), ("order", .ref F.oa)]
/-- what the fields of a house at p hold -/
structure HIn (P : Program) (w : World) (a : Ad) (H : Hp) (F : HF) (m : HM) : Prop where
  gram : ∃ gl, GramAt a H F.ga gl m.g
  text : TextAt H F.ta m.text
  next : F.nx = m.next
  names : NamesAt P w H F.nm m.names
  marks : H F.mr = some (.dK (marksK m.marks))
  elder : TextsAt H F.ea m.elder
  later : TextsAt H F.la m.later
  tree : TreeV a H F.tv m.tree
  order : NumsL H F.oa m.order
def HouseAt (P : Program) (w : World) (a : Ad) (H : Hp) (p nm mk : Addr) (m : HM) : Prop := ∃ dx F, H p = some (.ins a.c_House dx (HF.f F)) ∧ F.nm = nm ∧ F.mr = mk ∧ HIn P w a H F m
/-- what a house's deeds change -/
def SH (p nm mk : Addr) : Addr → Prop := fun b => b = p ∨ b = nm ∨ b = mk
/-- all else stands, and nothing is lost -/
structure KH (p nm mk : Addr) (H H' : Hp) : Prop where
  kp : Kp (SH p nm mk) H H'
  dom : ∀ b, H' b = none → H b = none
theorem KH.of {p nm mk : Addr} {H H' : Hp} (s : Same H H') : KH p nm mk H H' := ⟨Kp.of s, fun _ h => none_of_same s h⟩
theorem KH.trans {p nm mk : Addr} {H H1 H2 : Hp} (h : KH p nm mk H H1) (h' : KH p nm mk H1 H2) : KH p nm mk H H2 := ⟨h.kp.trans h'.kp, fun b z => h.dom b (h'.dom b z)⟩
theorem KH.refl (p nm mk : Addr) (H : Hp) : KH p nm mk H H := ⟨Kp.refl _ H, fun _ h => h⟩
theorem KH.ofp {p nm mk : Addr} {H H' : Hp} {o' : HO} (k : ∀ b o, b ≠ p → H b = some o → H' b = some o) (hp : H' p = some o') : KH p nm mk H H' := ⟨fun b o hb n => k b o (fun z => n (.inl z)) hb, fun b h => by
  by_cases c : b = p
  · rw [c, hp] at h
    cases h
  · cases z : H b with
    | none => rfl
    | some o =>
      rw [k b o c z] at h
      cases h⟩
section
variable {P : Program} {w : World} {K : PySem.W.Frag} {mg : Str → Option Value} {base : Heap} {a : Ad}
/-- kept: lists, tuples and objects with few fields, and what is named -/
def KeepH (p : Addr) (H H' : Hp) : Prop := ∀ b o, H b = some o → b ≠ p → (∀ q, o ≠ .ext q) → (∀ k, o ≠ .dK k) → H' b = some o
theorem Kp.keepH {P : Program} {w : World} {H H' : Hp} {p nm mk : Addr} {ks : List NKey} {kv : List (L2.Key × V)} (hn : NamesAt P w H nm ks) (hm : H mk = some (.dK kv)) (k : Kp (SH p nm mk) H H') : KeepH p H H' := fun b o hb h1 h2 h3 => k b o hb fun z => by
  rcases z with z | z | z
  · exact h1 z
  · obtain ⟨xs, e, _⟩ := hn
    rw [z, e] at hb
    exact h2 _ (Option.some.inj hb).symm
  · rw [z, hm] at hb
    exact h3 _ (Option.some.inj hb).symm
theorem LA.keepH {α : Type} {R : Hp → Addr → α → Prop} {H H' : Hp} {p b : Addr} {dx C : Addr} {fs : List (Str × V)} {xs : List α} (hp : H p = some (.ins C dx fs)) (k : KeepH p H H') (h : LA R H b xs) (r : ∀ c x, R H c x → R H' c x) : LA R H' b xs := by
  obtain ⟨ps, h1, h2, h3⟩ := h
  exact ⟨ps, k _ _ h1 (fun z => by rw [z, hp] at h1; cases h1) (fun _ z => by cases z) (fun _ z => by cases z), h2, fun q hq => r _ _ (h3 q hq)⟩
section
variable {H H' : Hp} {p : Addr} {C dx : Addr} {fs : List (Str × V)}
theorem KeepH.tup (k : KeepH p H H') (hp : H p = some (.ins C dx fs)) {b : Addr} {xs : List V} (h : H b = some (.tup xs)) : H' b = some (.tup xs) := k _ _ h (fun z => by rw [z, hp] at h; cases h) (fun _ z => by cases z) (fun _ z => by cases z)
theorem KeepH.lst (k : KeepH p H H') (hp : H p = some (.ins C dx fs)) {b : Addr} {xs : List V} (h : H b = some (.lst xs)) : H' b = some (.lst xs) := k _ _ h (fun z => by rw [z, hp] at h; cases h) (fun _ z => by cases z) (fun _ z => by cases z)
theorem KeepH.ins (k : KeepH p H H') (hp : H p = some (.ins C dx fs)) {b C' dx' : Addr} {fs' : List (Str × V)} (h : H b = some (.ins C' dx' fs')) (n : fs'.length ≠ fs.length) : H' b = some (.ins C' dx' fs') :=
  k _ _ h (fun z => by
    rw [z, hp] at h
    injection h with h
    injection h with _ _ h
    exact n (by rw [h])) (fun _ z => by cases z) (fun _ z => by cases z)
theorem KeepH.text (k : KeepH p H H') (hp : H p = some (.ins C dx fs)) {b : Addr} {t : List Wd} (h : TextAt H b t) : TextAt H' b t := LA.keepH hp k h fun _ _ e => k.tup hp e
theorem KeepH.texts (k : KeepH p H H') (hp : H p = some (.ins C dx fs)) {b : Addr} {t : List (List Wd)} (h : TextsAt H b t) : TextsAt H' b t := LA.keepH hp k h fun _ _ e => k.text hp e
theorem KeepH.gram (k : KeepH p H H') (hp : H p = some (.ins C dx fs)) (hf : fs.length = 9) {b gl : Addr} {g : Grammar} (h : GramAt a H b gl g) : GramAt a H' b gl g := by
  obtain ⟨⟨dx', h1⟩, h2⟩ := h
  refine ⟨⟨dx', k.ins hp h1 (by rw [hf]; show 3 ≠ 9; decide)⟩, LA.keepH hp k h2 fun c x e => KeyAt.mono e fun b xs z => k.tup hp z⟩
theorem KeepH.tree (k : KeepH p H H') (hp : H p = some (.ins C dx fs)) (hf : fs.length = 9) {tv : V} {t : Option (List Nat × List Nd)} (h : TreeV a H tv t) : TreeV a H' tv t := by
  cases t with
  | none => exact h
  | some T =>
    obtain ⟨b, h1, dx', l, n, h2, h3, h4⟩ := h
    exact ⟨b, h1, dx', l, n, k.ins hp h2 (by rw [hf]; show 2 ≠ 9; decide), k.lst hp h3, LA.keepH hp k h4 fun _ _ e => k.tup hp e⟩
end
theorem KeepH.of {H H' : Hp} {p : Addr} (h : Same H H') : KeepH p H H' := fun b o hb _ _ _ => h b o hb
theorem KeepH.trans {H H1 H2 : Hp} {p : Addr} (h : KeepH p H H1) (h' : KeepH p H1 H2) : KeepH p H H2 := fun b o hb n1 n2 n3 => h' b o (h b o hb n1 n2 n3) n1 n2 n3
/-- a house behind a change of other things -/
theorem HIn.mono {H H' : Hp} {F : HF} {m : HM} (h : HIn P w a H F m) (k : Same H H') : HIn P w a H' F m :=
  ⟨h.gram.imp fun _ z => z.mono k, TextAt.mono h.text k, h.next, h.names.mono (fun o z => k _ _ z) fun b xs z => k _ _ z, k _ _ h.marks, TextsAt.mono h.elder k, TextsAt.mono h.later k, h.tree.mono k, k _ _ h.order⟩
theorem HouseAt.mono {H H' : Hp} {p nm mk : Addr} {m : HM} (h : HouseAt P w a H p nm mk m) (k : Same H H') : HouseAt P w a H' p nm mk m := by
  obtain ⟨dx, F, h1, h2, h3, h4⟩ := h
  exact ⟨dx, F, k _ _ h1, h2, h3, h4.mono k⟩
/-! ### stretch_told -/
def sp_stretch_told (P : Program) (w : World) (K : PySem.W.Frag) (a : Ad) : Sp := fun vs H Q _ => ∃ (t : Addr) (x : Nd), vs = [.ref t] ∧ NdAt H t x ∧ x.2.1 ≤ x.2.2.1 ∧ ∀ H' l, Same H H' → NumsL H' l [x.2.1, x.2.2.1 - x.2.1] → Q (.ref l) H'
theorem ok_stretch_told (F : Fn K "stretch_told" "stretch_told" s_stretch_told a.f_stretch_told) (T : Txt K mg a)  : Pr P w K mg base CX0 1 a.f_stretch_told ["node"] (sp_stretch_told P w K a) := by
  obtain ⟨fd, F⟩ := F
  refine ⟨fd, F.ok sc_stretch_told (fun vs H Q E h => ?_) (fun cdv A outer s H vs Q E hr h => ?_), F.binds (ps := ["node"]) fun _ _ _ _ _ _ us hl => match us, hl with | [_], _ => rfl, F.kp⟩
  · obtain ⟨t, x, rfl, _⟩ := h
    rfl
  · obtain ⟨t, x, rfl, hx, hle, q⟩ := h
    refine ⟨_, (pss_cons (ps_asg (pv 0) (pg_tup (by rfl) (pgs_cons (pg_name (i := 1) sc_stretch_told.nd rfl (Or.inl rfl)) (pgs_cons (pg_name (i := 2) sc_stretch_told.nd rfl (Or.inl rfl)) (pgs_cons (pg_name (i := 3) sc_stretch_told.nd rfl (Or.inl rfl)) (pgs_cons (pg_name (i := 4) sc_stretch_told.nd rfl (Or.inl rfl)) pgs_nil))))))
      (pss_one (ps_ret (pe_lst (pa_cons (pv 2) (pa_cons (pe_op op_sub (pv 3) (pv 2)) pa_nil)))))), ?_⟩
    refine ⟨.ref t, rfl, t, _, rfl, sqT hx, rfl, vN x.1, _, rfl, vN x.2.1, _, rfl, vN x.2.2.1, _, rfl, optV x.2.2.2, _, rfl, rfl, ?_⟩
    refine ⟨vN x.2.1, rfl, vN x.2.2.1, rfl, vN x.2.1, rfl, (x.2.2.1 : Int), (x.2.1 : Int), rfl, rfl, line_le (by show 2 ≤ _; decide), ?_⟩
    intro l hl
    refine q _ l (same_new hl) ?_
    unfold NumsL
    rw [upd_same]
    show _ = some (HO.lst [vN x.2.1, V.int ((x.2.2.1 - x.2.1 : Nat) : Int)])
    rw [show ((x.2.2.1 - x.2.1 : Nat) : Int) = (x.2.2.1 : Int) - (x.2.1 : Int) by omega]
/-! ### House.__init__ -/
theorem fld_new {H : Hp} {p q : Addr} {o x y : HO} (hp : H p = some y) (hq : H q = none) : (∀ b z, b ≠ p → H b = some z → upd (upd H q o) p x b = some z) ∧ upd (upd H q o) p x q = some o ∧ upd (upd H q o) p x p = some x := by
  have n := ne_of_none hp hq
  refine ⟨fun b z nb hb => ?_, ?_, upd_same⟩
  · rw [upd_ne nb, upd_ne (ne_of_none hb hq)]
    exact hb
  · rw [upd_ne (Ne.symm n), upd_same]
theorem keep_up {H : Hp} {p q : Addr} {o y : HO} (hq : H q = none) (hp : H p = some y) : upd H q o p = some y := by
  rw [upd_ne (ne_of_none hp hq)]
  exact hp
theorem keeps {H : Hp} {p : Addr} {x : HO} : ∀ b z, b ≠ p → H b = some z → upd H p x b = some z := fun b z nb hb => by
  rw [upd_ne nb]
  exact hb
def sp_House_init (P : Program) (w : World) (K : PySem.W.Frag) (a : Ad) : Sp := fun vs H Q _ => ∃ (p dx ga gl : Addr) (g : Grammar), vs = [.ref p, .ref ga] ∧ H p = some (.ins a.c_House dx []) ∧ GramAt a H ga gl g ∧
  ∀ H' nm mk, HouseAt P w a H' p nm mk (HM.fresh g) → (∀ b o, b ≠ p → H b = some o → H' b = some o) → H nm = none → H mk = none → Q .non H'
theorem ok_House_init (F : Fn K "__init__" "House.__init__" s_House_init a.f_House_init) (T : Txt K mg a)  : Pr P w K mg base CX0 1 a.f_House_init ["self", "grammar"] (sp_House_init P w K a) := by
  obtain ⟨fd, F⟩ := F
  refine ⟨fd, F.ok sc_House_init (fun vs H Q E h => ?_) (fun cdv A outer s H vs Q E hr h => ?_), F.binds (ps := ["self", "grammar"]) fun _ _ _ _ _ _ us hl => match us, hl with | [_, _], _ => rfl, F.kp⟩
  · obtain ⟨p, dx, ga, gl, g, rfl, _⟩ := h
    rfl
  · obtain ⟨p, dx, ga, gl, g, rfl, hp, hg, q⟩ := h
    refine ⟨_, (pss_cons (ps_fld (pv 0) (pv 1) rfl)
      (pss_cons (ps_fld (pv 0) (pe_lst pa_nil) rfl)
      (pss_cons (ps_fld (pv 0) pe_int rfl)
      (pss_cons (ps_fld (pv 0) pe_dnewN rfl)
      (pss_cons (ps_fld (pv 0) pe_dnewK rfl)
      (pss_cons (ps_fld (pv 0) (pe_lst pa_nil) rfl)
      (pss_cons (ps_fld (pv 0) (pe_lst pa_nil) rfl)
      (pss_cons (ps_fld (pv 0) pe_non rfl)
      (pss_one (ps_fld (pv 0) (pe_lst pa_nil) rfl)))))))))), ?_⟩
    refine ⟨_, rfl, _, rfl, p, _, dx, [], rfl, hp, T.c_House, T.na_House_grammar, (by decide), ?_⟩
    have k1 := keeps (H := H) (p := p) (x := .ins a.c_House dx (putF "grammar" (V.ref ga) []))
    have p1 := upd_same (H := H) (a := p) (o := .ins a.c_House dx (putF "grammar" (V.ref ga) []))
    generalize upd H p (.ins a.c_House dx (putF "grammar" (V.ref ga) [])) = H1 at k1 p1
    -- text
    refine ⟨Nat.zero_le _, ?_⟩
    intro t ht
    refine ⟨_, rfl, p, _, dx, _, rfl, keep_up ht p1, T.c_House, T.na_House_text, (by show 1 < 1000; decide), ?_⟩
    obtain ⟨k2, e2, p2⟩ := fld_new (o := .lst []) (x := .ins a.c_House dx (putF "text" (V.ref t) (putF "grammar" (V.ref ga) []))) p1 ht
    generalize upd (upd H1 t (.lst [])) p (.ins a.c_House dx (putF "text" (V.ref t) (putF "grammar" (V.ref ga) []))) = H2 at k2 e2 p2
    have n2 : t ≠ p := Ne.symm (ne_of_none p1 ht)
    -- next_word
    refine ⟨_, rfl, p, _, dx, _, rfl, p2, T.c_House, T.na_House_next_word, (by show 2 < 1000; decide), ?_⟩
    have k3 := keeps (H := H2) (p := p) (x := .ins a.c_House dx (putF "next_word" (V.int 0) (putF "text" (V.ref t) (putF "grammar" (V.ref ga) []))))
    have p3 := upd_same (H := H2) (a := p) (o := .ins a.c_House dx (putF "next_word" (V.int 0) (putF "text" (V.ref t) (putF "grammar" (V.ref ga) []))))
    generalize upd H2 p (.ins a.c_House dx (putF "next_word" (V.int 0) (putF "text" (V.ref t) (putF "grammar" (V.ref ga) [])))) = H3 at k3 p3
    generalize hf3 : putF "next_word" (V.int 0) (putF "text" (V.ref t) (putF "grammar" (V.ref ga) [])) = f3 at p3
    -- names
    intro nm hnm hN
    generalize ho : nmO _ _ nm ([] : NEs) = o at hN ⊢
    change NamesAt P w _ _ _ at hN
    refine ⟨_, rfl, p, _, dx, _, rfl, keep_up hnm p3, T.c_House, T.na_House_names, (by rw [← hf3]; show 3 < 1000; decide), ?_⟩
    obtain ⟨k4, e4, p4⟩ := fld_new (o := o) (x := .ins a.c_House dx (putF "names" (V.ref nm) f3)) p3 hnm
    have N4 : NamesAt P w (upd (upd H3 nm o) p (.ins a.c_House dx (putF "names" (V.ref nm) f3))) nm [] := hN.mono (fun o z => by rw [upd_same] at z; rw [← z]; exact e4) fun b xs z => by
      have nb : b ≠ p := fun y => by
        rw [y, upd_ne (ne_of_none p3 hnm), p3] at z
        cases z
      rw [upd_ne nb]
      exact z
    generalize upd (upd H3 nm o) p (.ins a.c_House dx (putF "names" (V.ref nm) f3)) = H4 at k4 e4 p4 N4
    generalize hf4 : putF "names" (V.ref nm) f3 = f4 at p4
    have n4 : nm ≠ p := Ne.symm (ne_of_none p3 hnm)
    -- marks
    intro mk hmk
    refine ⟨_, rfl, p, _, dx, _, rfl, keep_up hmk p4, T.c_House, T.na_House_marks, (by rw [← hf4, ← hf3]; show 4 < 1000; decide), ?_⟩
    obtain ⟨k5, e5, p5⟩ := fld_new (o := .dK []) (x := .ins a.c_House dx (putF "marks" (V.ref mk) f4)) p4 hmk
    generalize upd (upd H4 mk (.dK [])) p (.ins a.c_House dx (putF "marks" (V.ref mk) f4)) = H5 at k5 e5 p5
    generalize hf5 : putF "marks" (V.ref mk) f4 = f5 at p5
    have n5 : mk ≠ p := Ne.symm (ne_of_none p4 hmk)
    -- elder
    refine ⟨Nat.zero_le _, ?_⟩
    intro ea hea
    refine ⟨_, rfl, p, _, dx, _, rfl, keep_up hea p5, T.c_House, T.na_House_elder, (by rw [← hf5, ← hf4, ← hf3]; show 5 < 1000; decide), ?_⟩
    obtain ⟨k6, e6, p6⟩ := fld_new (o := .lst []) (x := .ins a.c_House dx (putF "elder" (V.ref ea) f5)) p5 hea
    generalize upd (upd H5 ea (.lst [])) p (.ins a.c_House dx (putF "elder" (V.ref ea) f5)) = H6 at k6 e6 p6
    generalize hf6 : putF "elder" (V.ref ea) f5 = f6 at p6
    have n6 : ea ≠ p := Ne.symm (ne_of_none p5 hea)
    -- later
    refine ⟨Nat.zero_le _, ?_⟩
    intro la hla
    refine ⟨_, rfl, p, _, dx, _, rfl, keep_up hla p6, T.c_House, T.na_House_later, (by rw [← hf6, ← hf5, ← hf4, ← hf3]; show 6 < 1000; decide), ?_⟩
    obtain ⟨k7, e7, p7⟩ := fld_new (o := .lst []) (x := .ins a.c_House dx (putF "later" (V.ref la) f6)) p6 hla
    generalize upd (upd H6 la (.lst [])) p (.ins a.c_House dx (putF "later" (V.ref la) f6)) = H7 at k7 e7 p7
    generalize hf7 : putF "later" (V.ref la) f6 = f7 at p7
    have n7 : la ≠ p := Ne.symm (ne_of_none p6 hla)
    -- tree
    refine ⟨_, rfl, p, _, dx, _, rfl, p7, T.c_House, T.na_House_tree, (by rw [← hf7, ← hf6, ← hf5, ← hf4, ← hf3]; show 7 < 1000; decide), ?_⟩
    have k8 := keeps (H := H7) (p := p) (x := .ins a.c_House dx (putF "tree" V.non f7))
    have p8 := upd_same (H := H7) (a := p) (o := .ins a.c_House dx (putF "tree" V.non f7))
    generalize upd H7 p (.ins a.c_House dx (putF "tree" V.non f7)) = H8 at k8 p8
    generalize hf8 : putF "tree" V.non f7 = f8 at p8
    -- order
    refine ⟨Nat.zero_le _, ?_⟩
    intro oa hoa
    refine ⟨_, rfl, p, _, dx, _, rfl, keep_up hoa p8, T.c_House, T.na_House_order, (by rw [← hf8, ← hf7, ← hf6, ← hf5, ← hf4, ← hf3]; show 8 < 1000; decide), ?_⟩
    obtain ⟨k9, e9, p9⟩ := fld_new (o := .lst []) (x := .ins a.c_House dx (putF "order" (V.ref oa) f8)) p8 hoa
    generalize upd (upd H8 oa (.lst [])) p (.ins a.c_House dx (putF "order" (V.ref oa) f8)) = H9 at k9 e9 p9
    have all : ∀ b o, b ≠ p → H b = some o → H9 b = some o := fun b o nb hb => k9 _ _ nb (k8 _ _ nb (k7 _ _ nb (k6 _ _ nb (k5 _ _ nb (k4 _ _ nb (k3 _ _ nb (k2 _ _ nb (k1 _ _ nb hb))))))))
    have notp : ∀ b xs, H b = some (.tup xs) → b ≠ p := fun b xs z y => by rw [y, hp] at z; cases z
    have notp4 : ∀ b xs, H4 b = some (.tup xs) → b ≠ p := fun b xs z y => by rw [y, p4] at z; cases z
    obtain ⟨⟨dxg, hga⟩, ps, hl, hps, hk⟩ := hg
    have free : ∀ b, b ≠ p → H9 b = none → H b = none := fun b nb hb => by
      cases z : H b with
      | none => rfl
      | some o => rw [all b o nb z] at hb; cases hb
    refine q H9 nm mk ⟨dx, ⟨ga, t, 0, nm, mk, ea, la, .non, oa⟩, ?_, rfl, rfl, ⟨⟨gl, ⟨dxg, all _ _ (fun z => ?_) hga⟩, ps, all _ _ (fun z => ?_) hl, hps, fun x hx => KeyAt.mono (hk x hx) fun b xs z => all _ _ (notp b xs z) z⟩, ?_, rfl, ?_, ?_, ?_, ?_, rfl, e9⟩⟩ all ?_ ?_
    · rw [p9, ← hf8, ← hf7, ← hf6, ← hf5, ← hf4, ← hf3]
      rfl
    · have z : ga = p := z
      rw [z, hp] at hga
      injection hga with hga
      injection hga with _ _ hga
      cases hga
    · have z : gl = p := z
      rw [z, hp] at hl
      cases hl
    · exact LA.nil (k9 _ _ n2 (k8 _ _ n2 (k7 _ _ n2 (k6 _ _ n2 (k5 _ _ n2 (k4 _ _ n2 (k3 _ _ n2 e2)))))))
    · refine N4.mono (fun o z => k9 _ _ n4 (k8 _ _ n4 (k7 _ _ n4 (k6 _ _ n4 (k5 _ _ n4 z))))) fun b xs z => ?_
      have nb := notp4 b xs z
      exact k9 _ _ nb (k8 _ _ nb (k7 _ _ nb (k6 _ _ nb (k5 _ _ nb z))))
    · exact k9 _ _ n5 (k8 _ _ n5 (k7 _ _ n5 (k6 _ _ n5 e5)))
    · exact LA.nil (k9 _ _ n6 (k8 _ _ n6 (k7 _ _ n6 e6)))
    · exact LA.nil (k9 _ _ n7 (k8 _ _ n7 e7))
    · cases z : H nm with
      | none => rfl
      | some o =>
        rw [k3 _ _ n4 (k2 _ _ n4 (k1 _ _ n4 z))] at hnm
        cases hnm
    · cases z : H mk with
      | none => rfl
      | some o =>
        rw [k4 _ _ n5 (k3 _ _ n5 (k2 _ _ n5 (k1 _ _ n5 z)))] at hmk
        cases hmk
end
end Gw
/-! # Walks: a text is taken -/
namespace Gw
open PySem PySem.Spec PyProof.Rows L2 Gr
open Nt (Sign Rule Grammar Tree)
open Gs (Nd Wd HM NRule)
section
variable {P : Program} {w : World} {K : PySem.W.Frag} {mg : Str → Option Value} {base : Heap} {a : Ad}
/-! ### key_of -/
def sp_House_key_of (P : Program) (w : World) (K : PySem.W.Frag) (a : Ad) : Sp := fun vs H Q _ => ∃ (p dx : Addr) (F : HF) (nd : Addr) (x : Nd) (text : List Wd), vs = [.ref p, .ref nd] ∧ H p = some (.ins a.c_House dx (HF.f F)) ∧ TextAt H F.ta text ∧ text.length ≤ 24 ∧ NdAt H nd x ∧
  ∀ H' k, Same H H' → KeyAt H' (Gs.keyOf text x) k → Q (.ref k) H'
theorem ok_House_key_of (F : Fn K "key_of" "House.key_of" s_House_key_of a.f_House_key_of) (T : Txt K mg a)  : Pr P w K mg base CX0 1 a.f_House_key_of ["self", "node"] (sp_House_key_of P w K a) := by
  obtain ⟨fd, F⟩ := F
  refine ⟨fd, F.ok sc_House_key_of (fun vs H Q E h => ?_) (fun cdv A outer s H vs Q E hr h => ?_), F.binds (ps := ["self", "node"]) fun _ _ _ _ _ _ us hl => match us, hl with | [_, _], _ => rfl, F.kp⟩
  · obtain ⟨p, dx, F, nd, x, text, rfl, _⟩ := h
    rfl
  · obtain ⟨p, dx, F, nd, x, text, rfl, hp, ⟨ps, ht, hps, hk⟩, hlen, hx, q⟩ := h
    refine ⟨_, (pss_cons (ps_asg (pv 1) (pg_tup (by rfl) (pgs_cons (pg_name (i := 2) sc_House_key_of.nd rfl (Or.inl rfl)) (pgs_cons (pg_name (i := 3) sc_House_key_of.nd rfl (Or.inl rfl)) (pgs_cons (pg_name (i := 4) sc_House_key_of.nd rfl (Or.inl rfl)) (pgs_cons (pg_name (i := 5) sc_House_key_of.nd rfl (Or.inl rfl)) pgs_nil))))))
      (pss_one (ps_ret (pe_tup (pa_cons (pv 2) (pa_cons (pe_callTy call_tuple_of (by rfl) T.n_tuple (by decide +kernel) (pa_cons (pe_lc (own := [("name", 6), ("word", 7)]) rfl sc_House_key_of.nd (pi_list (pe_slice sl_list (pe_fld (pv 0) rfl) (po_some (pv 3)) (po_some (pv 4)))) (blkOk_by (N := ["self", "node", "rule", "begin", "end", "around", "name", "word"]) (sc := defScope s_House_key_of) (by decide +kernel)) (fun _ _ _ _ _ => (pg_tupK (K := K) (n := 2) rfl (by rfl) (pgs_cons (pg_name (i := 6) sc_House_key_of.nd rfl (Or.inl rfl)) (pgs_cons (pg_name (i := 7) sc_House_key_of.nd rfl (Or.inl rfl)) pgs_nil)))) (fun _ _ _ _ _ => pts_nil) (fun _ _ _ _ _ => (pv 6))) pa_nil)) pa_nil)))))), ?_⟩
    refine ⟨.ref nd, rfl, nd, _, rfl, sqT hx, rfl, vN x.1, _, rfl, vN x.2.1, _, rfl, vN x.2.2.1, _, rfl, optV x.2.2.2, _, rfl, rfl, ?_⟩
    refine ⟨vN x.1, rfl, .ref p, rfl, p, _, _, _, .ref F.ta, rfl, hp, T.c_House, T.na_House_text, rfl, vN x.2.1, rfl, (x.2.1 : Int), rfl, vN x.2.2.1, rfl, (x.2.2.1 : Int), rfl, F.ta, _, rfl, sqL ht, fun l hl => ⟨l, rfl, ⟨_, sqL upd_same⟩, fun D hD => ?_⟩⟩
    rw [cut_mid, ← List.map_drop, ← List.map_take]
    have s1 : Same H (upd H l (.lst (((ps.drop x.2.1).take (x.2.2.1 - x.2.1)).map fun q => V.ref q.1))) := same_new hl
    rw [cut_mid, ← List.map_drop, ← List.map_take] at hD
    have e1 : upd H l (.lst (((ps.drop x.2.1).take (x.2.2.1 - x.2.1)).map fun q => V.ref q.1)) l = _ := upd_same
    generalize upd H l (.lst (((ps.drop x.2.1).take (x.2.2.1 - x.2.1)).map fun q => V.ref q.1)) = H1 at s1 e1 hD ⊢
    have hsub : ∀ q ∈ (ps.drop x.2.1).take (x.2.2.1 - x.2.1), WdAt H1 q.1 q.2 := fun q hq => s1 _ _ (hk q (List.mem_of_mem_drop (List.mem_of_mem_take hq)))
    have hname : (Gs.keyOf text x).2 = ((ps.drop x.2.1).take (x.2.2.1 - x.2.1)).map fun q => q.2.1 := by
      show ((text.drop x.2.1).take (x.2.2.1 - x.2.1)).map (·.1) = _
      rw [← hps, ← List.map_drop, ← List.map_take, List.map_map]
      rfl
    have hfew : ((ps.drop x.2.1).take (x.2.2.1 - x.2.1)).length ≤ 24 := by
      have h1 := congrArg List.length hps
      rw [List.length_map] at h1
      rw [List.length_take, List.length_drop]
      omega
    generalize hsb : (ps.drop x.2.1).take (x.2.2.1 - x.2.1) = sub at e1 hsub hname hfew
    refine lc_list (xs := sub.map fun q => V.ref q.1) (fun k H' => Same H1 H' ∧ NumsL H' D ((sub.take k).map fun q => q.2.1)) ⟨same_new hD, upd_same⟩ (fun k H' _ ⟨s2, _⟩ => sqL (s2 _ _ e1)) (fun k v H' hv ⟨s2, eD⟩ => ?_) (fun H' ⟨s2, eD⟩ => ?_)
    · obtain ⟨⟨t, y⟩, hy, rfl⟩ := get_map hv
      have hty := s2 _ _ (hsub _ (List.mem_of_getElem? hy))
      refine ⟨t, _, rfl, sqT hty, rfl, vN y.1, _, rfl, vN y.2, _, rfl, rfl, rfl, ?_⟩
      refine turn_yes ?_
      refine ⟨vN y.1, rfl, _, eD, ?_, ?_, ?_⟩
      · refine line_lt ?_
        rw [List.length_map, List.length_map, List.length_take]
        omega
      · exact same_upd_of s2 hD
      · unfold NumsL
        rw [upd_same, take_one hy]
        simp
    · rw [List.length_map, List.take_length, ← hname] at eD
      refine ⟨D, _, rfl, .inl ⟨sqL eD, fun b hb => ⟨line_le (by show 2 ≤ _; decide), ?_⟩⟩⟩
      intro k hk'
      have s3 : Same H' (upd H' b (.tup ((Gs.keyOf text x).2.map vN))) := same_new hb
      refine q _ k (((s1.trans s2).trans s3).trans (same_new hk')) ⟨b, upd_same, ?_⟩
      rw [upd_ne (ne_of_none upd_same hk'), upd_same]
/-! ### take -/
theorem setd_both {B : Hp → Prop} {H3 : Hp} {d : Addr} {ks : List NKey} {k : NKey} (h : ∀ H4, NamesAt P w H4 d (Gs.addKey ks k) → (∀ b, b ≠ d → H4 b = H3 b) → B H4) (hN : NamesAt P w H3 d ks) :
    (k ∈ ks → ∀ i : Int, B H3) ∧ (k ∉ ks → ∀ o, NamesAt P w (upd H3 d o) d (ks ++ [k]) → B (upd H3 d o)) := by
  refine ⟨fun hk i => h _ ?_ fun _ _ => rfl, fun hk o ho => h _ ?_ fun b nb => upd_ne nb⟩
  · unfold Gs.addKey
    rw [if_pos hk]
    exact hN
  · unfold Gs.addKey
    rw [if_neg hk]
    exact ho
theorem _root_.Gr.NamesAt.not_lst {H : Hp} {d b : Addr} {ks : List NKey} {o : HO} (h : NamesAt P w H d ks) (hb : H b = some o) (ho : ∀ q, o ≠ .ext q) : b ≠ d := fun z => by
  obtain ⟨xs, e, _⟩ := h
  rw [z, e] at hb
  exact ho _ (Option.some.inj hb).symm
def sp_House_take (P : Program) (w : World) (K : PySem.W.Frag) (a : Ad) : Sp := fun vs H Q _ => ∃ (p nm mk tb : Addr) (m : HM) (text : List Wd), vs = [.ref p, .ref tb] ∧ HouseAt P w a H p nm mk m ∧ TextAt H tb text ∧ Gs.Good m.g ∧ Gs.LimG m.g ∧ text.length ≤ 24 ∧ m.names.length ≤ 900000 ∧
  ∀ H', HouseAt P w a H' p nm mk (m.take text) → KH p nm mk H H' → Q .non H'
theorem ok_House_take (F : Fn K "take" "House.take" s_House_take a.f_House_take) (T : Txt K mg a) (h_read : Pr P w K mg base CX0 6 a.f_read ["grammar", "text"] (sp_read P w K a)) (h_House_key_of : Pr P w K mg base CX0 1 a.f_House_key_of ["self", "node"] (sp_House_key_of P w K a)) : Pr P w K mg base CX0 7 a.f_House_take ["self", "text"] (sp_House_take P w K a) := by
  obtain ⟨fd, F⟩ := F
  obtain ⟨fd_read, G_read, B_read, K_read⟩ := h_read
  obtain ⟨fd_House_key_of, G_House_key_of, B_House_key_of, K_House_key_of⟩ := h_House_key_of
  refine ⟨fd, F.ok sc_House_take (fun vs H Q E h => ?_) (fun cdv A outer s H vs Q E hr h => ?_), F.binds (ps := ["self", "text"]) fun _ _ _ _ _ _ us hl => match us, hl with | [_, _], _ => rfl, F.kp⟩
  · obtain ⟨p, nm, mk, tb, m, text, rfl, _⟩ := h
    rfl
  · obtain ⟨p, nm, mk, tb, m, text, rfl, ⟨dx, F, hp, rfl, rfl, hin⟩, ht, GG, G, hlen, hnl, q⟩ := h
    refine ⟨_, (pss_cons (ps_fld (pv 0) (pv 1) rfl)
      (pss_cons (ps_fld (pv 0) (pe_call G_read (hr.mono (by decide)) (by rfl) T.g_read K_read B_read .nil pass0 (pa_cons (pe_fld (pv 0) rfl) (pa_cons (pe_lc (own := [("name", 4), ("word", 5)]) rfl sc_House_take.nd (pi_list (pv 1)) (blkOk_by (N := ["self", "text", "node", "key", "name", "word"]) (sc := defScope s_House_take) (by decide +kernel)) (fun _ _ _ _ _ => (pg_tupK (K := K) (n := 2) rfl (by rfl) (pgs_cons (pg_name (i := 4) sc_House_take.nd rfl (Or.inl rfl)) (pgs_cons (pg_name (i := 5) sc_House_take.nd rfl (Or.inl rfl)) pgs_nil)))) (fun _ _ _ _ _ => pts_nil) (fun _ _ _ _ _ => (pv 5))) pa_nil))) rfl)
      (pss_cons (ps_fld (pv 0) (pe_lst pa_nil) rfl)
      (pss_one (ps_if (pt_cmpR op_notN (pe_fld (pv 0) rfl) pe_non (nomark _)) (pss_one (ps_for PassesOwn.never rfl (pi_list (pe_fld (pe_fld (pv 0) rfl) rfl)) (pg_name (i := 2) sc_House_take.nd rfl (Or.inl rfl)) (pss_cons (ps_set (i := 3) sc_House_take.nd rfl (Or.inl rfl) (pe_meth (pv 0) T.c_House T.m_House_key_of G_House_key_of (hr.mono (by decide)) B_House_key_of .nil pass0 (pa_cons (pv 2) pa_nil)))
      (pss_cons (ps_expr (pe_setdN (huN 9 hr) (pe_fld (pv 0) rfl) (pv 3) (pe_callB call_lenN (by rfl) T.n_len PySem.boot_len (pa_cons (pe_fld (pv 0) rfl) pa_nil)) ⟨rfl, rfl, rfl, rfl⟩))
      (pss_one (ps_expr (pe_bm PySem.F.plainAttrs_list PySem.F.slot_list_append PySem.F.type_list_append mt_append (pe_fld (pv 0) rfl) (pa_cons (pe_getN (huN 9 hr) (pe_fld (pv 0) rfl) (pv 3) (fun _ _ => rfl)) pa_nil)))))))) pss_nil))))), ?_⟩
    obtain ⟨gl, hgr⟩ := hin.gram
    have hlw : (text.map (·.2)).length = text.length := List.length_map ..
    -- self.text = text
    refine ⟨_, rfl, _, rfl, p, _, dx, HF.f F, rfl, hp, T.c_House, T.na_House_text, (by show 9 < 1000; decide), ?_⟩
    obtain ⟨H1, hH1⟩ : ∃ H1, H1 = upd H p (.ins a.c_House dx (HF.f { F with ta := tb })) := ⟨_, rfl⟩
    show tSeq _ _ _ _ (upd H p (.ins a.c_House dx (HF.f { F with ta := tb })))
    rw [← hH1]
    have k1 : KeepH p H H1 := fun b o hb nb _ _ => by rw [hH1, upd_ne nb]; exact hb
    have p1 : H1 p = some (.ins a.c_House dx (HF.f { F with ta := tb })) := by rw [hH1, upd_same]
    have ht1 := k1.text hp ht
    obtain ⟨ps, et, hps, hk⟩ := ht1
    have hpl : ps.length = text.length := by rw [← hps, List.length_map]
    -- self.tree = read(self.grammar, [word for name, word in text])
    refine ⟨.ref p, rfl, p, _, _, _, .ref F.ga, rfl, p1, T.c_House, T.na_House_grammar, rfl, .ref tb, rfl, tb, rfl, ⟨_, sqL et⟩, fun D hD => ?_⟩
    refine lc_list (xs := ps.map fun q => V.ref q.1) (fun k H' => Same H1 H' ∧ NumsL H' D ((ps.take k).map fun q => q.2.2)) ⟨same_new hD, upd_same⟩ (fun k H' _ ⟨s2, _⟩ => sqL (s2 _ _ et)) (fun k v H' hv ⟨s2, eD⟩ => ?_) (fun H2 ⟨s2, eD⟩ => ?_)
    · obtain ⟨⟨t, y⟩, hy, rfl⟩ := get_map hv
      have hty := s2 _ _ (hk _ (List.mem_of_getElem? hy))
      refine ⟨t, _, rfl, sqT hty, rfl, vN y.1, _, rfl, vN y.2, _, rfl, rfl, rfl, ?_⟩
      refine turn_yes ?_
      refine ⟨vN y.2, rfl, _, eD, ?_, ?_, ?_⟩
      · refine line_lt ?_
        rw [List.length_map, List.length_map, List.length_take]
        omega
      · exact same_upd_of s2 hD
      · unfold NumsL
        rw [upd_same, take_one hy]
        simp
    · rw [List.length_map, List.take_length] at eD
      have ewords : ps.map (fun q => q.2.2) = text.map (·.2) := by
        rw [← hps, List.map_map]
        rfl
      rw [ewords] at eD
      have k2 : KeepH p H H2 := k1.trans (KeepH.of s2)
      have p2 := s2 _ _ p1
      refine ⟨F.ga, gl, D, m.g, text.map (·.2), rfl, k2.gram hp rfl hgr, eD, GG, lim_of G, (by rw [hlw]; exact hlen), fun H3 tv s3 hT => ?_⟩
      have few := Gs.nodes_few (w := text.map (·.2)) GG G.parts (by rw [hlw]; exact hlen)
      have p3 := s3 _ _ p2
      have k3 : KeepH p H H3 := k2.trans (KeepH.of s3)
      refine ⟨_, rfl, p, _, dx, _, rfl, p3, T.c_House, T.na_House_tree, (by show 9 < 1000; decide), ?_⟩
      obtain ⟨H4, hH4⟩ : ∃ H4, H4 = upd H3 p (.ins a.c_House dx (HF.f { F with ta := tb, tv := tv })) := ⟨_, rfl⟩
      show tSeq _ _ _ _ (upd H3 p (.ins a.c_House dx (HF.f { F with ta := tb, tv := tv })))
      rw [← hH4]
      have k34 : KeepH p H3 H4 := fun b o hb nb _ _ => by rw [hH4, upd_ne nb]; exact hb
      have p4 : H4 p = some (.ins a.c_House dx (HF.f { F with ta := tb, tv := tv })) := by rw [hH4, upd_same]
      have hT4 := k34.tree p3 rfl hT
      -- self.order = []
      refine ⟨Nat.zero_le _, ?_⟩
      intro O hO
      refine ⟨_, rfl, p, _, dx, _, rfl, keep_up hO p4, T.c_House, T.na_House_order, (by show 9 < 1000; decide), ?_⟩
      obtain ⟨F5, hF5⟩ : ∃ F5 : HF, F5 = { F with ta := tb, tv := tv, oa := O } := ⟨_, rfl⟩
      obtain ⟨H5, hH5⟩ : ∃ H5, H5 = upd (upd H4 O (.lst [])) p (.ins a.c_House dx (HF.f F5)) := ⟨_, rfl⟩
      have eg : upd (upd H4 O (.lst [])) p (.ins a.c_House dx (putF "order" (V.ref O) (HF.f { F with ta := tb, tv := tv }))) = H5 := by
        rw [hH5, hF5]
        rfl
      rw [eg]
      have nO : O ≠ p := Ne.symm (ne_of_none p4 hO)
      have k45 : KeepH p H4 H5 := fun b o hb nb _ _ => by rw [hH5, upd_ne nb, upd_ne (ne_of_none hb hO)]; exact hb
      have p5 : H5 p = some (.ins a.c_House dx (HF.f F5)) := by rw [hH5, upd_same]
      have eO5 : H5 O = some (.lst []) := by rw [hH5, upd_ne nO, upd_same]
      have k35 : KeepH p H H5 := (k3.trans k34).trans k45
      -- all but p stands
      have a15 : ∀ b o, b ≠ p → H b = some o → H5 b = some o := fun b o nb hb => by
        rw [hH5, upd_ne nb, upd_ne (ne_of_none (show H4 b = some o by rw [hH4, upd_ne nb]; exact s3 _ _ (s2 _ _ (by rw [hH1, upd_ne nb]; exact hb))) hO), hH4, upd_ne nb]
        exact s3 _ _ (s2 _ _ (by rw [hH1, upd_ne nb]; exact hb))
      have hT5 := k45.tree p4 rfl hT4
      have nnm : F.nm ≠ p := fun z => by
        obtain ⟨xs, e, _⟩ := hin.names
        rw [z, hp] at e
        cases e
      have nmr : F.mr ≠ p := fun z => by
        have e := hin.marks
        rw [z, hp] at e
        cases e
      have N5 : NamesAt P w H5 F.nm m.names := hin.names.mono (fun o z => a15 _ _ nnm z) fun b xs z => k35.tup hp z
      have HO0 : H O = none := by
        cases z : H O with
        | none => rfl
        | some o =>
          have e1 : H1 O = some o := by rw [hH1, upd_ne nO]; exact z
          have e4 : H4 O = some o := by rw [hH4, upd_ne nO]; exact s3 _ _ (s2 _ _ e1)
          rw [hO] at e4
          cases e4
      -- the end
      have fin : ∀ H' st, st = (Gs.nodesOf (Gs.readT m.g (text.map (·.2)))).foldl (Gs.takeOne text) (m.names, []) → NamesAt P w H' F.nm st.1 → NumsL H' O st.2 → (∀ b o, H5 b = some o → b ≠ F.nm → b ≠ O → H' b = some o) → Q .non H' := fun H' st hst hN hO' kk => by
        have p6 := kk _ _ p5 (Ne.symm nnm) (Ne.symm nO)
        have kH : KeepH p H H' := fun b o hb nb n1 n2 => kk _ _ (a15 b o nb hb) (hin.names.not_lst hb n1) (ne_of_none hb HO0)
        have k5H : ∀ b o, H5 b = some o → (∀ q, o ≠ .ext q) → b ≠ O → H' b = some o := fun b o hb n1 n2 => kk b o hb (N5.not_lst hb n1) n2
        have hT' : TreeV a H' tv (Gs.readT m.g (text.map (·.2))) := by
          cases e : Gs.readT m.g (text.map (·.2)) with
          | none =>
            rw [e] at hT5
            exact hT5
          | some Tr =>
            rw [e] at hT4
            obtain ⟨b, h1, dx', l, n, h2, h3, h4⟩ := hT4
            have t45 : ∀ b o, H4 b = some o → (∀ q, o ≠ .ext q) → b ≠ p → H' b = some o := fun b o hb n1 nb => k5H _ _ (by rw [hH5, upd_ne nb, upd_ne (ne_of_none hb hO)]; exact hb) n1 (ne_of_none hb hO)
            refine ⟨b, h1, dx', l, n, t45 _ _ h2 (fun _ z => by cases z) (fun z => ?_), t45 _ _ h3 (fun _ z => by cases z) (fun z => ?_), ?_⟩
            · rw [z, p4] at h2
              injection h2 with h2
              injection h2 with _ _ h2
              cases h2
            · unfold NumsL at h3
              rw [z, p4] at h3
              cases h3
            · obtain ⟨ns, g1, g2, g3⟩ := h4
              refine ⟨ns, t45 _ _ g1 (fun _ z => by cases z) (fun z => ?_), g2, fun y hy => t45 _ _ (g3 y hy) (fun _ z => by cases z) (fun z => ?_)⟩
              · rw [z, p4] at g1
                cases g1
              · have := g3 y hy
                unfold NdAt at this
                rw [z, p4] at this
                cases this
        have kp' : Kp (SH p F.nm F.mr) H H' := fun b o hb nS => kk _ _ (a15 b o (fun z => nS (.inl z)) hb) (fun z => nS (.inr (.inl z))) (ne_of_none hb HO0)
        refine q H' ⟨dx, F5, p6, by rw [hF5], by rw [hF5], ?_⟩ ⟨kp', fun b hb => ?_⟩
        · rw [hF5]
          refine ⟨⟨gl, kH.gram hp rfl hgr⟩, kH.text hp ht, hin.next, ?_, ?_, kH.texts hp hin.elder, kH.texts hp hin.later, hT', ?_⟩
          · rw [hst] at hN
            exact hN
          · have n1 : F.mr ≠ F.nm := hin.names.not_lst hin.marks fun _ z => by cases z
            exact kk _ _ (a15 _ _ nmr hin.marks) n1 (ne_of_none hin.marks HO0)
          · rw [hst] at hO'
            exact hO'
        · cases z : H b with
          | none => rfl
          | some o =>
            by_cases c1 : b = p
            · rw [c1, p6] at hb
              cases hb
            · by_cases c2 : b = F.nm
              · obtain ⟨xs, e, _⟩ := hN
                rw [c2, e] at hb
                cases hb
              · rw [kk _ _ (a15 b o c1 z) c2 (ne_of_none z HO0)] at hb
                cases hb
      refine ⟨.ref p, rfl, p, _, _, _, tv, ?_, p5, T.c_House, T.na_House_tree, ?_, rfl, _, rfl, ?_⟩
      · rfl
      · rw [hF5]
        rfl
      cases e : Gs.readT m.g (text.map (·.2)) with
      | none =>
        rw [e] at hT5
        have hT5 : tv = .non := hT5
        subst hT5
        exact fin H5 _ rfl (by rw [e]; exact N5) (by rw [e]; exact eO5) fun b o hb _ _ => hb
      | some Tr =>
        rw [e] at hT4
        obtain ⟨b, h1, dx', l, n, h2, h3, ns, g1, g2, g3⟩ := hT4
        have nOn : n ≠ O := ne_of_none g1 hO
        have h2 := k45.ins p4 h2 (by show 2 ≠ 9; decide)
        have g1 := k45.lst p4 g1
        have g3 : ∀ y ∈ ns, NdAt H5 y.1 y.2 := fun y hy => k45.tup p4 (g3 y hy)
        subst h1
        refine iteT ?_
        have p5b : ∀ {H' : Hp}, H' p = some (.ins a.c_House dx (HF.f F5)) → H' p = some (.ins a.c_House dx [("grammar", V.ref F.ga), ("text", .ref tb), ("next_word", vN F.nx), ("names", .ref F.nm), ("marks", .ref F.mr), ("elder", .ref F.ea), ("later", .ref F.la), ("tree", .ref b), ("order", .ref O)]) := fun h => by
          rw [h, hF5]
          rfl
        have e2 : ns.length = Tr.2.length := by rw [← g2, List.length_map]
        have few' : Tr.2.length ≤ 2000 := by
          rw [e] at few
          exact few
        refine ⟨.ref p, rfl, p, _, _, _, .ref b, rfl, p5b p5, T.c_House, T.na_House_tree, rfl, b, _, _, _, .ref n, rfl, h2, T.c_Tree, T.na_Tree_nodes, rfl, n, rfl, ⟨_, sqL g1⟩, ?_⟩
        refine for_list (xs := ns.map fun q => V.ref q.1) (fun j σ H' => ∃ v2 v3 v4 v5, σ = [some (.ref p), some (.ref tb), v2, v3, v4, v5] ∧ NamesAt P w H' F.nm ((Tr.2.take j).foldl (Gs.takeOne text) (m.names, [])).1 ∧ NumsL H' O ((Tr.2.take j).foldl (Gs.takeOne text) (m.names, [])).2 ∧
            ∀ b o, H5 b = some o → b ≠ F.nm → b ≠ O → H' b = some o)
          ⟨none, none, none, none, rfl, N5, eO5, fun b o hb _ _ => hb⟩ (fun j σ H' _ ⟨_, _, _, _, _, _, _, kk⟩ => sqL (kk _ _ g1 (N5.not_lst g1 fun _ z => by cases z) nOn)) (fun j v σ H' hv ⟨v2, v3, v4, v5, eσ, hN, hO', kk⟩ => ?_) (fun σ H' ⟨v2, v3, v4, v5, eσ, hN, hO', kk⟩ => ?_)
        · subst eσ
          obtain ⟨⟨t, x⟩, hx, rfl⟩ := get_map hv
          have hxT : Tr.2[j]? = some x := by rw [← g2, List.getElem?_map, hx]; rfl
          have kt : ∀ {b xs}, H5 b = some (.tup xs) → H' b = some (.tup xs) := fun h => kk _ _ h (N5.not_lst h fun _ z => by cases z) (fun z => by rw [z, eO5] at h; cases h)
          have hxt : NdAt H' t x := kt (g3 _ (List.mem_of_getElem? hx))
          have p6 := kk _ _ p5 (Ne.symm nnm) (Ne.symm nO)
          have ht6 : TextAt H' tb text := by
            obtain ⟨qs, q1, q2, q3⟩ := ht
            have q4 := k35.lst hp q1
            exact ⟨qs, kk _ _ q4 (N5.not_lst q4 fun _ z => by cases z) (ne_of_none q1 HO0), q2, fun y hy => kt (k35.tup hp (q3 y hy))⟩
          obtain ⟨f1, f2⟩ := Gs.take_fold text (Tr.2.take j) (m.names, [])
          have hst : ((Tr.2.take (j + 1)).foldl (Gs.takeOne text) (m.names, [])) = Gs.takeOne text ((Tr.2.take j).foldl (Gs.takeOne text) (m.names, [])) x := by
            rw [take_one hxT, List.foldl_append]
            rfl
          rw [hst]
          have hj : (Tr.2.take j).length ≤ 2000 := by rw [List.length_take]; omega
          generalize (Tr.2.take j).foldl (Gs.takeOne text) (m.names, []) = st at hN hO' f1 f2
          rw [List.length_nil] at f1
          have f2 : st.1.length ≤ m.names.length + (Tr.2.take j).length := f2
          -- key = self.key_of(node)
          refine ⟨.ref p, rfl, p, _, _, rfl, p6, rfl, .ref t, rfl, p, dx, F5, t, x, text, rfl, p6, (by rw [hF5]; exact ht6), hlen, hxt, fun H6 k s6 hK => ?_⟩
          have p7 := s6 _ _ p6
          have N6 : NamesAt P w H6 F.nm st.1 := hN.mono (fun o z => s6 _ _ z) fun b xs z => s6 _ _ z
          -- self.names.setdefault(key, len(self.names))
          refine ⟨.ref p, rfl, p, _, _, _, .ref F.nm, rfl, p5b p7, T.c_House, T.na_House_names, rfl, F.nm, rfl, ⟨_, N6⟩, .ref k, rfl, .ref p, rfl, p, _, _, _, .ref F.nm, rfl, p5b p7, T.c_House, T.na_House_names, rfl, F.nm, _, rfl, N6, _, _, k, rfl, N6, hK, rfl, line_lt (by omega), ?_⟩
          refine setd_both (P := P) (w := w) (k := Gs.keyOf text x) (fun H7 hN7 k7 => ?_) N6
          have p8 : H7 p = some (.ins a.c_House dx (HF.f F5)) := by rw [k7 _ (Ne.symm nnm)]; exact p7
          have hK7 : KeyAt H7 (Gs.keyOf text x) k := KeyAt.mono hK fun b xs z => by
            rw [k7 _ (N6.not_lst z fun _ z => by cases z)]
            exact z
          have nOm : O ≠ F.nm := N5.not_lst eO5 fun _ z => by cases z
          have eO7 : H7 O = some (.lst (st.2.map vN)) := by rw [k7 _ nOm]; exact s6 _ _ hO'
          have hat := Gs.addKey_at st.1 (Gs.keyOf text x)
          -- self.order.append(self.names[key])
          refine ⟨.ref p, rfl, p, _, _, _, .ref O, rfl, p5b p8, T.c_House, T.na_House_order, rfl, tyL eO7, .ref p, rfl, p, _, _, _, .ref F.nm, rfl, p5b p8, T.c_House, T.na_House_names, rfl, .ref k, rfl, F.nm, k, _, _, _, rfl, rfl, hN7, hK7, hat, O, _, vN ((Gs.addKey st.1 (Gs.keyOf text x)).idxOf (Gs.keyOf text x)), rfl, rfl, eO7, line_lt (by rw [List.length_map]; omega), ?_⟩
          refine ⟨_, _, _, _, rfl, ?_, ?_, fun b o hb n1 n2 => ?_⟩
          · refine hN7.mono (fun o z => ?_) fun b xs z => ?_
            · rw [upd_ne (Ne.symm nOm)]
              exact z
            · rw [upd_ne (fun y => by rw [y, eO7] at z; cases z)]
              exact z
          · unfold NumsL
            rw [upd_same]
            simp [Gs.takeOne]
          · rw [upd_ne n2, k7 _ n1]
            exact s6 _ _ (kk _ _ hb n1 n2)
        · subst eσ
          refine fin H' _ rfl ?_ ?_ kk
          · rw [e]
            rw [List.length_map, e2, List.take_length] at hN
            exact hN
          · rw [e]
            rw [List.length_map, e2, List.take_length] at hO'
            exact hO'
end
end Gw
/-! # Walks: change -/
namespace Gw
open PySem PySem.Spec PyProof.Rows L2 Gr
open Nt (Sign Rule Grammar Tree)
open Gs (Nd Wd HM NRule)
section
variable {P : Program} {w : World} {K : PySem.W.Frag} {mg : Str → Option Value} {base : Heap} {a : Ad}
theorem sorted_nat {l : List Nat} {ns : List Int} (hp : ns.Perm (l.map fun n : Nat => (n : Int))) (hs : ns.Pairwise (· ≤ ·)) : ns = (Gs.sortN l).map fun n : Nat => (n : Int) := by
  have h1 : (Gs.sortN l).Perm l := List.mergeSort_perm _ _
  have h2 : (Gs.sortN l).Pairwise (· ≤ ·) := by
    have := List.pairwise_mergeSort (le := fun a b : Nat => decide (a ≤ b)) (fun a b c h1 h2 => by simp only [decide_eq_true_eq] at *; omega) (fun a b => by simp only [Bool.or_eq_true, decide_eq_true_eq]; omega) l
    exact this.imp fun h => by simpa using h
  refine List.Perm.eq_of_pairwise (le := fun a b => a ≤ b) (fun a b _ _ h1 h2 => Int.le_antisymm h1 h2) hs (List.pairwise_map.mpr (h2.imp fun h => by omega)) (hp.trans (h1.map _).symm)
theorem sortN_len (l : List Nat) : (Gs.sortN l).length = l.length := (List.mergeSort_perm _ _).length_eq
theorem ints_vN (l : List Nat) : (l.map fun n : Nat => (n : Int)).map V.int = l.map vN := by rw [List.map_map]; rfl
/-! ### change -/
def sp_House_change (P : Program) (w : World) (K : PySem.W.Frag) (a : Ad) : Sp := fun vs H Q _ => ∃ (p nm mk tb : Addr) (m : HM) (text : List Wd), vs = [.ref p, .ref tb] ∧ HouseAt P w a H p nm mk m ∧ TextAt H tb text ∧ Gs.Good m.g ∧ Gs.LimG m.g ∧ text.length ≤ 24 ∧ m.names.length ≤ 900000 ∧ m.order.length ≤ 2000 ∧
  ∀ H' r, HouseAt P w a H' p nm mk (m.take text) → KH p nm mk H H' → NumsL H' r (Gs.tells m.order (m.take text).order) → H r = none → Q (.ref r) H'
theorem ok_House_change (F : Fn K "change" "House.change" s_House_change a.f_House_change) (T : Txt K mg a) (h_House_take : Pr P w K mg base CX0 7 a.f_House_take ["self", "text"] (sp_House_take P w K a)) : Pr P w K mg base CX0 8 a.f_House_change ["self", "text"] (sp_House_change P w K a) := by
  obtain ⟨fd, F⟩ := F
  obtain ⟨fd_House_take, G_House_take, B_House_take, K_House_take⟩ := h_House_take
  refine ⟨fd, F.ok sc_House_change (fun vs H Q E h => ?_) (fun cdv A outer s H vs Q E hr h => ?_), F.binds (ps := ["self", "text"]) fun _ _ _ _ _ _ us hl => match us, hl with | [_, _], _ => rfl, F.kp⟩
  · obtain ⟨p, nm, mk, tb, m, text, rfl, _⟩ := h
    rfl
  · obtain ⟨p, nm, mk, tb, m, text, rfl, hH, ht, GG, G, hlen, hnl, hol, q⟩ := h
    refine ⟨_, (pss_cons (ps_set (i := 2) sc_House_change.nd rfl (Or.inr rfl) (pe_fld (pv 0) rfl))
      (pss_cons (ps_expr (pe_meth (pv 0) T.c_House T.m_House_take G_House_take (hr.mono (by decide)) B_House_take .nil pass0 (pa_cons (pv 1) pa_nil)))
      (pss_cons (ps_set (i := 3) sc_House_change.nd rfl (Or.inl rfl) (pe_callB cr_sortedI (by rfl) T.n_sorted (by decide +kernel) (pa_cons (pe_lc (own := [("name", 5)]) rfl sc_House_change.nd (pi_list (pe_fld (pv 0) rfl)) (blkOk_by (N := ["self", "text", "before", "came", "went", "name"]) (sc := defScope s_House_change) (by decide +kernel)) (fun _ _ _ _ _ => (pg_name (i := 5) sc_House_change.nd rfl (Or.inl rfl))) (fun _ _ _ _ _ => (pts_one (pt_cmpR (op_notIn_seqK (K := K) rfl) (pv 5) (pv 2) rfl))) (fun _ _ _ _ _ => (pv 5))) pa_nil)))
      (pss_cons (ps_set (i := 4) sc_House_change.nd rfl (Or.inl rfl) (pe_callB cr_sortedI (by rfl) T.n_sorted (by decide +kernel) (pa_cons (pe_lc (own := [("name", 5)]) rfl sc_House_change.nd (pi_list (pv 2)) (blkOk_by (N := ["self", "text", "before", "came", "went", "name"]) (sc := defScope s_House_change) (by decide +kernel)) (fun _ _ _ _ _ => (pg_name (i := 5) sc_House_change.nd rfl (Or.inl rfl))) (fun _ _ _ _ _ => (pts_one (pt_cmpR (op_notIn_seqK (K := K) rfl) (pv 5) (pe_fldK (K := K) rfl (pv 0) rfl) rfl))) (fun _ _ _ _ _ => (pv 5))) pa_nil)))
      (pss_one (ps_ret (pe_op op_cat (pe_op op_cat (pe_op op_cat (pe_lst (pa_cons (pe_callB call_len_seq (by rfl) T.n_len PySem.boot_len (pa_cons (pe_fld (pv 0) rfl) pa_nil)) (pa_cons (pe_callB call_len_seq (by rfl) T.n_len PySem.boot_len (pa_cons (pv 3) pa_nil)) pa_nil))) (pv 3)) (pe_lst (pa_cons (pe_callB call_len_seq (by rfl) T.n_len PySem.boot_len (pa_cons (pv 4) pa_nil)) pa_nil))) (pv 4)))))))), ?_⟩
    obtain ⟨dx, F, hp, enm, emr, hin⟩ := hH
    refine ⟨.ref p, rfl, p, _, _, _, .ref F.oa, rfl, hp, T.c_House, T.na_House_order, rfl, ?_⟩
    refine ⟨.ref p, rfl, p, _, _, rfl, hp, rfl, .ref tb, rfl, p, nm, mk, tb, m, text, rfl, ⟨dx, F, hp, enm, emr, hin⟩, ht, GG, G, hlen, hnl, fun H1 hH1 k1 => ?_⟩
    have kh := k1.kp.keepH (by rw [← enm]; exact hin.names) (by rw [← emr]; exact hin.marks)
    have eb := kh.lst hp hin.order
    have hlw : (text.map (·.2)).length = text.length := List.length_map ..
    have few := Gs.nodes_few (w := text.map (·.2)) GG G.parts (by rw [hlw]; exact hlen)
    obtain ⟨ol, _⟩ := Gs.HM.take_len m text
    obtain ⟨dx1, F1, hp1, enm1, emr1, hin1⟩ := hH1
    have eo := hin1.order
    have nl : (m.take text).order.length ≤ 2000 := by omega
    generalize hM : m.take text = M at *
    -- came
    refine ⟨.ref p, rfl, p, _, _, _, .ref F1.oa, rfl, hp1, T.c_House, T.na_House_order, rfl, F1.oa, rfl, ⟨_, sqL eo⟩, fun D hD => ?_⟩
    refine lc_list (xs := M.order.map vN) (fun k H' => Same H1 H' ∧ NumsL H' D ((M.order.take k).filter fun x => decide (x ∉ m.order))) ⟨same_new hD, upd_same⟩ (fun k H' _ ⟨s2, _⟩ => sqL (s2 _ _ eo)) (fun k v H' hv ⟨s2, eD⟩ => ?_) (fun H2 ⟨s2, eD⟩ => ?_)
    · obtain ⟨x, hx, rfl⟩ := get_map hv
      refine ⟨rfl, vN x, rfl, .ref F.oa, rfl, F.oa, _, rfl, .inl (sqL (s2 _ _ eb)), rfl, flat_nums _, _, rfl, ?_⟩
      simp only [if_true]
      rw [inV_nums, take_one hx, List.filter_append]
      have el : ((M.order.take k).filter fun x => decide (x ∉ m.order)).length ≤ 2000 := by
        refine Nat.le_trans (List.length_filter_le _ _) ?_
        rw [List.length_take]
        omega
      by_cases hxm : x ∈ m.order
      · rw [decide_eq_true hxm]
        refine iteF ⟨s2, ?_⟩
        simpa [hxm] using eD
      · rw [decide_eq_false hxm]
        refine iteT ⟨vN x, rfl, _, eD, line_lt (by rw [List.length_map]; omega), same_upd_of s2 hD, ?_⟩
        unfold NumsL
        rw [upd_same]
        simp [hxm]
    rw [nums_len, List.take_length] at eD
    refine ⟨D, (M.order.filter fun x => decide (x ∉ m.order)).map (fun n : Nat => (n : Int)), rfl, sqL (eD.trans (by rw [← ints_vN])), fun ns cm hperm hpw hcm => ?_⟩
    have ens := sorted_nat hperm hpw
    subst ens
    rw [ints_vN]
    have s3 : Same H2 (upd H2 cm (.lst ((Gs.sortN (M.order.filter fun x => decide (x ∉ m.order))).map vN))) := same_new hcm
    obtain ⟨H3, hH3⟩ : ∃ H3, H3 = upd H2 cm (.lst ((Gs.sortN (M.order.filter fun x => decide (x ∉ m.order))).map vN)) := ⟨_, rfl⟩
    have ecm : H3 cm = some (.lst ((Gs.sortN (M.order.filter fun x => decide (x ∉ m.order))).map vN)) := by rw [hH3, upd_same]
    rw [← hH3] at s3 ⊢
    have s13 := s2.trans s3
    have lc : (Gs.sortN (M.order.filter fun x => decide (x ∉ m.order))).length ≤ 2000 := by
      rw [sortN_len]
      exact Nat.le_trans (List.length_filter_le _ _) nl
    -- went
    refine ⟨.ref F.oa, rfl, F.oa, rfl, ⟨_, sqL (s13 _ _ eb)⟩, fun D2 hD2 => ?_⟩
    refine lc_list (xs := m.order.map vN) (fun k H' => Same H3 H' ∧ NumsL H' D2 ((m.order.take k).filter fun x => decide (x ∉ M.order))) ⟨same_new hD2, upd_same⟩ (fun k H' _ ⟨s4, _⟩ => sqL (s4 _ _ (s13 _ _ eb))) (fun k v H' hv ⟨s4, eD⟩ => ?_) (fun H4 ⟨s4, eD2⟩ => ?_)
    · obtain ⟨x, hx, rfl⟩ := get_map hv
      have s14 := s13.trans s4
      refine ⟨rfl, vN x, rfl, .ref p, rfl, p, _, _, _, .ref F1.oa, rfl, s14 _ _ hp1, T.c_House, T.na_House_order, rfl, F1.oa, _, rfl, .inl (sqL (s14 _ _ eo)), rfl, flat_nums _, _, rfl, ?_⟩
      simp only [if_true]
      rw [inV_nums, take_one hx, List.filter_append]
      have el : ((m.order.take k).filter fun x => decide (x ∉ M.order)).length ≤ 2000 := by
        refine Nat.le_trans (List.length_filter_le _ _) ?_
        rw [List.length_take]
        omega
      by_cases hxm : x ∈ M.order
      · rw [decide_eq_true hxm]
        refine iteF ⟨s4, ?_⟩
        simpa [hxm] using eD
      · rw [decide_eq_false hxm]
        refine iteT ⟨vN x, rfl, _, eD, line_lt (by rw [List.length_map]; omega), same_upd_of s4 hD2, ?_⟩
        unfold NumsL
        rw [upd_same]
        simp [hxm]
    rw [nums_len, List.take_length] at eD2
    refine ⟨D2, (m.order.filter fun x => decide (x ∉ M.order)).map (fun n : Nat => (n : Int)), rfl, sqL (eD2.trans (by rw [← ints_vN])), fun ns wt hperm2 hpw2 hwt => ?_⟩
    have ens := sorted_nat hperm2 hpw2
    subst ens
    rw [ints_vN]
    have s5 : Same H4 (upd H4 wt (.lst ((Gs.sortN (m.order.filter fun x => decide (x ∉ M.order))).map vN))) := same_new hwt
    obtain ⟨H5, hH5⟩ : ∃ H5, H5 = upd H4 wt (.lst ((Gs.sortN (m.order.filter fun x => decide (x ∉ M.order))).map vN)) := ⟨_, rfl⟩
    have ewt : H5 wt = some (.lst ((Gs.sortN (m.order.filter fun x => decide (x ∉ M.order))).map vN)) := by rw [hH5, upd_same]
    rw [← hH5] at s5 ⊢
    have s15 := (s13.trans s4).trans s5
    have ecm5 := s5 _ _ (s4 _ _ ecm)
    have lw : (Gs.sortN (m.order.filter fun x => decide (x ∉ M.order))).length ≤ 2000 := by
      rw [sortN_len]
      exact Nat.le_trans (List.length_filter_le _ _) hol
    -- the answer
    have etl : Gs.tells m.order M.order = M.order.length :: (Gs.sortN (M.order.filter fun x => decide (x ∉ m.order))).length :: Gs.sortN (M.order.filter fun x => decide (x ∉ m.order)) ++ (Gs.sortN (m.order.filter fun x => decide (x ∉ M.order))).length :: Gs.sortN (m.order.filter fun x => decide (x ∉ M.order)) := rfl
    rw [etl] at q
    generalize Gs.sortN (M.order.filter fun x => decide (x ∉ m.order)) = cl at q ecm5 lc
    generalize Gs.sortN (m.order.filter fun x => decide (x ∉ M.order)) = wl at q ewt lw
    refine ⟨.ref p, rfl, p, _, _, _, .ref F1.oa, rfl, s15 _ _ hp1, T.c_House, T.na_House_order, rfl, F1.oa, _, rfl, .inl (sqL (s15 _ _ eo)), .ref cm, rfl, cm, _, rfl, .inl (sqL ecm5), line_le (by show 2 ≤ _; decide), ?_⟩
    rw [nums_len, nums_len]
    intro q1 hq1
    have s6 : Same H5 (upd H5 q1 (.lst [.int (M.order.length : Nat), .int (cl.length : Nat)])) := same_new hq1
    have eq1 : upd H5 q1 (.lst [.int (M.order.length : Nat), .int (cl.length : Nat)]) q1 = some (.lst [.int (M.order.length : Nat), .int (cl.length : Nat)]) := upd_same
    obtain ⟨H6, hH6⟩ : ∃ H6, H6 = upd H5 q1 (.lst [.int (M.order.length : Nat), .int (cl.length : Nat)]) := ⟨_, rfl⟩
    rw [← hH6] at s6 eq1 ⊢
    refine ⟨.ref cm, rfl, q1, cm, _, _, rfl, rfl, eq1, s6 _ _ ecm5, line_le (by rw [List.length_map]; show 2 + cl.length ≤ _; omega), fun q2 hq2 => ?_⟩
    have s7 : Same H6 (upd H6 q2 (.lst ([V.int (M.order.length : Nat), .int (cl.length : Nat)] ++ cl.map vN))) := same_new hq2
    have eq2 : upd H6 q2 (.lst ([V.int (M.order.length : Nat), .int (cl.length : Nat)] ++ cl.map vN)) q2 = _ := upd_same
    obtain ⟨H7, hH7⟩ : ∃ H7, H7 = upd H6 q2 (.lst ([V.int (M.order.length : Nat), .int (cl.length : Nat)] ++ cl.map vN)) := ⟨_, rfl⟩
    rw [← hH7] at s7 eq2 ⊢
    have s57 := s6.trans s7
    refine ⟨.ref wt, rfl, wt, _, rfl, .inl (sqL (s57 _ _ ewt)), line_le (by show 1 ≤ _; decide), ?_⟩
    rw [nums_len]
    intro q3 hq3
    have s8 : Same H7 (upd H7 q3 (.lst [.int (wl.length : Nat)])) := same_new hq3
    have eq3 : upd H7 q3 (.lst [.int (wl.length : Nat)]) q3 = some (.lst [.int (wl.length : Nat)]) := upd_same
    obtain ⟨H8, hH8⟩ : ∃ H8, H8 = upd H7 q3 (.lst [.int (wl.length : Nat)]) := ⟨_, rfl⟩
    rw [← hH8] at s8 eq3 ⊢
    refine ⟨q2, q3, _, _, rfl, rfl, s8 _ _ eq2, eq3, line_le (by rw [List.length_append, List.length_map]; show 2 + cl.length + 1 ≤ _; omega), fun q4 hq4 => ?_⟩
    have s9 : Same H8 (upd H8 q4 (.lst (([V.int (M.order.length : Nat), .int (cl.length : Nat)] ++ cl.map vN) ++ [.int (wl.length : Nat)]))) := same_new hq4
    have eq4 : upd H8 q4 (.lst (([V.int (M.order.length : Nat), .int (cl.length : Nat)] ++ cl.map vN) ++ [.int (wl.length : Nat)])) q4 = _ := upd_same
    obtain ⟨H9, hH9⟩ : ∃ H9, H9 = upd H8 q4 (.lst (([V.int (M.order.length : Nat), .int (cl.length : Nat)] ++ cl.map vN) ++ [.int (wl.length : Nat)])) := ⟨_, rfl⟩
    rw [← hH9] at s9 eq4 ⊢
    have s59 := (s57.trans s8).trans s9
    refine ⟨.ref wt, rfl, q4, wt, _, _, rfl, rfl, eq4, s59 _ _ ewt, line_le (by rw [List.length_append, List.length_append, List.length_map, List.length_map]; show 2 + cl.length + 1 + wl.length ≤ _; omega), fun r hr => ?_⟩
    have s10 := (s15.trans s59).trans (same_new (o := .lst (([V.int (M.order.length : Nat), .int (cl.length : Nat)] ++ cl.map vN) ++ [.int (wl.length : Nat)] ++ wl.map vN)) hr)
    refine q _ r ⟨dx1, F1, s10 _ _ hp1, enm1, emr1, hin1.mono s10⟩ (k1.trans (KH.of s10)) ?_ (k1.dom _ (none_of_same (s15.trans s59) hr))
    unfold NumsL
    rw [upd_same]
    simp
end
end Gw
/-! # Walks: step, edit, move -/
namespace Gw
open PySem PySem.Spec PyProof.Rows L2 Gr
open Nt (Sign Rule Grammar Tree)
open Gs (Nd Wd HM NRule)
section
variable {P : Program} {w : World} {K : PySem.W.Frag} {mg : Str → Option Value} {base : Heap} {a : Ad}
/-- all but p stands -/
theorem HIn.keep {H H' : Hp} {p dx : Addr} {F G : HF} {m : HM} (hp : H p = some (.ins a.c_House dx (HF.f G))) (k : ∀ b o, b ≠ p → H b = some o → H' b = some o) (h : HIn P w a H F m) : HIn P w a H' F m := by
  have kh : KeepH p H H' := fun b o hb nb _ _ => k b o nb hb
  obtain ⟨gl, hg⟩ := h.gram
  refine ⟨⟨gl, kh.gram hp rfl hg⟩, kh.text hp h.text, h.next, h.names.mono (fun o z => k _ _ (fun y => ?_) z) (fun b xs z => kh.tup hp z), k _ _ (fun y => ?_) h.marks, kh.texts hp h.elder, kh.texts hp h.later, kh.tree hp rfl h.tree, kh.lst hp h.order⟩
  · obtain ⟨xs, e, _⟩ := h.names
    rw [y, hp] at e
    cases e
  · have := h.marks
    rw [y, hp] at this
    cases this
theorem LA.one {α : Type} {R : Hp → Addr → α → Prop} {H : Hp} {b : Addr} {xs : List α} (h : LA R H b xs) : ∃ ps : List (Addr × α), H b = some (.lst (ps.map fun p => V.ref p.1)) ∧ ps.map (·.2) = xs ∧ ps.length = xs.length ∧ ∀ p ∈ ps, R H p.1 p.2 := by
  obtain ⟨ps, h1, h2, h3⟩ := h
  exact ⟨ps, h1, h2, by rw [← h2, List.length_map], h3⟩
/-! ### step -/
structure Fit0 (m : HM) (text : List Wd) : Prop where
  good : Gs.Good m.g
  lim : Gs.LimG m.g
  text : text.length ≤ 24
  elder : m.elder.length ≤ 64
  later : m.later.length ≤ 64
  names : m.names.length ≤ 900000
  order : m.order.length ≤ 2000
def sp_House_step (P : Program) (w : World) (K : PySem.W.Frag) (a : Ad) : Sp := fun vs H Q _ => ∃ (p nm mk tb : Addr) (m : HM) (text : List Wd), vs = [.ref p, .ref tb] ∧ HouseAt P w a H p nm mk m ∧ TextAt H tb text ∧ Fit0 m text ∧
  ∀ H' r, HouseAt P w a H' p nm mk (m.step text).1 → KH p nm mk H H' → NumsL H' r (m.step text).2 → H r = none → Q (.ref r) H'
theorem ok_House_step (F : Fn K "step" "House.step" s_House_step a.f_House_step) (T : Txt K mg a) (h_House_change : Pr P w K mg base CX0 8 a.f_House_change ["self", "text"] (sp_House_change P w K a)) : Pr P w K mg base CX0 9 a.f_House_step ["self", "text"] (sp_House_step P w K a) := by
  obtain ⟨fd, F⟩ := F
  obtain ⟨fd_House_change, G_House_change, B_House_change, K_House_change⟩ := h_House_change
  refine ⟨fd, F.ok sc_House_step (fun vs H Q E h => ?_) (fun cdv A outer s H vs Q E hr h => ?_), F.binds (ps := ["self", "text"]) fun _ _ _ _ _ _ us hl => match us, hl with | [_, _], _ => rfl, F.kp⟩
  · obtain ⟨p, nm, mk, tb, m, text, rfl, _⟩ := h
    rfl
  · obtain ⟨p, nm, mk, tb, m, text, rfl, ⟨dx, F, hp, enm, emr, hin⟩, ht, fit, q⟩ := h
    refine ⟨_, (pss_cons (ps_fld (pv 0) (pe_slice sl_list (pe_op op_cat (pe_fld (pv 0) rfl) (pe_lst (pa_cons (pe_fld (pv 0) rfl) pa_nil))) (po_some (pe_un un_neg (pe_glob (v := .int (64)) rfl T.i_MOST_UNDO ⟨_, rfl⟩))) po_none) rfl)
      (pss_cons (ps_fld (pv 0) (pe_lst pa_nil) rfl)
      (pss_one (ps_ret (pe_meth (pv 0) T.c_House T.m_House_change G_House_change (hr.mono (by decide)) B_House_change .nil pass0 (pa_cons (pv 1) pa_nil)))))), ?_⟩
    obtain ⟨ps, he, hps, hpl, hpk⟩ := hin.elder.one
    have hf := fit.elder
    -- self.elder = (self.elder + [self.text])[-MOST_UNDO:]
    refine ⟨.ref p, rfl, p, _, _, _, .ref F.ea, rfl, hp, T.c_House, T.na_House_elder, rfl, .ref p, rfl, p, _, _, _, .ref F.ta, rfl, hp, T.c_House, T.na_House_text, rfl, line_le (by show 1 ≤ _; decide), ?_⟩
    intro q1 hq1
    have s1 : Same H (upd H q1 (.lst [.ref F.ta])) := same_new hq1
    refine ⟨F.ea, q1, _, _, rfl, rfl, s1 _ _ he, upd_same, line_le (by rw [List.length_map]; show ps.length + 1 ≤ _; omega), fun q2 hq2 => ?_⟩
    have s2 := s1.trans (same_new (o := .lst ((ps.map fun p => V.ref p.1) ++ [.ref F.ta])) hq2)
    refine ⟨64, rfl, _, rfl, q2, _, rfl, sqL upd_same, fun q3 hq3 => ?_⟩
    rw [show cutV ((ps.map fun p => V.ref p.1) ++ [V.ref F.ta]) (some (-64)) none = ((ps ++ [(F.ta, m.text)]).drop ((ps ++ [(F.ta, m.text)]).length - 64)).map fun p => V.ref p.1 by
      rw [show ((-64 : Int)) = -((64 : Nat) : Int) from rfl, cut_last _ 64 (by decide), List.map_drop, List.map_append]
      simp]
    have s3 := s2.trans (same_new (o := .lst (((ps ++ [(F.ta, m.text)]).drop ((ps ++ [(F.ta, m.text)]).length - 64)).map fun p => V.ref p.1)) hq3)
    have e3 : upd (upd (upd H q1 (.lst [.ref F.ta])) q2 (.lst ((ps.map fun p => V.ref p.1) ++ [.ref F.ta]))) q3 (.lst (((ps ++ [(F.ta, m.text)]).drop ((ps ++ [(F.ta, m.text)]).length - 64)).map fun p => V.ref p.1)) q3 = _ := upd_same
    generalize upd (upd (upd H q1 (.lst [.ref F.ta])) q2 (.lst ((ps.map fun p => V.ref p.1) ++ [.ref F.ta]))) q3 (.lst (((ps ++ [(F.ta, m.text)]).drop ((ps ++ [(F.ta, m.text)]).length - 64)).map fun p => V.ref p.1)) = H3 at s3 e3 ⊢
    have hp3 := s3 _ _ hp
    have hin3 := hin.mono s3
    have hel : TextsAt H3 q3 (Gs.lastN 64 (m.elder ++ [m.text])) := by
      refine ⟨_, e3, ?_, fun x hx => ?_⟩
      · rw [List.map_drop, List.map_append, hps]
        unfold Gs.lastN
        rw [List.length_append, List.length_append, hpl]
        rfl
      · rcases List.mem_append.mp (List.mem_of_mem_drop hx) with z | z
        · exact TextAt.mono (hpk x z) s3
        · rw [List.mem_singleton.mp z]
          exact TextAt.mono hin.text s3
    refine ⟨_, rfl, p, _, dx, _, rfl, hp3, T.c_House, T.na_House_elder, (by show 9 < 1000; decide), ?_⟩
    have hin3' : HIn P w a H3 { F with ea := q3 } { m with elder := Gs.lastN 64 (m.elder ++ [m.text]) } := ⟨hin3.gram, hin3.text, hin3.next, hin3.names, hin3.marks, hel, hin3.later, hin3.tree, hin3.order⟩
    have k4 := keeps (H := H3) (p := p) (x := .ins a.c_House dx (putF "elder" (V.ref q3) (HF.f F)))
    have p4 : upd H3 p (.ins a.c_House dx (putF "elder" (V.ref q3) (HF.f F))) p = some (.ins a.c_House dx (HF.f { F with ea := q3 })) := upd_same
    generalize upd H3 p (.ins a.c_House dx (putF "elder" (V.ref q3) (HF.f F))) = H4 at k4 p4 ⊢
    have hin4 := HIn.keep hp3 k4 hin3'
    -- self.later = []
    refine ⟨Nat.zero_le _, ?_⟩
    intro l hl
    refine ⟨_, rfl, p, _, dx, _, rfl, keep_up hl p4, T.c_House, T.na_House_later, (by show 9 < 1000; decide), ?_⟩
    obtain ⟨k5, e5, p5⟩ := fld_new (o := .lst []) (x := .ins a.c_House dx (putF "later" (V.ref l) (HF.f { F with ea := q3 }))) p4 hl
    generalize upd (upd H4 l (.lst [])) p (.ins a.c_House dx (putF "later" (V.ref l) (HF.f { F with ea := q3 }))) = H5 at k5 e5 p5 ⊢
    have hin5 := HIn.keep p4 k5 hin4
    have k05 : ∀ b o, b ≠ p → H b = some o → H5 b = some o := fun b o nb hb => k5 _ _ nb (k4 _ _ nb (s3 _ _ hb))
    have hin5' : HIn P w a H5 { F with ea := q3, la := l } { m with elder := Gs.lastN 64 (m.elder ++ [m.text]), later := [] } := ⟨hin5.gram, hin5.text, hin5.next, hin5.names, hin5.marks, hin5.elder, LA.nil e5, hin5.tree, hin5.order⟩
    have ht5 : TextAt H5 tb text := KeepH.text (fun b o hb nb _ _ => k05 b o nb hb) hp ht
    -- return self.change(text)
    exact ⟨.ref p, rfl, p, _, _, rfl, p5, rfl, .ref tb, rfl, p, nm, mk, tb, { m with elder := Gs.lastN 64 (m.elder ++ [m.text]), later := [] }, text, rfl, ⟨dx, { F with ea := q3, la := l }, p5, enm, emr, hin5'⟩, ht5, fit.good, fit.lim, fit.text, fit.names, fit.order, fun H6 r hH6 k6 hr hn => q H6 r hH6 ((KH.ofp k05 p5).trans k6) hr ((KH.ofp (nm := nm) (mk := mk) k05 p5).dom _ hn)⟩
/-! ### edit -/
def sp_House_edit (P : Program) (w : World) (K : PySem.W.Frag) (a : Ad) : Sp := fun vs H Q _ => ∃ (p nm mk wl : Addr) (m : HM) (i n : Nat) (l : List Nat), vs = [.ref p, vN i, vN n, .ref wl] ∧ HouseAt P w a H p nm mk m ∧ NumsL H wl l ∧ m.text.length ≤ 24 ∧ l.length ≤ 24 ∧ Fit0 m (m.text.take i ++ Gs.newWords m.next l ++ m.text.drop (i + n)) ∧
  ∀ H' r, HouseAt P w a H' p nm mk (m.edit i n l).1 → KH p nm mk H H' → NumsL H' r (m.edit i n l).2 → H r = none → Q (.ref r) H'
theorem ok_House_edit (F : Fn K "edit" "House.edit" s_House_edit a.f_House_edit) (T : Txt K mg a) (h_House_step : Pr P w K mg base CX0 9 a.f_House_step ["self", "text"] (sp_House_step P w K a)) : Pr P w K mg base CX0 10 a.f_House_edit ["self", "i", "n", "words"] (sp_House_edit P w K a) := by
  obtain ⟨fd, F⟩ := F
  obtain ⟨fd_House_step, G_House_step, B_House_step, K_House_step⟩ := h_House_step
  refine ⟨fd, F.ok sc_House_edit (fun vs H Q E h => ?_) (fun cdv A outer s H vs Q E hr h => ?_), F.binds (ps := ["self", "i", "n", "words"]) fun _ _ _ _ _ _ us hl => match us, hl with | [_, _, _, _], _ => rfl, F.kp⟩
  · obtain ⟨p, nm, mk, wl, m, i, n, l, rfl, _⟩ := h
    rfl
  · obtain ⟨p, nm, mk, wl, m, i, n, l, rfl, ⟨dx, F, hp, enm, emr, hin⟩, hw, htl, hll, fit, q⟩ := h
    refine ⟨_, (pss_cons (ps_setLc (i := 4) (own := [("k", 5), ("word", 6)]) rfl sc_House_edit.nd rfl rfl (sw_true rfl rfl rfl (by decide +kernel)) (pi_enum (by rfl) T.n_enumerate (pa_cons (pv 3) pa_nil)) (blkOk_by (N := ["self", "i", "n", "words", "new", "k", "word"]) (sc := defScope s_House_edit) (by decide +kernel)) (fun _ _ _ _ _ => (pg_tupK (K := K) (n := 2) rfl (by rfl) (pgs_cons (pg_name (i := 5) sc_House_edit.nd rfl (Or.inl rfl)) (pgs_cons (pg_name (i := 6) sc_House_edit.nd rfl (Or.inl rfl)) pgs_nil)))) (fun _ _ _ _ _ => pts_nil) (fun _ _ _ _ _ => (pe_tup (pa_cons (pe_op op_add (pe_fldK (K := K) rfl (pv 0) rfl) (pv 5)) (pa_cons (pv 6) pa_nil)))))
      (pss_cons (ps_fldaug (pv 0) (pe_callB call_len_seq (by rfl) T.n_len PySem.boot_len (pa_cons (pv 3) pa_nil)) in_add)
      (pss_one (ps_ret (pe_meth (pv 0) T.c_House T.m_House_step G_House_step (hr.mono (by decide)) B_House_step .nil pass0 (pa_cons (pe_op op_cat (pe_op op_cat (pe_slice sl_list (pe_fld (pv 0) rfl) po_none (po_some (pv 1))) (pv 4)) (pe_slice sl_list (pe_fld (pv 0) rfl) (po_some (pe_op op_add (pv 1) (pv 2))) po_none)) pa_nil)))))), ?_⟩
    -- new = [(self.next_word + k, word) for k, word in enumerate(words)]
    refine ⟨.ref wl, rfl, wl, _, rfl, sqL hw, fun D hD => ?_⟩
    refine lc_enum (xs := l.map vN) (fun k H' => Same H H' ∧ ∃ ns : List (Addr × Wd), H' D = some (.lst (ns.map fun p => V.ref p.1)) ∧ ns.map (·.2) = (Gs.newWords m.next l).take k ∧ ns.length = k ∧ ∀ x ∈ ns, WdAt H' x.1 x.2)
      ⟨same_new hD, [], upd_same, rfl, rfl, fun x hx => by cases hx⟩ (fun k H' _ ⟨s1, _⟩ => sqL (s1 _ _ hw)) (fun k v U H' hv ⟨s1, ns, e1, hns, hnl, hnk⟩ hU => ?_) (fun H1 ⟨s1, ns, e1, hns, hnl, hnk⟩ => ?_)
    · obtain ⟨x, hx, rfl⟩ := get_map hv
      have hkl : k < l.length := (List.getElem?_eq_some_iff.mp hx).1
      have s2 : Same H' (upd H' U (.tup [.int (k : Nat), vN x])) := same_new hU
      have s02 := s1.trans s2
      have hxw : (Gs.newWords m.next l)[k]? = some (m.next + k, x) := by
        unfold Gs.newWords
        rw [List.getElem?_zip_eq_some]
        refine ⟨?_, hx⟩
        rw [List.getElem?_map, List.getElem?_range hkl]
        rfl
      refine ⟨U, _, rfl, sqT upd_same, rfl, .int (k : Nat), _, rfl, vN x, _, rfl, rfl, rfl, ?_⟩
      refine turn_yes ?_
      refine ⟨.ref p, rfl, p, _, _, _, vN F.nx, rfl, s02 _ _ hp, T.c_House, T.na_House_next_word, rfl, .int (k : Nat), rfl, (F.nx : Int), ((k : Nat) : Int), rfl, rfl, vN x, rfl, line_le (by show 2 ≤ _; decide), ?_⟩
      intro t ht
      have ek : (fun i j : Int => V.int (i + j)) (F.nx : Int) ((k : Nat) : Int) = vN (m.next + k) := by
        rw [hin.next]
        show V.int _ = V.int _
        congr 1
      rw [ek]
      have eD := s2 _ _ e1
      have s3 : Same (upd H' U (.tup [.int (k : Nat), vN x])) (upd (upd H' U (.tup [.int (k : Nat), vN x])) t (.tup [vN (m.next + k), vN x])) := same_new ht
      have tD : t ≠ D := Ne.symm (ne_of_none eD ht)
      refine ⟨_, s3 _ _ eD, line_lt (by rw [List.length_map]; omega), same_upd_of (s02.trans s3) hD, ns ++ [(t, (m.next + k, x))], by rw [upd_same, List.map_append]; rfl, by rw [take_one hxw, List.map_append, hns]; rfl, by rw [List.length_append, hnl]; rfl, fun y hy => ?_⟩
      rcases List.mem_append.mp hy with z | z
      · have h1 := hnk y z
        have n1 : y.1 ≠ D := fun h => by
          unfold WdAt at h1
          rw [h, e1] at h1
          cases h1
        show upd _ D _ y.1 = _
        rw [upd_ne n1]
        exact s3 _ _ (s2 _ _ h1)
      · rw [List.mem_singleton.mp z]
        show upd _ D _ t = _
        rw [upd_ne tD, upd_same]
    · rw [nums_len] at hns hnl
      have hnw : (Gs.newWords m.next l).length = l.length := by
        unfold Gs.newWords
        rw [List.length_zip, List.length_map, List.length_range, Nat.min_self]
      rw [List.take_of_length_le (by omega)] at hns
      have hp1 := s1 _ _ hp
      -- self.next_word += len(words)
      refine ⟨.ref p, rfl, p, _, dx, _, vN F.nx, rfl, hp1, T.c_House, T.na_House_next_word, rfl, .ref wl, rfl, wl, _, rfl, .inl (sqL (s1 _ _ hw)), (F.nx : Int), (l.length : Int), rfl, by rw [nums_len], dx, _, hp1, (by show 9 < 1000; decide), ?_⟩
      have enx : V.int ((F.nx : Int) + (l.length : Int)) = vN (m.next + l.length) := by
        rw [hin.next]
        show V.int _ = V.int _
        congr 1
      rw [enx]
      have k2 := keeps (H := H1) (p := p) (x := .ins a.c_House dx (putF "next_word" (vN (m.next + l.length)) (HF.f F)))
      have p2 : upd H1 p (.ins a.c_House dx (putF "next_word" (vN (m.next + l.length)) (HF.f F))) p = some (.ins a.c_House dx (HF.f { F with nx := m.next + l.length })) := upd_same
      generalize upd H1 p (.ins a.c_House dx (putF "next_word" (vN (m.next + l.length)) (HF.f F))) = H2 at k2 p2 ⊢
      have hin2 := HIn.keep hp1 k2 (hin.mono s1)
      have hin2' : HIn P w a H2 { F with nx := m.next + l.length } { m with next := m.next + l.length } := ⟨hin2.gram, hin2.text, rfl, hin2.names, hin2.marks, hin2.elder, hin2.later, hin2.tree, hin2.order⟩
      have kh2 : KeepH p H1 H2 := fun b o hb nb _ _ => k2 b o nb hb
      have eD := kh2.lst hp1 e1
      have hnk2 : ∀ x ∈ ns, WdAt H2 x.1 x.2 := fun x hx => kh2.tup hp1 (hnk x hx)
      obtain ⟨ps, ht, hps, hpl, hpk⟩ := hin2.text.one
      -- return self.step(self.text[:i] + new + self.text[i + n:])
      refine ⟨.ref p, rfl, p, _, _, rfl, p2, rfl, .ref p, rfl, p, _, _, _, .ref F.ta, rfl, p2, T.c_House, T.na_House_text, rfl, vN i, rfl, (i : Int), rfl, F.ta, _, rfl, sqL ht, fun q1 hq1 => ?_⟩
      rw [cut_to]
      have s3 : Same H2 (upd H2 q1 (.lst ((ps.map fun p => V.ref p.1).take i))) := same_new hq1
      refine ⟨.ref D, rfl, q1, D, _, _, rfl, rfl, upd_same, s3 _ _ eD, line_le (by rw [List.length_take, List.length_map, List.length_map]; omega), fun q2 hq2 => ?_⟩
      have s4 := s3.trans (same_new (o := .lst ((ps.map fun p => V.ref p.1).take i ++ ns.map fun p => V.ref p.1)) hq2)
      have e4 : upd (upd H2 q1 (.lst ((ps.map fun p => V.ref p.1).take i))) q2 (.lst ((ps.map fun p => V.ref p.1).take i ++ ns.map fun p => V.ref p.1)) q2 = _ := upd_same
      generalize upd (upd H2 q1 (.lst ((ps.map fun p => V.ref p.1).take i))) q2 (.lst ((ps.map fun p => V.ref p.1).take i ++ ns.map fun p => V.ref p.1)) = H4 at s4 e4 ⊢
      refine ⟨.ref p, rfl, p, _, _, _, .ref F.ta, rfl, s4 _ _ p2, T.c_House, T.na_House_text, rfl, vN i, rfl, vN n, rfl, (i : Int), (n : Int), rfl, rfl, ((i + n : Nat) : Int), (by show V.int _ = V.int _; congr 1), F.ta, _, rfl, sqL (s4 _ _ ht), fun q3 hq3 => ?_⟩
      rw [cut_from]
      have s5 := s4.trans (same_new (o := .lst ((ps.map fun p => V.ref p.1).drop (i + n))) hq3)
      have s45 : Same H4 (upd H4 q3 (.lst ((ps.map fun p => V.ref p.1).drop (i + n)))) := same_new hq3
      refine ⟨q2, q3, _, _, rfl, rfl, s45 _ _ e4, upd_same, line_le (by rw [List.length_append, List.length_take, List.length_map, List.length_map, List.length_drop, List.length_map]; omega), fun q4 hq4 => ?_⟩
      have s6 := s5.trans (same_new (o := .lst (((ps.map fun p => V.ref p.1).take i ++ ns.map fun p => V.ref p.1) ++ (ps.map fun p => V.ref p.1).drop (i + n))) hq4)
      have e6 : upd (upd H4 q3 (.lst ((ps.map fun p => V.ref p.1).drop (i + n)))) q4 (.lst (((ps.map fun p => V.ref p.1).take i ++ ns.map fun p => V.ref p.1) ++ (ps.map fun p => V.ref p.1).drop (i + n))) q4 = _ := upd_same
      generalize upd (upd H4 q3 (.lst ((ps.map fun p => V.ref p.1).drop (i + n)))) q4 (.lst (((ps.map fun p => V.ref p.1).take i ++ ns.map fun p => V.ref p.1) ++ (ps.map fun p => V.ref p.1).drop (i + n))) = H6 at s6 e6 ⊢
      have htext : TextAt H6 q4 (m.text.take i ++ Gs.newWords m.next l ++ m.text.drop (i + n)) := by
        refine ⟨ps.take i ++ ns ++ ps.drop (i + n), ?_, ?_, fun x hx => ?_⟩
        · rw [e6]
          simp
        · rw [List.map_append, List.map_append, hns, List.map_take, List.map_drop]
          have : ps.map (·.2) = m.text := hps
          rw [this]
        · rcases List.mem_append.mp hx with z | z
          · rcases List.mem_append.mp z with z | z
            · exact s6 _ _ (hpk x (List.mem_of_mem_take z))
            · exact s6 _ _ (hnk2 x z)
          · exact s6 _ _ (hpk x (List.mem_of_mem_drop z))
      have k06 : KH p nm mk H H6 := (KH.ofp (fun b o nb hb => k2 _ _ nb (s1 _ _ hb)) p2).trans (KH.of s6)
      exact ⟨p, nm, mk, q4, { m with next := m.next + l.length }, _, rfl, ⟨dx, { F with nx := m.next + l.length }, s6 _ _ p2, enm, emr, hin2'.mono s6⟩, htext, ⟨fit.good, fit.lim, fit.text, fit.elder, fit.later, fit.names, fit.order⟩, fun H7 r hH7 k7 hr hn => q H7 r hH7 (k06.trans k7) hr (k06.dom _ hn)⟩
end
end Gw
/-! # Walks: move, undo, redo -/
namespace Gw
open PySem PySem.Spec PyProof.Rows L2 Gr
open Nt (Sign Rule Grammar Tree)
open Gs (Nd Wd HM NRule)
def mvT {α : Type} (t : List α) (i n to : Nat) : List α := (t.take i ++ t.drop (i + n)).take to ++ (t.drop i).take n ++ (t.take i ++ t.drop (i + n)).drop to
section
variable {P : Program} {w : World} {K : PySem.W.Frag} {mg : Str → Option Value} {base : Heap} {a : Ad}
/-! ### move -/
def sp_House_move (P : Program) (w : World) (K : PySem.W.Frag) (a : Ad) : Sp := fun vs H Q _ => ∃ (p nm mk : Addr) (m : HM) (i n to : Nat), vs = [.ref p, vN i, vN n, vN to] ∧ HouseAt P w a H p nm mk m ∧ m.text.length ≤ 24 ∧ Fit0 m (mvT m.text i n to) ∧
  ∀ H' r, HouseAt P w a H' p nm mk (m.move i n to).1 → KH p nm mk H H' → NumsL H' r (m.move i n to).2 → H r = none → Q (.ref r) H'
theorem ok_House_move (F : Fn K "move" "House.move" s_House_move a.f_House_move) (T : Txt K mg a) (h_House_step : Pr P w K mg base CX0 9 a.f_House_step ["self", "text"] (sp_House_step P w K a)) : Pr P w K mg base CX0 10 a.f_House_move ["self", "i", "n", "to"] (sp_House_move P w K a) := by
  obtain ⟨fd, F⟩ := F
  obtain ⟨fd_House_step, G_House_step, B_House_step, K_House_step⟩ := h_House_step
  refine ⟨fd, F.ok sc_House_move (fun vs H Q E h => ?_) (fun cdv A outer s H vs Q E hr h => ?_), F.binds (ps := ["self", "i", "n", "to"]) fun _ _ _ _ _ _ us hl => match us, hl with | [_, _, _, _], _ => rfl, F.kp⟩
  · obtain ⟨p, nm, mk, m, i, n, to, rfl, _⟩ := h
    rfl
  · obtain ⟨p, nm, mk, m, i, n, to, rfl, ⟨dx, F, hp, enm, emr, hin⟩, htl, fit, q⟩ := h
    refine ⟨_, (pss_cons (ps_set (i := 4) sc_House_move.nd rfl (Or.inl rfl) (pe_op op_cat (pe_slice sl_list (pe_fld (pv 0) rfl) po_none (po_some (pv 1))) (pe_slice sl_list (pe_fld (pv 0) rfl) (po_some (pe_op op_add (pv 1) (pv 2))) po_none)))
      (pss_one (ps_ret (pe_meth (pv 0) T.c_House T.m_House_step G_House_step (hr.mono (by decide)) B_House_step .nil pass0 (pa_cons (pe_op op_cat (pe_op op_cat (pe_slice sl_list (pv 4) po_none (po_some (pv 3))) (pe_slice sl_list (pe_fld (pv 0) rfl) (po_some (pv 1)) (po_some (pe_op op_add (pv 1) (pv 2))))) (pe_slice sl_list (pv 4) (po_some (pv 3)) po_none)) pa_nil))))), ?_⟩
    obtain ⟨ps, ht, hps, hpl, hpk⟩ := hin.text.one
    have esum : (fun i j : Int => V.int (i + j)) (i : Int) (n : Int) = V.int ((i + n : Nat) : Int) := by
      show V.int _ = V.int _
      congr 1
    -- left = self.text[:i] + self.text[i + n:]
    refine ⟨.ref p, rfl, p, _, _, _, .ref F.ta, rfl, hp, T.c_House, T.na_House_text, rfl, vN i, rfl, (i : Int), rfl, F.ta, _, rfl, sqL ht, fun q1 hq1 => ?_⟩
    rw [cut_to]
    have s1 : Same H (upd H q1 (.lst ((ps.map fun p => V.ref p.1).take i))) := same_new hq1
    have e1 : upd H q1 (.lst ((ps.map fun p => V.ref p.1).take i)) q1 = _ := upd_same
    generalize upd H q1 (.lst ((ps.map fun p => V.ref p.1).take i)) = H1 at s1 e1 ⊢
    refine ⟨.ref p, rfl, p, _, _, _, .ref F.ta, rfl, s1 _ _ hp, T.c_House, T.na_House_text, rfl, vN i, rfl, vN n, rfl, (i : Int), (n : Int), rfl, rfl, ((i + n : Nat) : Int), esum, F.ta, _, rfl, sqL (s1 _ _ ht), fun q2 hq2 => ?_⟩
    rw [cut_from]
    have s12 : Same H1 (upd H1 q2 (.lst ((ps.map fun p => V.ref p.1).drop (i + n)))) := same_new hq2
    have s2 := s1.trans s12
    have e2 : upd H1 q2 (.lst ((ps.map fun p => V.ref p.1).drop (i + n))) q2 = _ := upd_same
    generalize upd H1 q2 (.lst ((ps.map fun p => V.ref p.1).drop (i + n))) = H2 at s12 s2 e2 ⊢
    refine ⟨q1, q2, _, _, rfl, rfl, s12 _ _ e1, e2, line_le (by rw [List.length_take, List.length_drop, List.length_map]; omega), fun q3 hq3 => ?_⟩
    have ecat : (ps.map fun p => V.ref p.1).take i ++ (ps.map fun p => V.ref p.1).drop (i + n) = (ps.take i ++ ps.drop (i + n)).map fun p => V.ref p.1 := by simp
    rw [ecat]
    have s3 := s2.trans (same_new (o := .lst ((ps.take i ++ ps.drop (i + n)).map fun p => V.ref p.1)) hq3)
    have e3 : upd H2 q3 (.lst ((ps.take i ++ ps.drop (i + n)).map fun p => V.ref p.1)) q3 = _ := upd_same
    generalize upd H2 q3 (.lst ((ps.take i ++ ps.drop (i + n)).map fun p => V.ref p.1)) = H3 at s3 e3 ⊢
    have hll : (ps.take i ++ ps.drop (i + n)).length ≤ 48 := by
      rw [List.length_append, List.length_take, List.length_drop]
      omega
    -- return self.step(left[:to] + self.text[i:i + n] + left[to:])
    refine ⟨.ref p, rfl, p, _, _, rfl, s3 _ _ hp, rfl, .ref q3, rfl, vN to, rfl, (to : Int), rfl, q3, _, rfl, sqL e3, fun q4 hq4 => ?_⟩
    rw [cut_to]
    have s34 : Same H3 (upd H3 q4 (.lst (((ps.take i ++ ps.drop (i + n)).map fun p => V.ref p.1).take to))) := same_new hq4
    have e4 : upd H3 q4 (.lst (((ps.take i ++ ps.drop (i + n)).map fun p => V.ref p.1).take to)) q4 = _ := upd_same
    generalize upd H3 q4 (.lst (((ps.take i ++ ps.drop (i + n)).map fun p => V.ref p.1).take to)) = H4 at s34 e4 ⊢
    have s4 := s3.trans s34
    refine ⟨.ref p, rfl, p, _, _, _, .ref F.ta, rfl, s4 _ _ hp, T.c_House, T.na_House_text, rfl, vN i, rfl, (i : Int), rfl, vN i, rfl, vN n, rfl, (i : Int), (n : Int), rfl, rfl, ((i + n : Nat) : Int), esum, F.ta, _, rfl, sqL (s4 _ _ ht), fun q5 hq5 => ?_⟩
    rw [cut_mid, Nat.add_sub_cancel_left]
    have s45 : Same H4 (upd H4 q5 (.lst (((ps.map fun p => V.ref p.1).drop i).take n))) := same_new hq5
    have e5 : upd H4 q5 (.lst (((ps.map fun p => V.ref p.1).drop i).take n)) q5 = _ := upd_same
    generalize upd H4 q5 (.lst (((ps.map fun p => V.ref p.1).drop i).take n)) = H5 at s45 e5 ⊢
    refine ⟨q4, q5, _, _, rfl, rfl, s45 _ _ e4, e5, line_le (by rw [List.length_take, List.length_take, List.length_drop, List.length_map, List.length_map]; omega), fun q6 hq6 => ?_⟩
    have s56 := same_new (o := .lst (((ps.take i ++ ps.drop (i + n)).map fun p => V.ref p.1).take to ++ ((ps.map fun p => V.ref p.1).drop i).take n)) hq6
    have e6 : upd H5 q6 (.lst (((ps.take i ++ ps.drop (i + n)).map fun p => V.ref p.1).take to ++ ((ps.map fun p => V.ref p.1).drop i).take n)) q6 = _ := upd_same
    generalize upd H5 q6 (.lst (((ps.take i ++ ps.drop (i + n)).map fun p => V.ref p.1).take to ++ ((ps.map fun p => V.ref p.1).drop i).take n)) = H6 at s56 e6 ⊢
    have s36 := (s34.trans s45).trans s56
    refine ⟨.ref q3, rfl, vN to, rfl, (to : Int), rfl, q3, _, rfl, sqL (s36 _ _ e3), fun q7 hq7 => ?_⟩
    rw [cut_from]
    have s67 : Same H6 (upd H6 q7 (.lst (((ps.take i ++ ps.drop (i + n)).map fun p => V.ref p.1).drop to))) := same_new hq7
    have e7 : upd H6 q7 (.lst (((ps.take i ++ ps.drop (i + n)).map fun p => V.ref p.1).drop to)) q7 = _ := upd_same
    generalize upd H6 q7 (.lst (((ps.take i ++ ps.drop (i + n)).map fun p => V.ref p.1).drop to)) = H7 at s67 e7 ⊢
    refine ⟨q6, q7, _, _, rfl, rfl, s67 _ _ e6, e7, line_le (by rw [List.length_append, List.length_take, List.length_take, List.length_drop, List.length_drop, List.length_map, List.length_map]; omega), fun q8 hq8 => ?_⟩
    have s78 := same_new (o := .lst ((((ps.take i ++ ps.drop (i + n)).map fun p => V.ref p.1).take to ++ ((ps.map fun p => V.ref p.1).drop i).take n) ++ ((ps.take i ++ ps.drop (i + n)).map fun p => V.ref p.1).drop to)) hq8
    have e8 : upd H7 q8 (.lst ((((ps.take i ++ ps.drop (i + n)).map fun p => V.ref p.1).take to ++ ((ps.map fun p => V.ref p.1).drop i).take n) ++ ((ps.take i ++ ps.drop (i + n)).map fun p => V.ref p.1).drop to)) q8 = _ := upd_same
    generalize upd H7 q8 (.lst ((((ps.take i ++ ps.drop (i + n)).map fun p => V.ref p.1).take to ++ ((ps.map fun p => V.ref p.1).drop i).take n) ++ ((ps.take i ++ ps.drop (i + n)).map fun p => V.ref p.1).drop to)) = H8 at s78 e8 ⊢
    have s8 := ((s3.trans s36).trans s67).trans s78
    have htext : TextAt H8 q8 (mvT m.text i n to) := by
      refine ⟨mvT ps i n to, ?_, ?_, fun x hx => ?_⟩
      · rw [e8]
        unfold mvT
        simp
      · unfold mvT
        rw [List.map_append, List.map_append, List.map_take, List.map_take, List.map_drop, List.map_drop, List.map_append, List.map_take, List.map_drop]
        have : ps.map (·.2) = m.text := hps
        rw [this]
      · have : x ∈ ps := by
          unfold mvT at hx
          have lf : ∀ y, y ∈ ps.take i ++ ps.drop (i + n) → y ∈ ps := fun y hy => by
            rcases List.mem_append.mp hy with z | z
            · exact List.mem_of_mem_take z
            · exact List.mem_of_mem_drop z
          rcases List.mem_append.mp hx with z | z
          · rcases List.mem_append.mp z with z | z
            · exact lf x (List.mem_of_mem_take z)
            · exact List.mem_of_mem_drop (List.mem_of_mem_take z)
          · exact lf x (List.mem_of_mem_drop z)
        exact s8 _ _ (hpk x this)
    exact ⟨p, nm, mk, q8, m, _, rfl, ⟨dx, F, s8 _ _ hp, enm, emr, hin.mono s8⟩, htext, fit, fun H9 r hH9 k9 hr hn => q H9 r hH9 ((KH.of s8).trans k9) hr (none_of_same s8 hn)⟩
/-! ### undo -/
theorem texts_last {H : Hp} {b : Addr} {es : List (List Wd)} {t : List Wd} (h : TextsAt H b (es ++ [t])) : ∃ (ps : List (Addr × List Wd)) (c : Addr), H b = some (.lst ((ps.map fun p => V.ref p.1) ++ [.ref c])) ∧ ps.map (·.2) = es ∧ (∀ p ∈ ps, TextAt H p.1 p.2) ∧ TextAt H c t := by
  obtain ⟨ps, h1, h2, h3⟩ := h
  rcases List.eq_nil_or_concat ps with z | ⟨l, x, z⟩
  · rw [z] at h2
    simp at h2
  · rw [List.concat_eq_append] at z
    subst z
    rw [List.map_append] at h1 h2
    obtain ⟨g1, g2⟩ := List.append_inj' h2 rfl
    refine ⟨l, x.1, h1, g1, fun p hp => h3 p (List.mem_append_left _ hp), ?_⟩
    have := h3 x (List.mem_append_right _ List.mem_cons_self)
    have e : x.2 = t := by simpa using g2
    rw [e] at this
    exact this
def sp_House_undo (P : Program) (w : World) (K : PySem.W.Frag) (a : Ad) : Sp := fun vs H Q _ => ∃ (p nm mk : Addr) (m : HM), vs = [.ref p] ∧ HouseAt P w a H p nm mk m ∧ m.elder ≠ [] ∧ Gs.HM.Fit m ∧
  ∀ H' r, HouseAt P w a H' p nm mk m.undo.1 → KH p nm mk H H' → NumsL H' r m.undo.2 → H r = none → Q (.ref r) H'
theorem ok_House_undo (F : Fn K "undo" "House.undo" s_House_undo a.f_House_undo) (T : Txt K mg a) (h_House_change : Pr P w K mg base CX0 8 a.f_House_change ["self", "text"] (sp_House_change P w K a)) : Pr P w K mg base CX0 9 a.f_House_undo ["self"] (sp_House_undo P w K a) := by
  obtain ⟨fd, F⟩ := F
  obtain ⟨fd_House_change, G_House_change, B_House_change, K_House_change⟩ := h_House_change
  refine ⟨fd, F.ok sc_House_undo (fun vs H Q E h => ?_) (fun cdv A outer s H vs Q E hr h => ?_), F.binds (ps := ["self"]) fun _ _ _ _ _ _ us hl => match us, hl with | [_], _ => rfl, F.kp⟩
  · obtain ⟨p, nm, mk, m, rfl, _⟩ := h
    rfl
  · obtain ⟨p, nm, mk, m, rfl, ⟨dx, F, hp, enm, emr, hin⟩, hne, fit, q⟩ := h
    refine ⟨_, (pss_cons (ps_fld (pv 0) (pe_op op_cat (pe_fld (pv 0) rfl) (pe_lst (pa_cons (pe_fld (pv 0) rfl) pa_nil))) rfl)
      (pss_cons (ps_set (i := 1) sc_House_undo.nd rfl (Or.inl rfl) (pe_ix ix_list (pe_fld (pv 0) rfl) (pe_un un_neg pe_int) (fun _ _ => rfl)))
      (pss_cons (ps_fld (pv 0) (pe_slice sl_list (pe_fld (pv 0) rfl) po_none (po_some (pe_un un_neg pe_int))) rfl)
      (pss_one (ps_ret (pe_meth (pv 0) T.c_House T.m_House_change G_House_change (hr.mono (by decide)) B_House_change .nil pass0 (pa_cons (pv 1) pa_nil))))))), ?_⟩
    obtain ⟨es, t0, hes⟩ : ∃ es t0, m.elder = es ++ [t0] := by
      rcases List.eq_nil_or_concat m.elder with z | ⟨l, x, z⟩
      · exact absurd z hne
      · exact ⟨l, x, by rw [z, List.concat_eq_append]⟩
    have he := hin.elder
    rw [hes] at he
    have hlen := fit.elder
    have hll := fit.later
    have ht0 := fit.elders t0 (by rw [hes]; exact List.mem_append_right _ List.mem_cons_self)
    rw [hes, List.length_append] at hlen
    obtain ⟨ls, hl, hls, hlsl, hlk⟩ := hin.later.one
    -- self.later = self.later + [self.text]
    refine ⟨.ref p, rfl, p, _, _, _, .ref F.la, rfl, hp, T.c_House, T.na_House_later, rfl, .ref p, rfl, p, _, _, _, .ref F.ta, rfl, hp, T.c_House, T.na_House_text, rfl, line_le (by show 1 ≤ _; decide), ?_⟩
    intro q1 hq1
    have s1 : Same H (upd H q1 (.lst [.ref F.ta])) := same_new hq1
    refine ⟨F.la, q1, _, _, rfl, rfl, s1 _ _ hl, upd_same, line_le (by rw [List.length_map]; show ls.length + 1 ≤ _; omega), fun q2 hq2 => ?_⟩
    have s2 := s1.trans (same_new (o := .lst ((ls.map fun p => V.ref p.1) ++ [.ref F.ta])) hq2)
    have e2 : upd (upd H q1 (.lst [.ref F.ta])) q2 (.lst ((ls.map fun p => V.ref p.1) ++ [.ref F.ta])) q2 = _ := upd_same
    generalize upd (upd H q1 (.lst [.ref F.ta])) q2 (.lst ((ls.map fun p => V.ref p.1) ++ [.ref F.ta])) = H2 at s2 e2 ⊢
    have hp2 := s2 _ _ hp
    have hin2 := hin.mono s2
    have hla : TextsAt H2 q2 (m.later ++ [m.text]) := by
      refine ⟨ls ++ [(F.ta, m.text)], by rw [e2, List.map_append]; rfl, by rw [List.map_append, hls]; rfl, fun x hx => ?_⟩
      rcases List.mem_append.mp hx with z | z
      · exact TextAt.mono (hlk x z) s2
      · rw [List.mem_singleton.mp z]
        exact hin2.text
    refine ⟨_, rfl, p, _, dx, _, rfl, hp2, T.c_House, T.na_House_later, (by show 9 < 1000; decide), ?_⟩
    have hin2' : HIn P w a H2 { F with la := q2 } { m with later := m.later ++ [m.text] } := ⟨hin2.gram, hin2.text, hin2.next, hin2.names, hin2.marks, hin2.elder, hla, hin2.tree, hin2.order⟩
    have k3 := keeps (H := H2) (p := p) (x := .ins a.c_House dx (putF "later" (V.ref q2) (HF.f F)))
    have p3 : upd H2 p (.ins a.c_House dx (putF "later" (V.ref q2) (HF.f F))) p = some (.ins a.c_House dx (HF.f { F with la := q2 })) := upd_same
    generalize upd H2 p (.ins a.c_House dx (putF "later" (V.ref q2) (HF.f F))) = H3 at k3 p3 ⊢
    have hin3 := HIn.keep hp2 k3 hin2'
    have hel3 : TextsAt H3 F.ea (es ++ [t0]) := KeepH.texts (fun b o hb nb _ _ => k3 b o nb hb) hp2 (TextsAt.mono he s2)
    obtain ⟨ps, c, ee, hps, hpk, hc⟩ := texts_last hel3
    have hpsl : ps.length = es.length := by rw [← hps, List.length_map]
    -- text = self.elder[-1]
    refine ⟨.ref p, rfl, p, _, _, _, .ref F.ea, rfl, p3, T.c_House, T.na_House_elder, rfl, 1, rfl, F.ea, _, -1, .ref c, rfl, rfl, sqL ee, atI_last _ _, ?_⟩
    -- self.elder = self.elder[:-1]
    refine ⟨.ref p, rfl, p, _, _, _, .ref F.ea, rfl, p3, T.c_House, T.na_House_elder, rfl, 1, rfl, -1, rfl, F.ea, _, rfl, sqL ee, fun q4 hq4 => ?_⟩
    rw [cut_but, List.dropLast_concat]
    have s4 : Same H3 (upd H3 q4 (.lst (ps.map fun p => V.ref p.1))) := same_new hq4
    have e4 : upd H3 q4 (.lst (ps.map fun p => V.ref p.1)) q4 = _ := upd_same
    generalize upd H3 q4 (.lst (ps.map fun p => V.ref p.1)) = H4 at s4 e4 ⊢
    have hp4 := s4 _ _ p3
    refine ⟨_, rfl, p, _, dx, _, rfl, hp4, T.c_House, T.na_House_elder, (by show 9 < 1000; decide), ?_⟩
    have hin4 := hin3.mono s4
    have hin4' : HIn P w a H4 { F with la := q2, ea := q4 } { m with later := m.later ++ [m.text], elder := es } := ⟨hin4.gram, hin4.text, hin4.next, hin4.names, hin4.marks, ⟨ps, e4, hps, fun x hx => TextAt.mono (hpk x hx) s4⟩, hin4.later, hin4.tree, hin4.order⟩
    have k5 := keeps (H := H4) (p := p) (x := .ins a.c_House dx (putF "elder" (V.ref q4) (HF.f { F with la := q2 })))
    have p5 : upd H4 p (.ins a.c_House dx (putF "elder" (V.ref q4) (HF.f { F with la := q2 }))) p = some (.ins a.c_House dx (HF.f { F with la := q2, ea := q4 })) := upd_same
    generalize upd H4 p (.ins a.c_House dx (putF "elder" (V.ref q4) (HF.f { F with la := q2 }))) = H5 at k5 p5 ⊢
    have hin5 := HIn.keep hp4 k5 hin4'
    have hc5 : TextAt H5 c t0 := KeepH.text (fun b o hb nb _ _ => k5 b o nb hb) hp4 (TextAt.mono hc s4)
    have k05 : KH p nm mk H H5 := KH.ofp (fun b o nb hb => k5 _ _ nb (s4 _ _ (k3 _ _ nb (s2 _ _ hb)))) p5
    have eun : m.undo = HM.change { m with later := m.later ++ [m.text], elder := es } t0 := by
      unfold Gs.HM.undo
      rw [hes]
      simp
    rw [eun] at q
    exact ⟨.ref p, rfl, p, _, _, rfl, p5, rfl, .ref c, rfl, p, nm, mk, c, { m with later := m.later ++ [m.text], elder := es }, t0, rfl, ⟨dx, { F with la := q2, ea := q4 }, p5, enm, emr, hin5⟩, hc5, fit.good, fit.lim, ht0, fit.names, fit.order, fun H6 r hH6 k6 hr hn => q H6 r hH6 (k05.trans k6) hr (k05.dom _ hn)⟩
/-! ### redo -/
def sp_House_redo (P : Program) (w : World) (K : PySem.W.Frag) (a : Ad) : Sp := fun vs H Q _ => ∃ (p nm mk : Addr) (m : HM), vs = [.ref p] ∧ HouseAt P w a H p nm mk m ∧ m.later ≠ [] ∧ Gs.HM.Fit m ∧
  ∀ H' r, HouseAt P w a H' p nm mk m.redo.1 → KH p nm mk H H' → NumsL H' r m.redo.2 → H r = none → Q (.ref r) H'
theorem ok_House_redo (F : Fn K "redo" "House.redo" s_House_redo a.f_House_redo) (T : Txt K mg a) (h_House_change : Pr P w K mg base CX0 8 a.f_House_change ["self", "text"] (sp_House_change P w K a)) : Pr P w K mg base CX0 9 a.f_House_redo ["self"] (sp_House_redo P w K a) := by
  obtain ⟨fd, F⟩ := F
  obtain ⟨fd_House_change, G_House_change, B_House_change, K_House_change⟩ := h_House_change
  refine ⟨fd, F.ok sc_House_redo (fun vs H Q E h => ?_) (fun cdv A outer s H vs Q E hr h => ?_), F.binds (ps := ["self"]) fun _ _ _ _ _ _ us hl => match us, hl with | [_], _ => rfl, F.kp⟩
  · obtain ⟨p, nm, mk, m, rfl, _⟩ := h
    rfl
  · obtain ⟨p, nm, mk, m, rfl, ⟨dx, F, hp, enm, emr, hin⟩, hne, fit, q⟩ := h
    refine ⟨_, (pss_cons (ps_fld (pv 0) (pe_op op_cat (pe_fld (pv 0) rfl) (pe_lst (pa_cons (pe_fld (pv 0) rfl) pa_nil))) rfl)
      (pss_cons (ps_set (i := 1) sc_House_redo.nd rfl (Or.inl rfl) (pe_ix ix_list (pe_fld (pv 0) rfl) (pe_un un_neg pe_int) (fun _ _ => rfl)))
      (pss_cons (ps_fld (pv 0) (pe_slice sl_list (pe_fld (pv 0) rfl) po_none (po_some (pe_un un_neg pe_int))) rfl)
      (pss_one (ps_ret (pe_meth (pv 0) T.c_House T.m_House_change G_House_change (hr.mono (by decide)) B_House_change .nil pass0 (pa_cons (pv 1) pa_nil))))))), ?_⟩
    obtain ⟨es, t0, hes⟩ : ∃ es t0, m.later = es ++ [t0] := by
      rcases List.eq_nil_or_concat m.later with z | ⟨l, x, z⟩
      · exact absurd z hne
      · exact ⟨l, x, by rw [z, List.concat_eq_append]⟩
    have he := hin.later
    rw [hes] at he
    have hlen := fit.later
    have hll := fit.elder
    have ht0 := fit.laters t0 (by rw [hes]; exact List.mem_append_right _ List.mem_cons_self)
    rw [hes, List.length_append] at hlen
    obtain ⟨ls, hl, hls, hlsl, hlk⟩ := hin.elder.one
    -- self.elder = self.elder + [self.text]
    refine ⟨.ref p, rfl, p, _, _, _, .ref F.ea, rfl, hp, T.c_House, T.na_House_elder, rfl, .ref p, rfl, p, _, _, _, .ref F.ta, rfl, hp, T.c_House, T.na_House_text, rfl, line_le (by show 1 ≤ _; decide), ?_⟩
    intro q1 hq1
    have s1 : Same H (upd H q1 (.lst [.ref F.ta])) := same_new hq1
    refine ⟨F.ea, q1, _, _, rfl, rfl, s1 _ _ hl, upd_same, line_le (by rw [List.length_map]; show ls.length + 1 ≤ _; omega), fun q2 hq2 => ?_⟩
    have s2 := s1.trans (same_new (o := .lst ((ls.map fun p => V.ref p.1) ++ [.ref F.ta])) hq2)
    have e2 : upd (upd H q1 (.lst [.ref F.ta])) q2 (.lst ((ls.map fun p => V.ref p.1) ++ [.ref F.ta])) q2 = _ := upd_same
    generalize upd (upd H q1 (.lst [.ref F.ta])) q2 (.lst ((ls.map fun p => V.ref p.1) ++ [.ref F.ta])) = H2 at s2 e2 ⊢
    have hp2 := s2 _ _ hp
    have hin2 := hin.mono s2
    have hla : TextsAt H2 q2 (m.elder ++ [m.text]) := by
      refine ⟨ls ++ [(F.ta, m.text)], by rw [e2, List.map_append]; rfl, by rw [List.map_append, hls]; rfl, fun x hx => ?_⟩
      rcases List.mem_append.mp hx with z | z
      · exact TextAt.mono (hlk x z) s2
      · rw [List.mem_singleton.mp z]
        exact hin2.text
    refine ⟨_, rfl, p, _, dx, _, rfl, hp2, T.c_House, T.na_House_elder, (by show 9 < 1000; decide), ?_⟩
    have hin2' : HIn P w a H2 { F with ea := q2 } { m with elder := m.elder ++ [m.text] } := ⟨hin2.gram, hin2.text, hin2.next, hin2.names, hin2.marks, hla, hin2.later, hin2.tree, hin2.order⟩
    have k3 := keeps (H := H2) (p := p) (x := .ins a.c_House dx (putF "elder" (V.ref q2) (HF.f F)))
    have p3 : upd H2 p (.ins a.c_House dx (putF "elder" (V.ref q2) (HF.f F))) p = some (.ins a.c_House dx (HF.f { F with ea := q2 })) := upd_same
    generalize upd H2 p (.ins a.c_House dx (putF "elder" (V.ref q2) (HF.f F))) = H3 at k3 p3 ⊢
    have hin3 := HIn.keep hp2 k3 hin2'
    have hel3 : TextsAt H3 F.la (es ++ [t0]) := KeepH.texts (fun b o hb nb _ _ => k3 b o nb hb) hp2 (TextsAt.mono he s2)
    obtain ⟨ps, c, ee, hps, hpk, hc⟩ := texts_last hel3
    have hpsl : ps.length = es.length := by rw [← hps, List.length_map]
    -- text = self.later[-1]
    refine ⟨.ref p, rfl, p, _, _, _, .ref F.la, rfl, p3, T.c_House, T.na_House_later, rfl, 1, rfl, F.la, _, -1, .ref c, rfl, rfl, sqL ee, atI_last _ _, ?_⟩
    -- self.later = self.later[:-1]
    refine ⟨.ref p, rfl, p, _, _, _, .ref F.la, rfl, p3, T.c_House, T.na_House_later, rfl, 1, rfl, -1, rfl, F.la, _, rfl, sqL ee, fun q4 hq4 => ?_⟩
    rw [cut_but, List.dropLast_concat]
    have s4 : Same H3 (upd H3 q4 (.lst (ps.map fun p => V.ref p.1))) := same_new hq4
    have e4 : upd H3 q4 (.lst (ps.map fun p => V.ref p.1)) q4 = _ := upd_same
    generalize upd H3 q4 (.lst (ps.map fun p => V.ref p.1)) = H4 at s4 e4 ⊢
    have hp4 := s4 _ _ p3
    refine ⟨_, rfl, p, _, dx, _, rfl, hp4, T.c_House, T.na_House_later, (by show 9 < 1000; decide), ?_⟩
    have hin4 := hin3.mono s4
    have hin4' : HIn P w a H4 { F with ea := q2, la := q4 } { m with elder := m.elder ++ [m.text], later := es } := ⟨hin4.gram, hin4.text, hin4.next, hin4.names, hin4.marks, hin4.elder, ⟨ps, e4, hps, fun x hx => TextAt.mono (hpk x hx) s4⟩, hin4.tree, hin4.order⟩
    have k5 := keeps (H := H4) (p := p) (x := .ins a.c_House dx (putF "later" (V.ref q4) (HF.f { F with ea := q2 })))
    have p5 : upd H4 p (.ins a.c_House dx (putF "later" (V.ref q4) (HF.f { F with ea := q2 }))) p = some (.ins a.c_House dx (HF.f { F with ea := q2, la := q4 })) := upd_same
    generalize upd H4 p (.ins a.c_House dx (putF "later" (V.ref q4) (HF.f { F with ea := q2 }))) = H5 at k5 p5 ⊢
    have hin5 := HIn.keep hp4 k5 hin4'
    have hc5 : TextAt H5 c t0 := KeepH.text (fun b o hb nb _ _ => k5 b o nb hb) hp4 (TextAt.mono hc s4)
    have k05 : KH p nm mk H H5 := KH.ofp (fun b o nb hb => k5 _ _ nb (s4 _ _ (k3 _ _ nb (s2 _ _ hb)))) p5
    have eun : m.redo = HM.change { m with elder := m.elder ++ [m.text], later := es } t0 := by
      unfold Gs.HM.redo
      rw [hes]
      simp
    rw [eun] at q
    exact ⟨.ref p, rfl, p, _, _, rfl, p5, rfl, .ref c, rfl, p, nm, mk, c, { m with elder := m.elder ++ [m.text], later := es }, t0, rfl, ⟨dx, { F with ea := q2, la := q4 }, p5, enm, emr, hin5⟩, hc5, fit.good, fit.lim, ht0, fit.names, fit.order, fun H6 r hH6 k6 hr hn => q H6 r hH6 (k05.trans k6) hr (k05.dom _ hn)⟩
end
end Gw
/-! # Walks: names and marks -/
namespace Gw
open PySem PySem.Spec PyProof.Rows L2 Gr
open Nt (Sign Rule Grammar Tree)
open Gs (Nd Wd HM NRule)
section
variable {P : Program} {w : World} {K : PySem.W.Frag} {mg : Str → Option Value} {base : Heap} {a : Ad}
theorem inl_dec {x y : Nat} : decide ((Sum.inl ((x : Nat) : Int) : L2.Key) = Sum.inl ((y : Nat) : Int)) = decide (x = y) := dec_eq ⟨fun h => by
  have := Sum.inl.inj h
  omega, fun h => by rw [h]⟩
theorem marks_drop (l : List (Nat × Nat)) (n : Nat) : dropK (marksK l) (Sum.inl ((n : Nat) : Int)) = marksK (Gs.dropM l n) := by
  unfold dropK marksK Gs.dropM
  rw [List.filter_map]
  congr 1
  refine List.filter_congr fun x _ => ?_
  show decide ((Sum.inl ((x.1 : Nat) : Int) : L2.Key) ≠ Sum.inl ((n : Nat) : Int)) = decide (x.1 ≠ n)
  refine dec_eq ⟨fun h z => h (by rw [z]), fun h z => h ?_⟩
  have := Sum.inl.inj z
  omega
theorem marks_any (l : List (Nat × Nat)) (n : Nat) : ((marksK l).any fun kv => decide (kv.1 = Sum.inl ((n : Nat) : Int))) = l.any fun x => decide (x.1 = n) := by
  unfold marksK
  rw [List.any_map]
  congr 1
  funext x
  exact inl_dec
theorem marks_put (l : List (Nat × Nat)) (n v : Nat) : putK (marksK l) (Sum.inl ((n : Nat) : Int)) (vN v) = marksK (Gs.putM l n v) := by
  unfold putK Gs.putM
  rw [marks_any]
  split
  · unfold marksK
    rw [List.map_map, List.map_map]
    refine List.map_congr_left fun x _ => ?_
    show (if (Sum.inl ((x.1 : Nat) : Int) : L2.Key) = Sum.inl ((n : Nat) : Int) then ((Sum.inl ((x.1 : Nat) : Int) : L2.Key), vN v) else (Sum.inl ((x.1 : Nat) : Int), vN x.2)) = (Sum.inl (((if x.1 = n then (x.1, v) else x).1 : Nat) : Int), vN (if x.1 = n then (x.1, v) else x).2)
    by_cases h : x.1 = n
    · rw [if_pos h, if_pos (by rw [h])]
    · rw [if_neg h, if_neg fun z => h (by have := Sum.inl.inj z; omega)]
  · unfold marksK
    rw [List.map_append]
    rfl
theorem marks_val (l : List (Nat × Nat)) (n : Nat) : valV (marksK l) (Sum.inl ((n : Nat) : Int)) = (Gs.markAt l n).map vN := by
  unfold valV marksK Gs.markAt
  rw [List.find?_map]
  have : ((fun kv : L2.Key × V => decide (kv.1 = Sum.inl ((n : Nat) : Int))) ∘ fun x : Nat × Nat => ((Sum.inl ((x.1 : Nat) : Int) : L2.Key), vN x.2)) = fun x => decide (x.1 = n) := by
    funext x
    exact inl_dec
  rw [this]
  cases l.find? fun x => decide (x.1 = n) <;> rfl
theorem dropM_none {l : List (Nat × Nat)} {n : Nat} (h : Gs.markAt l n = none) : Gs.dropM l n = l := by
  unfold Gs.markAt at h
  rw [Option.map_eq_none_iff, List.find?_eq_none] at h
  unfold Gs.dropM
  refine List.filter_eq_self.mpr fun x hx => ?_
  have := h x hx
  simpa using this
theorem marksK_len (l : List (Nat × Nat)) : (marksK l).length = l.length := List.length_map ..
/-! ### has_had -/
def sp_House_has_had (P : Program) (w : World) (K : PySem.W.Frag) (a : Ad) : Sp := fun vs H Q _ => ∃ (p nm mk : Addr) (m : HM) (n : Nat), vs = [.ref p, vN n] ∧ HouseAt P w a H p nm mk m ∧ Q (.bl (decide (n < m.names.length))) H
theorem ok_House_has_had (F : Fn K "has_had" "House.has_had" s_House_has_had a.f_House_has_had) (T : Txt K mg a)  : Pr P w K mg base CX0 1 a.f_House_has_had ["self", "name"] (sp_House_has_had P w K a) := by
  obtain ⟨fd, F⟩ := F
  refine ⟨fd, F.ok sc_House_has_had (fun vs H Q E h => ?_) (fun cdv A outer s H vs Q E hr h => ?_), F.binds (ps := ["self", "name"]) fun _ _ _ _ _ _ us hl => match us, hl with | [_, _], _ => rfl, F.kp⟩
  · obtain ⟨p, nm, mk, m, n, rfl, _⟩ := h
    rfl
  · obtain ⟨p, nm, mk, m, n, rfl, ⟨dx, F, hp, enm, emr, hin⟩, q⟩ := h
    refine ⟨_, (pss_one (ps_ret (pe_cmpR op_lt (pv 1) (pe_callB call_lenN (by rfl) T.n_len PySem.boot_len (pa_cons (pe_fld (pv 0) rfl) pa_nil)) (nomark _)))), ?_⟩
    refine ⟨vN n, rfl, .ref p, rfl, p, _, _, _, .ref F.nm, rfl, hp, T.c_House, T.na_House_names, rfl, F.nm, _, rfl, hin.names, (n : Int), _, rfl, rfl, ?_⟩
    exact bl_by (Q := Q) (c := (n : Int) < (m.names.length : Int)) (by omega) q
/-! ### place_of -/
theorem idx_before {l : List Nat} {n j m : Nat} (hj : j < l.idxOf n) (h : l[j]? = some m) : m ≠ n := fun e => by
  have hl := (List.getElem?_eq_some_iff.mp h)
  obtain ⟨h1, h2⟩ := hl
  have := List.not_of_lt_findIdx (p := fun x => x == n) (xs := l) (i := j) hj
  simp [h2, e] at this
def sp_House_place_of (P : Program) (w : World) (K : PySem.W.Frag) (a : Ad) : Sp := fun vs H Q _ => ∃ (p nm mk : Addr) (m : HM) (n : Nat), vs = [.ref p, vN n] ∧ HouseAt P w a H p nm mk m ∧ n ∈ m.order ∧ Q (vN (m.order.idxOf n)) H
theorem ok_House_place_of (F : Fn K "place_of" "House.place_of" s_House_place_of a.f_House_place_of) (T : Txt K mg a)  : Pr P w K mg base CX0 1 a.f_House_place_of ["self", "name"] (sp_House_place_of P w K a) := by
  obtain ⟨fd, F⟩ := F
  refine ⟨fd, F.ok sc_House_place_of (fun vs H Q E h => ?_) (fun cdv A outer s H vs Q E hr h => ?_), F.binds (ps := ["self", "name"]) fun _ _ _ _ _ _ us hl => match us, hl with | [_, _], _ => rfl, F.kp⟩
  · obtain ⟨p, nm, mk, m, n, rfl, _⟩ := h
    rfl
  · obtain ⟨p, nm, mk, m, n, rfl, ⟨dx, F, hp, enm, emr, hin⟩, hn, q⟩ := h
    refine ⟨_, (pss_one (ps_ret (pe_bm PySem.F.plainAttrs_list PySem.F.slot_list_index PySem.F.type_list_index mt_index (pe_fld (pv 0) rfl) (pa_cons (pv 1) pa_nil)))), ?_⟩
    have hlt := List.idxOf_lt_length_of_mem hn
    have hat : m.order[m.order.idxOf n]? = some n := by rw [List.getElem?_eq_getElem hlt, List.getElem_idxOf hlt]
    refine ⟨.ref p, rfl, p, _, _, _, .ref F.oa, rfl, hp, T.c_House, T.na_House_order, rfl, tyL hin.order, vN n, rfl, F.oa, _, vN n, m.order.idxOf n, vN n, rfl, rfl, sqL hin.order, rfl, flat_nums _, by rw [List.getElem?_map, hat]; rfl, by show ((n : Int) == (n : Int)) = true; simp, fun j z hj hz => ?_, q⟩
    obtain ⟨x, hx, rfl⟩ := get_map hz
    have := idx_before hj hx
    show ((x : Int) == (n : Int)) = false
    rw [beq_eq_false_iff_ne]
    omega
/-! ### set_mark -/
def sp_House_set_mark (P : Program) (w : World) (K : PySem.W.Frag) (a : Ad) : Sp := fun vs H Q _ => ∃ (p nm mk : Addr) (m : HM) (n v : Nat), vs = [.ref p, vN n, vN v] ∧ HouseAt P w a H p nm mk m ∧ m.marks.length ≤ 64 ∧
  ∀ H', HouseAt P w a H' p nm mk { m with marks := Gs.setMark m.marks n v } → KH p nm mk H H' → Q .non H'
theorem ok_House_set_mark (F : Fn K "set_mark" "House.set_mark" s_House_set_mark a.f_House_set_mark) (T : Txt K mg a)  : Pr P w K mg base CX0 1 a.f_House_set_mark ["self", "name", "v"] (sp_House_set_mark P w K a) := by
  obtain ⟨fd, F⟩ := F
  refine ⟨fd, F.ok sc_House_set_mark (fun vs H Q E h => ?_) (fun cdv A outer s H vs Q E hr h => ?_), F.binds (ps := ["self", "name", "v"]) fun _ _ _ _ _ _ us hl => match us, hl with | [_, _, _], _ => rfl, F.kp⟩
  · obtain ⟨p, nm, mk, m, n, v, rfl, _⟩ := h
    rfl
  · obtain ⟨p, nm, mk, m, n, v, rfl, ⟨dx, F, hp, enm, emr, hin⟩, hml, q⟩ := h
    refine ⟨_, (pss_one (ps_if (pt_cmpR op_eq (pv 2) pe_int (nomark _)) (pss_one (ps_expr (pe_dpop2 (pe_fld (pv 0) rfl) (pv 1) pe_non ⟨rfl, rfl, rfl, rfl⟩))) (pss_one (ps_dput (huN 1 hr) (pe_fld (pv 0) rfl) (pv 1) (pv 2) rfl)))), ?_⟩
    have em := hin.marks
    -- what is stored
    have fin : ∀ l, l = Gs.setMark m.marks n v → Q .non (upd H F.mr (.dK (marksK l))) := fun l hl => by
      have np : p ≠ F.mr := fun z => by rw [← z, hp] at em; cases em
      have k : ∀ b o, H b = some o → (∀ kv, o ≠ .dK kv) → upd H F.mr (.dK (marksK l)) b = some o := fun b o hb ho => by
        rw [upd_ne fun z => by rw [z, em] at hb; exact ho _ (Option.some.inj hb).symm]
        exact hb
      have s : KeepH p H (upd H F.mr (.dK (marksK l))) := fun b o hb _ _ n3 => k b o hb n3
      obtain ⟨gl, hg⟩ := hin.gram
      refine q _ ⟨dx, F, k _ _ hp (fun _ z => by cases z), enm, emr, ⟨gl, s.gram hp rfl hg⟩, s.text hp hin.text, hin.next, hin.names.mono (fun o z => k _ _ z ?_) (fun b xs z => k _ _ z fun _ y => by cases y), by rw [upd_same, hl], s.texts hp hin.elder, s.texts hp hin.later, s.tree hp rfl hin.tree, s.lst hp hin.order⟩ ⟨fun b o hb nS => ?_, fun b hb => ?_⟩
      · obtain ⟨xs, e, _⟩ := hin.names
        rw [e] at z
        intro kv y
        rw [y] at z
        cases z
      · rw [upd_ne fun z => nS (.inr (.inr (by rw [z, emr])))]
        exact hb
      · by_cases c : b = F.mr
        · rw [c, upd_same] at hb
          cases hb
        · rwa [upd_ne c] at hb
    refine ⟨vN v, rfl, rfl, _, rfl, ite2 (fun c => ?_) (fun c => ?_)⟩
    · have hv : v = 0 := by
        have := V.int.inj (of_decide_eq_true c)
        omega
      refine ⟨.ref p, rfl, p, _, _, _, .ref F.mr, rfl, hp, T.c_House, T.na_House_marks, rfl, F.mr, rfl, .inl ⟨_, .inl em⟩, vN n, rfl, _, Sum.inl ((n : Nat) : Int), em, rfl, fun u hu => ?_, fun hn => ?_⟩
      · rw [marks_drop]
        exact fin _ (by rw [Gs.setMark, if_pos hv])
      · rw [marks_val, Option.map_eq_none_iff] at hn
        have e0 := dropM_none hn
        refine q H ⟨dx, F, hp, enm, emr, hin.gram, hin.text, hin.next, hin.names, ?_, hin.elder, hin.later, hin.tree, hin.order⟩ (KH.refl _ _ _ H)
        show H F.mr = some (.dK (marksK (Gs.setMark m.marks n v)))
        rw [Gs.setMark, if_pos hv, e0]
        exact em
    · have hv : v ≠ 0 := fun z => c (decide_eq_true (by rw [z]; rfl))
      refine ⟨vN v, rfl, .ref p, rfl, p, _, _, _, .ref F.mr, rfl, hp, T.c_House, T.na_House_marks, rfl, vN n, rfl, F.mr, _, rfl, DPut.k (k := Sum.inl ((n : Nat) : Int)) em (line_lt (by rw [marksK_len]; omega)), ?_⟩
      rw [marks_put]
      exact fin _ (by rw [Gs.setMark, if_neg hv])
/-! ### is_full_for -/
def sp_House_is_full_for (P : Program) (w : World) (K : PySem.W.Frag) (a : Ad) : Sp := fun vs H Q _ => ∃ (p nm mk : Addr) (m : HM) (n : Nat), vs = [.ref p, vN n] ∧ HouseAt P w a H p nm mk m ∧ m.marks.length ≤ 64 ∧ ∀ H', Same H H' → Q (.bl (decide (64 ≤ Gs.others m.marks n))) H'
theorem ok_House_is_full_for (F : Fn K "is_full_for" "House.is_full_for" s_House_is_full_for a.f_House_is_full_for) (T : Txt K mg a)  : Pr P w K mg base CX0 1 a.f_House_is_full_for ["self", "name"] (sp_House_is_full_for P w K a) := by
  obtain ⟨fd, F⟩ := F
  refine ⟨fd, F.ok sc_House_is_full_for (fun vs H Q E h => ?_) (fun cdv A outer s H vs Q E hr h => ?_), F.binds (ps := ["self", "name"]) fun _ _ _ _ _ _ us hl => match us, hl with | [_, _], _ => rfl, F.kp⟩
  · obtain ⟨p, nm, mk, m, n, rfl, _⟩ := h
    rfl
  · obtain ⟨p, nm, mk, m, n, rfl, ⟨dx, F, hp, enm, emr, hin⟩, hml, q⟩ := h
    refine ⟨_, (pss_one (ps_ret (pe_cmpR op_ge (pe_callB call_len_seq (by rfl) T.n_len PySem.boot_len (pa_cons (pe_lock (pe_lc (own := [("one", 2)]) rfl sc_House_is_full_for.nd (pi_keys (pe_fld (pv 0) rfl)) (blkOk_by (N := ["self", "name", "one"]) (sc := defScope s_House_is_full_for) (by decide +kernel)) (fun _ _ _ _ _ => (pg_name (i := 2) sc_House_is_full_for.nd rfl (Or.inl rfl))) (fun _ _ _ _ _ => (pts_one (pt_cmpR op_ne (pv 2) (pv 1) (nomark _)))) (fun _ _ _ _ _ => (pv 2)))) pa_nil)) (pe_glob (v := .int (64)) rfl T.i_MOST_MARKS ⟨_, rfl⟩) (nomark _)))), ?_⟩
    have em := hin.marks
    have np : p ≠ F.mr := fun z => by rw [← z, hp] at em; cases em
    refine ⟨F.mr, _, em, trivial, fun od => ?_⟩
    have eL : upd H F.mr (.frz od (.dK (marksK m.marks))) F.mr = some (.frz od (.dK (marksK m.marks))) := upd_same
    have pL : upd H F.mr (.frz od (.dK (marksK m.marks))) p = some (.ins a.c_House dx (HF.f F)) := by rw [upd_ne np]; exact hp
    have kL : ∀ b o, b ≠ F.mr → H b = some o → upd H F.mr (.frz od (.dK (marksK m.marks))) b = some o := fun b o nb hb => by rw [upd_ne nb]; exact hb
    generalize upd H F.mr (.frz od (.dK (marksK m.marks))) = HL at eL pL kL ⊢
    refine ⟨.ref p, rfl, p, _, _, _, .ref F.mr, rfl, pL, T.c_House, T.na_House_marks, rfl, F.mr, od, rfl, .inl ⟨_, eL, fun D hD => ?_⟩⟩
    refine lc_it walk_keys (fun k H' => Same HL H' ∧ NumsL H' D (((m.marks.take k).filter fun x => decide (x.1 ≠ n)).map (·.1))) ⟨same_new hD, upd_same⟩ (fun k H' _ ⟨s, _⟩ => s _ _ eL) (fun k v H' H'' hk ⟨s, eD⟩ hy => ?_) (fun H' ⟨s, eD⟩ => ?_)
    · obtain ⟨rfl, kk, vv, hkv, rfl⟩ := hy
      obtain ⟨x, hx, exk⟩ := get_mapN hkv
      have ek : kk = Sum.inl ((x.1 : Nat) : Int) := by
        have := congrArg Prod.fst exk
        exact this
      subst ek
      have hfl : ((m.marks.take k).filter fun x => decide (x.1 ≠ n)).length ≤ 64 := by
        refine Nat.le_trans (List.length_filter_le _ _) ?_
        rw [List.length_take]
        omega
      refine ⟨rfl, vN x.1, rfl, vN n, rfl, rfl, _, rfl, ?_⟩
      rw [take_one hx, List.filter_append]
      by_cases hxn : x.1 = n
      · have e1 : (!decide (vN x.1 = vN n)) = false := by rw [hxn]; simp
        refine ite2 (fun c => ?_) (fun _ => ⟨s, ?_⟩)
        · have : (!decide (vN x.1 = vN n)) = true := c
          rw [e1] at this
          cases this
        · simpa [hxn] using eD
      · have e1 : (!decide (vN x.1 = vN n)) = true := by
          rw [Bool.not_eq_true', decide_eq_false_iff_not]
          intro z
          have := V.int.inj z
          omega
        refine ite2 (fun _ => ⟨vN x.1, rfl, _, eD, line_lt (by rw [List.length_map, List.length_map]; omega), same_upd_of s hD, ?_⟩) (fun c => absurd e1 c)
        unfold NumsL
        rw [upd_same]
        simp [hxn]
    · rw [marksK_len, List.take_length] at eD
      have nD : D ≠ F.mr := Ne.symm (ne_of_none eL hD)
      have s2 : Same H (upd H' F.mr (.dK (marksK m.marks))) := fun b o hb => by
        by_cases c : b = F.mr
        · rw [c, upd_same, ← em, ← c]
          exact hb
        · rw [upd_ne c]
          exact s _ _ (kL b o c hb)
      refine ⟨s _ _ eL, D, _, rfl, .inl (sqL (by rw [upd_ne nD]; exact eD)), _, 64, rfl, rfl, ?_⟩
      rw [nums_len, List.length_map]
      exact bl_by (Q := Q) (c := (64 : Int) ≤ ((((m.marks.filter fun x => decide (x.1 ≠ n)).length : Nat)) : Int)) (d := 64 ≤ Gs.others m.marks n) (by unfold Gs.others; omega) (q _ s2)
end
end Gw
/-! # Walks: what isn't let; the first house; another grammar -/
namespace Gw
open PySem PySem.Spec PyProof.Rows L2 Gr
open Nt (Sign Rule Grammar Tree)
open Gs (Nd Wd HM NRule)
section
variable {P : Program} {w : World} {K : PySem.W.Frag} {mg : Str → Option Value} {base : Heap} {a : Ad}
/-- a call isn't let: the number that is answered -/
def ExN (a : Ad) (E : XK) (H : Hp) (z : Int) : Prop := ∀ (d : Addr) (H' : Hp), Same H H' → H' d = some (.xd [("number", .int z)]) → E (.ref a.c_NotLet) (some d) H'
theorem ExN.mono {E : XK} {H H' : Hp} {z : Int} (h : ExN a E H z) (k : Same H H') : ExN a E H' z := fun d H2 s e => h d H2 (k.trans s) e
def sp_NotLet_init (P : Program) (w : World) (K : PySem.W.Frag) (a : Ad) : Sp := fun vs H Q _ => ∃ (x : Addr) (z : Int), vs = [.ref x, .int z] ∧ H x = some (exo x a.c_NotLet none) ∧ ∀ dx, H dx = none → dx ≠ x → Q .non (upd (upd H dx (exd dx [("number", .int z)])) x (exo x a.c_NotLet (some dx)))
theorem ok_NotLet_init (F : Fn K "__init__" "NotLet.__init__" s_NotLet_init a.f_NotLet_init) (T : Txt K mg a)  : Pr P w K mg base CX0 1 a.f_NotLet_init ["self", "number"] (sp_NotLet_init P w K a) := by
  obtain ⟨fd, F⟩ := F
  refine ⟨fd, F.ok sc_NotLet_init (fun vs H Q E h => ?_) (fun cdv A outer s H vs Q E hr h => ?_), F.binds (ps := ["self", "number"]) fun _ _ _ _ _ _ us hl => match us, hl with | [_, _], _ => rfl, F.kp⟩
  · obtain ⟨x, z, rfl, _⟩ := h
    rfl
  · obtain ⟨x, z, rfl, hx, q⟩ := h
    refine ⟨_, (pss_cons (ps_expr (pe_veinit (by rfl) T.n_ValueError T.ve (pa_cons (pv 0) (pa_cons pe_str pa_nil))))
      (pss_one (ps_ost (pv 0) (pv 1)))), ?_⟩
    refine ⟨.ref x, rfl, x, a.c_NotLet, _, rfl, (by show 1 ≤ 1000; decide), T.oex, hx, ?_⟩
    exact ⟨.int z, rfl, .ref x, rfl, x, a.c_NotLet, rfl, T.oex, T.no_number, .inl ⟨hx, fun dx h1 h2 => q dx h1 h2⟩⟩
def sp_want (P : Program) (w : World) (K : PySem.W.Frag) (a : Ad) : Sp := fun vs H Q E => ∃ (b : Bool) (z : Int), vs = [.bl b, .int z] ∧ (b = true → Q .non H) ∧ (b = false → ExN a E H z)
theorem ok_want (F : Fn K "want" "want" s_want a.f_want) (T : Txt K mg a) (h_NotLet_init : Pr P w K mg base CX0 1 a.f_NotLet_init ["self", "number"] (sp_NotLet_init P w K a)) : Pr P w K mg base (L2.CX P w) 3 a.f_want ["is_so", "number"] (sp_want P w K a) := by
  obtain ⟨fd, F⟩ := F
  obtain ⟨fd_NotLet_init, G_NotLet_init, B_NotLet_init, K_NotLet_init⟩ := h_NotLet_init
  refine ⟨fd, F.okX sc_want (fun vs H Q E h => ?_) (fun cdv A outer s H vs Q E hr h => ?_), F.binds (ps := ["is_so", "number"]) fun _ _ _ _ _ _ us hl => match us, hl with | [_, _], _ => rfl, F.kp⟩
  · obtain ⟨b, z, rfl, _⟩ := h
    rfl
  · obtain ⟨b, z, rfl, h1, h2⟩ := h
    refine ⟨_, (pss_one (ps_if (pt_not (pt_val (pv 0))) (pss_one (ps_raise rfl (takes_of rfl rfl rfl rfl) (pmk_oex T.oex T.init_NotLet T.tf_NotLet G_NotLet_init (hr.mono (by decide)) B_NotLet_init .nil (fun _ _ _ _ _ _ _ h => h.elim) (by rfl) T.g_NotLet (pa_cons (pv 1) pa_nil)))) pss_nil)), ?_⟩
    refine ⟨.bl b, rfl, b, rfl, ?_⟩
    cases b with
    | true => exact h1 rfl
    | false =>
      refine ⟨.int z, rfl, (by show 1 ≤ 1000; decide), fun x hx => ⟨x, z, rfl, upd_same, fun dx hdx ndx => ⟨rfl, dx, _, upd_same, by rw [upd_ne ndx, upd_same], ?_, ?_⟩⟩⟩
      · rwa [upd_ne ndx] at hdx
      · have hdx0 : H dx = none := by rwa [upd_ne ndx] at hdx
        refine h2 rfl dx _ (fun b o hb => ?_) upd_same
        have n1 : b ≠ dx := ne_of_none hb hdx0
        have n2 : b ≠ x := ne_of_none hb hx
        rw [upd_ne n1, del_ne n2, upd_ne n2, upd_ne n1, upd_ne n2]
        exact hb
/-! ### a house with a grammar -/
theorem same_made {H : Hp} {x dx C : Addr} {fs : List (Str × V)} (hx : H x = none) (hd : H dx = none) : Same H (upd (upd H dx (.own x)) x (.ins C dx fs)) := fun b o hb => by
  rw [upd_ne (ne_of_none hb hx), upd_ne (ne_of_none hb hd)]
  exact hb
theorem same_made2 {H : Hp} {x dx C : Addr} {fs gs : List (Str × V)} (hx : H x = none) (hd : H dx = none) : Same H (upd (upd (upd H dx (.own x)) x (.ins C dx fs)) x (.ins C dx gs)) := fun b o hb => by
  rw [upd_ne (ne_of_none hb hx)]
  exact same_made hx hd _ _ hb
/-- House(Grammar(..)) -/
def sp_first_house (P : Program) (w : World) (K : PySem.W.Frag) (a : Ad) : Sp := fun vs H Q _ => vs = [] ∧ ∀ H' p nm mk, Same H H' → HouseAt P w a H' p nm mk (HM.fresh ⟨1, 1, []⟩) → H p = none → H nm = none → H mk = none → Q (.ref p) H'
theorem ok_first_house (F : Fn K "first_house" "first_house" s_first_house a.f_first_house) (T : Txt K mg a) (h_House_init : Pr P w K mg base CX0 1 a.f_House_init ["self", "grammar"] (sp_House_init P w K a)) (h_Grammar_init : Pr P w K mg base CX0 1 a.f_Grammar_init ["self", "words", "parts", "rules"] (sp_Grammar_init P w K a)) : Pr P w K mg base CX0 3 a.f_first_house [] (sp_first_house P w K a) := by
  obtain ⟨fd, F⟩ := F
  obtain ⟨fd_House_init, G_House_init, B_House_init, K_House_init⟩ := h_House_init
  obtain ⟨fd_Grammar_init, G_Grammar_init, B_Grammar_init, K_Grammar_init⟩ := h_Grammar_init
  refine ⟨fd, F.ok sc_first_house (fun vs H Q E h => ?_) (fun cdv A outer s H vs Q E hr h => ?_), F.binds (ps := []) fun _ _ _ _ _ _ us hl => match us, hl with | [], _ => rfl, F.kp⟩
  · obtain ⟨rfl, _⟩ := h
    rfl
  · obtain ⟨rfl, q⟩ := h
    refine ⟨_, (pss_one (ps_ret (pe_make T.mk_House G_House_init (hr.mono (by decide)) (by rfl) T.g_House B_House_init .nil pass0 (pa_cons (pe_make T.mk_Grammar G_Grammar_init (hr.mono (by decide)) (by rfl) T.g_Grammar B_Grammar_init .nil pass0 (pa_cons pe_int (pa_cons pe_int (pa_cons (pe_lst pa_nil) pa_nil)))) pa_nil)))), ?_⟩
    refine ⟨Nat.zero_le _, fun l hl => ?_⟩
    have s0 : Same H (upd H l (.lst [])) := same_new hl
    have e0 : upd H l (.lst []) l = some (.lst []) := upd_same
    generalize upd H l (.lst []) = H0 at s0 e0 ⊢
    intro gx gd hgx hgd ngd
    refine ⟨gx, gd, l, 1, 1, rfl, upd_same, rfl, ?_⟩
    have s1 : Same H0 (upd (upd (upd H0 gd (.own gx)) gx (.ins a.c_Grammar gd [])) gx (.ins a.c_Grammar gd (gramF 1 1 l))) := same_made2 hgx hgd
    have e1 : upd (upd (upd H0 gd (.own gx)) gx (.ins a.c_Grammar gd [])) gx (.ins a.c_Grammar gd (gramF 1 1 l)) gx = some (.ins a.c_Grammar gd (gramF 1 1 l)) := upd_same
    generalize upd (upd (upd H0 gd (.own gx)) gx (.ins a.c_Grammar gd [])) gx (.ins a.c_Grammar gd (gramF 1 1 l)) = H1 at s1 e1 ⊢
    intro px pd hpx hpd npd
    have s2 : Same H1 (upd (upd H1 pd (.own px)) px (.ins a.c_House pd [])) := same_made hpx hpd
    have s02 := (s0.trans s1).trans s2
    refine ⟨px, pd, gx, l, ⟨1, 1, []⟩, rfl, upd_same, ⟨⟨gd, s2 _ _ e1⟩, LA.nil (s2 _ _ (s1 _ _ e0))⟩, fun H' nm mk hH kp hn hm => ⟨rfl, ?_⟩⟩
    exact q H' px nm mk (fun b o hb => kp b o (ne_of_none (s1 _ _ (s0 _ _ hb)) hpx) (s02 _ _ hb)) hH (none_of_same (s0.trans s1) hpx) (none_of_same s02 hn) (none_of_same s02 hm)
/-! ### begin -/
theorem keys_gram (n p : Nat) (rs : List NRule) : (Gs.gramOf n p rs).rules.map ruleKey = rs := by
  unfold Gs.gramOf
  rw [List.map_map]
  conv => rhs; rw [← List.map_id rs]
  refine List.map_congr_left fun x _ => ?_
  show (x.1, (x.2.map Nt.signOf).map Sign.number) = x
  rw [List.map_map]
  have : x.2.map (Sign.number ∘ Nt.signOf) = x.2 := by
    conv => rhs; rw [← List.map_id x.2]
    exact List.map_congr_left fun s _ => Gs.sign_number s
  rw [this]
def sp_begin (P : Program) (w : World) (K : PySem.W.Frag) (a : Ad) : Sp := fun vs H Q E => ∃ (l : Addr) (n p : Nat) (ns : List Nat), vs = [vN n, vN p, .ref l] ∧ SqL K H l (ns.map vN) ∧ ns.length ≤ 1024 ∧
  (Gs.countsOk n p = false → ExN a E H (-1)) ∧ (Gs.countsOk n p = true → Gs.rulesTold ns = none → ExN a E H (-3)) ∧
  ∀ rs, Gs.countsOk n p = true → Gs.rulesTold ns = some rs → (¬ Gs.rulesOk rs n p → ExN a E H (-3)) ∧ (Gs.rulesOk rs n p → (¬ ∀ q, q < p → ¬ Gs.ReachN rs q q) → ExN a E H (-4)) ∧
    (Gs.rulesOk rs n p → (∀ q, q < p → ¬ Gs.ReachN rs q q) → ∀ H' hp nm mk, Same H H' → HouseAt P w a H' hp nm mk (HM.fresh (Gs.gramOf n p rs)) → H hp = none → H nm = none → H mk = none → Q (.ref hp) H')
theorem ok_begin (F : Fn K "begin" "begin" s_begin a.f_begin) (T : Txt K mg a) (h_want : Pr P w K mg base (L2.CX P w) 3 a.f_want ["is_so", "number"] (sp_want P w K a)) (h_rules_told : Pr P w K mg base CX0 1 a.f_rules_told ["told"] (sp_rules_told P w K a)) (h_House_init : Pr P w K mg base CX0 1 a.f_House_init ["self", "grammar"] (sp_House_init P w K a)) (h_are_counts : Pr P w K mg base CX0 1 a.f_are_counts ["words", "parts"] (sp_are_counts P w K a)) (h_is_sound : Pr P w K mg base CX0 3 a.f_is_sound ["rules", "parts"] (sp_is_sound P w K a)) (h_Grammar_init : Pr P w K mg base CX0 1 a.f_Grammar_init ["self", "words", "parts", "rules"] (sp_Grammar_init P w K a)) (h_are_rules : Pr P w K mg base CX0 3 a.f_are_rules ["rules", "words", "parts"] (sp_are_rules P w K a)) : Pr P w K mg base (L2.CX P w) 4 a.f_begin ["words", "parts", "told"] (sp_begin P w K a) := by
  obtain ⟨fd, F⟩ := F
  obtain ⟨fd_want, G_want, B_want, K_want⟩ := h_want
  obtain ⟨fd_rules_told, G_rules_told, B_rules_told, K_rules_told⟩ := h_rules_told
  obtain ⟨fd_House_init, G_House_init, B_House_init, K_House_init⟩ := h_House_init
  obtain ⟨fd_are_counts, G_are_counts, B_are_counts, K_are_counts⟩ := h_are_counts
  obtain ⟨fd_is_sound, G_is_sound, B_is_sound, K_is_sound⟩ := h_is_sound
  obtain ⟨fd_Grammar_init, G_Grammar_init, B_Grammar_init, K_Grammar_init⟩ := h_Grammar_init
  obtain ⟨fd_are_rules, G_are_rules, B_are_rules, K_are_rules⟩ := h_are_rules
  refine ⟨fd, F.okX sc_begin (fun vs H Q E h => ?_) (fun cdv A outer s H vs Q E hr h => ?_), F.binds (ps := ["words", "parts", "told"]) fun _ _ _ _ _ _ us hl => match us, hl with | [_, _, _], _ => rfl, F.kp⟩
  · obtain ⟨l, n, p, ns, rfl, _⟩ := h
    rfl
  · obtain ⟨l, n, p, ns, rfl, hl, hlen, x1, x2, x3⟩ := h
    refine ⟨_, (pss_cons (ps_expr (pe_call G_want (hr.mono (by decide)) (by rfl) T.g_want K_want B_want .nil (passes_call (takes_of rfl rfl rfl rfl) (fun _ _ _ _ h => h)) (pa_cons (pe_call G_are_counts (hr.mono (by decide)) (by rfl) T.g_are_counts K_are_counts B_are_counts .nil pass0 (pa_cons (pv 0) (pa_cons (pv 1) pa_nil))) (pa_cons (pe_glob (v := .int (-1)) rfl T.i_NOT_AS_TOLD ⟨_, rfl⟩) pa_nil))))
      (pss_cons (ps_set (i := 3) sc_begin.nd rfl (Or.inl rfl) (pe_call G_rules_told (hr.mono (by decide)) (by rfl) T.g_rules_told K_rules_told B_rules_told .nil pass0 (pa_cons (pv 2) pa_nil)))
      (pss_cons (ps_expr (pe_call G_want (hr.mono (by decide)) (by rfl) T.g_want K_want B_want .nil (passes_call (takes_of rfl rfl rfl rfl) (fun _ _ _ _ h => h)) (pa_cons (pe_and (pe_cmpR op_notN (pv 3) pe_non (nomark _)) (pe_one (pe_call G_are_rules (hr.mono (by decide)) (by rfl) T.g_are_rules K_are_rules B_are_rules .nil pass0 (pa_cons (pv 3) (pa_cons (pv 0) (pa_cons (pv 1) pa_nil)))))) (pa_cons (pe_glob (v := .int (-3)) rfl T.i_NOT_THERE ⟨_, rfl⟩) pa_nil))))
      (pss_cons (ps_expr (pe_call G_want (hr.mono (by decide)) (by rfl) T.g_want K_want B_want .nil (passes_call (takes_of rfl rfl rfl rfl) (fun _ _ _ _ h => h)) (pa_cons (pe_call G_is_sound (hr.mono (by decide)) (by rfl) T.g_is_sound K_is_sound B_is_sound .nil pass0 (pa_cons (pv 3) (pa_cons (pv 1) pa_nil))) (pa_cons (pe_glob (v := .int (-4)) rfl T.i_NOT_SOUND ⟨_, rfl⟩) pa_nil))))
      (pss_one (ps_ret (pe_make T.mk_House G_House_init (hr.mono (by decide)) (by rfl) T.g_House B_House_init .nil pass0 (pa_cons (pe_make T.mk_Grammar G_Grammar_init (hr.mono (by decide)) (by rfl) T.g_Grammar B_Grammar_init .nil pass0 (pa_cons (pv 0) (pa_cons (pv 1) (pa_cons (pv 3) pa_nil)))) pa_nil)))))))), ?_⟩
    refine ⟨vN n, rfl, vN p, rfl, n, p, rfl, Gs.countsOk n p, -1, rfl, fun c1 => ?_, x1⟩
    refine ⟨.ref l, rfl, l, ns, rfl, hl, hlen, fun hno H1 s1 => ?_, fun rs hrs hrl H1 r s1 hR => ?_⟩
    · exact ⟨.non, rfl, rfl, _, rfl, iteF ⟨false, -3, rfl, fun z => (by cases z), fun _ => (x2 c1 hno).mono s1⟩⟩
    obtain ⟨y1, y2, y3⟩ := x3 rs c1 hrs
    have tl := Gs.told_len hrs
    refine ⟨.ref r, rfl, rfl, _, rfl, ?_⟩
    refine ite2 (fun _ => ?_) fun c => absurd rfl c
    refine ⟨.ref r, rfl, vN n, rfl, vN p, rfl, r, n, p, rs, rfl, hR, hrl, fun x hx => (tl x hx).2, fun b H2 s2 hb => ?_⟩
    refine ⟨b, -3, rfl, fun hbt => ?_, fun hbf => (y1 fun z => ?_).mono (s1.trans s2)⟩
    · have ok := hb.mp hbt
      have hR2 := hR.mono s2
      obtain ⟨_, _, hn1, hn2⟩ : 1 ≤ n ∧ n ≤ 64 ∧ 1 ≤ p ∧ p ≤ 32 := of_decide_eq_true c1
      refine ⟨.ref r, rfl, vN p, rfl, r, p, rs, rfl, hR2, ok.1, by omega, fun b3 H3 s3 hb3 => ?_⟩
      have s13 := (s1.trans s2).trans s3
      refine ⟨b3, -4, rfl, fun hbt3 => ?_, fun hbf3 => (y2 ok fun z => ?_).mono s13⟩
      · have sd := hb3.mp hbt3
        have hR3 := hR2.mono s3
        refine ⟨vN n, rfl, vN p, rfl, .ref r, rfl, ?_⟩
        intro gx gd hgx hgd ngd
        refine ⟨gx, gd, r, n, p, rfl, upd_same, rfl, ?_⟩
        have s4 : Same H3 (upd (upd (upd H3 gd (.own gx)) gx (.ins a.c_Grammar gd [])) gx (.ins a.c_Grammar gd (gramF n p r))) := same_made2 hgx hgd
        have e4 : upd (upd (upd H3 gd (.own gx)) gx (.ins a.c_Grammar gd [])) gx (.ins a.c_Grammar gd (gramF n p r)) gx = some (.ins a.c_Grammar gd (gramF n p r)) := upd_same
        generalize upd (upd (upd H3 gd (.own gx)) gx (.ins a.c_Grammar gd [])) gx (.ins a.c_Grammar gd (gramF n p r)) = H4 at s4 e4 ⊢
        intro px pd hpx hpd npd
        have s5 : Same H4 (upd (upd H4 pd (.own px)) px (.ins a.c_House pd [])) := same_made hpx hpd
        have s05 := (s13.trans s4).trans s5
        refine ⟨px, pd, gx, r, Gs.gramOf n p rs, rfl, upd_same, ⟨⟨gd, s5 _ _ e4⟩, by rw [keys_gram]; exact (hR3.mono s4).mono s5⟩, fun H' nm mk hH kp hn hm => ⟨rfl, ?_⟩⟩
        exact y3 ok sd H' px nm mk (fun b o hb => kp b o (ne_of_none (s4 _ _ (s13 _ _ hb)) hpx) (s05 _ _ hb)) hH (none_of_same (s13.trans s4) hpx) (none_of_same s05 hn) (none_of_same s05 hm)
      · rw [hb3.mpr z] at hbf3
        cases hbf3
    · rw [hb.mpr z] at hbf
      cases hbf
end
end Gw
/-! # Walks: the calls that change -/
namespace Gw
open PySem PySem.Spec PyProof.Rows L2 Gr
open Nt (Sign Rule Grammar Tree)
open Gs (Nd Wd HM NRule editA)
section
variable {P : Program} {w : World} {K : PySem.W.Frag} {mg : Str → Option Value} {base : Heap} {a : Ad}
/-- what a change answers: the house, what it tells, or a number -/
def Deed (P : Program) (w : World) (a : Ad) (p nm mk : Addr) (H : Hp) (Q : VK) (E : XK) (res : Int ⊕ (HM × List Nat)) : Prop := match res with
  | .inl z => ExN a E H z
  | .inr r => ∀ H' b, HouseAt P w a H' p nm mk r.1 → KH p nm mk H H' → NumsL H' b r.2 → H b = none → Q (.ref b) H'
theorem fit0 {m : HM} (f : Gs.HM.Fit m) {t : List Wd} (h : t.length ≤ 24) : Fit0 m t := ⟨f.good, f.lim, h, f.elder, f.later, f.names, f.order⟩
/-! ### edit -/
def sp_edit (P : Program) (w : World) (K : PySem.W.Frag) (a : Ad) : Sp := fun vs H Q E => ∃ (p nm mk wl : Addr) (m : HM) (i n : Nat) (l : List Nat), vs = [.ref p, vN i, vN n, .ref wl] ∧ HouseAt P w a H p nm mk m ∧ Gs.HM.Fit m ∧ NumsL H wl l ∧ l.length ≤ 1024 ∧ Deed P w a p nm mk H Q E (editA m i n l)
theorem ok_edit (F : Fn K "edit" "edit" s_edit a.f_edit) (T : Txt K mg a) (h_want : Pr P w K mg base (L2.CX P w) 3 a.f_want ["is_so", "number"] (sp_want P w K a)) (h_House_edit : Pr P w K mg base CX0 10 a.f_House_edit ["self", "i", "n", "words"] (sp_House_edit P w K a)) : Pr P w K mg base (L2.CX P w) 11 a.f_edit ["house", "i", "n", "words"] (sp_edit P w K a) := by
  obtain ⟨fd, F⟩ := F
  obtain ⟨fd_want, G_want, B_want, K_want⟩ := h_want
  obtain ⟨fd_House_edit, G_House_edit, B_House_edit, K_House_edit⟩ := h_House_edit
  refine ⟨fd, F.okX sc_edit (fun vs H Q E h => ?_) (fun cdv A outer s H vs Q E hr h => ?_), F.binds (ps := ["house", "i", "n", "words"]) fun _ _ _ _ _ _ us hl => match us, hl with | [_, _, _, _], _ => rfl, F.kp⟩
  · obtain ⟨p, nm, mk, wl, m, i, n, l, rfl, _⟩ := h
    rfl
  · obtain ⟨p, nm, mk, wl, m, i, n, l, rfl, hH, fit, hw, hll, q⟩ := h
    refine ⟨_, (pss_cons (ps_expr (pe_call G_want (hr.mono (by decide)) (by rfl) T.g_want K_want B_want .nil (passes_call (takes_of rfl rfl rfl rfl) (fun _ _ _ _ h => h)) (pa_cons (pe_and (pe_cmpR op_le (pe_op op_add (pv 1) (pv 2)) (pe_callB call_len_seq (by rfl) T.n_len PySem.boot_len (pa_cons (pe_fld (pv 0) rfl) pa_nil)) (nomark _)) (pe_one (pe_callB (cr_all rfl) (by rfl) T.n_all (by decide +kernel) (pa_cons (pe_lc (own := [("word", 4)]) rfl sc_edit.nd (pi_list (pv 3)) (blkOk_by (N := ["house", "i", "n", "words", "word"]) (sc := defScope s_edit) (by decide +kernel)) (fun _ _ _ _ _ => (pg_name (i := 4) sc_edit.nd rfl (Or.inl rfl))) (fun _ _ _ _ _ => pts_nil) (fun _ _ _ _ _ => (pe_cmpR op_lt (pv 4) (pe_fldK (K := K) rfl (pe_fldK (K := K) rfl (pv 0) rfl) rfl) (nomark _)))) pa_nil)))) (pa_cons (pe_glob (v := .int (-1)) rfl T.i_NOT_AS_TOLD ⟨_, rfl⟩) pa_nil))))
      (pss_cons (ps_expr (pe_call G_want (hr.mono (by decide)) (by rfl) T.g_want K_want B_want .nil (passes_call (takes_of rfl rfl rfl rfl) (fun _ _ _ _ h => h)) (pa_cons (pe_cmpR op_le (pe_op op_add (pe_op op_sub (pe_callB call_len_seq (by rfl) T.n_len PySem.boot_len (pa_cons (pe_fld (pv 0) rfl) pa_nil)) (pv 2)) (pe_callB call_len_seq (by rfl) T.n_len PySem.boot_len (pa_cons (pv 3) pa_nil))) (pe_glob (v := .int (24)) rfl T.i_MOST_TEXT ⟨_, rfl⟩) (nomark _)) (pa_cons (pe_glob (v := .int (-5)) rfl T.i_TOO_MANY ⟨_, rfl⟩) pa_nil))))
      (pss_one (ps_ret (pe_meth (pv 0) T.c_House T.m_House_edit G_House_edit (hr.mono (by decide)) B_House_edit .nil pass0 (pa_cons (pv 1) (pa_cons (pv 2) (pa_cons (pv 3) pa_nil)))))))), ?_⟩
    obtain ⟨dx, F, hp, enm, emr, hin⟩ := hH
    obtain ⟨ps, ht, hps, hpl, hpk⟩ := hin.text.one
    obtain ⟨gl, ⟨dxg, hga⟩, hgr⟩ := hin.gram
    have hpl' : ((ps.map fun p => V.ref p.1).length : Int) = (m.text.length : Int) := by rw [List.length_map, hpl]
    -- the second want
    have second : ∀ H', Same H H' → (i + n ≤ m.text.length ∧ ∀ x ∈ l, x < m.g.words) → Deed P w a p nm mk H' Q E (if 24 < m.text.length - n + l.length then .inl (-5) else .inr (m.edit i n l)) := fun H' s hc => by
      unfold editA at q
      rw [if_neg (fun z => z hc)] at q
      split at q
      · rename_i c
        rw [if_pos c]
        exact ExN.mono q s
      · rename_i c
        rw [if_neg c]
        exact fun H2 b h1 h2 h3 h4 => q H2 b h1 ((KH.of s).trans h2) h3 (none_of_same s h4)
    have first : ∀ H', Same H H' → ¬ (i + n ≤ m.text.length ∧ ∀ x ∈ l, x < m.g.words) → ExN a E H' (-1) := fun H' s hc => by
      unfold editA at q
      rw [if_pos hc] at q
      exact ExN.mono q s
    refine ⟨vN i, rfl, vN n, rfl, (i : Int), (n : Int), rfl, rfl, .ref p, rfl, p, _, _, _, .ref F.ta, rfl, hp, T.c_House, T.na_House_text, rfl, F.ta, _, rfl, .inl (sqL ht), _, _, rfl, rfl, _, rfl, ite2 (fun c => ?_) (fun c => ?_)⟩
    · have c1 : i + n ≤ m.text.length := by
        have := of_decide_eq_true c
        rw [hpl'] at this
        omega
      refine ⟨.ref wl, rfl, wl, rfl, ⟨_, sqL hw⟩, fun D hD => ?_⟩
      refine lc_list (xs := l.map vN) (fun j H2 => Same H H2 ∧ H2 D = some (.lst (((l.take j).map fun x => decide (x < m.g.words)).map V.bl))) ⟨same_new hD, upd_same⟩ (fun j H2 _ ⟨s2, _⟩ => sqL (s2 _ _ hw)) (fun j v H2 hv ⟨s2, eD⟩ => ?_) (fun H2 ⟨s2, eD⟩ => ?_)
      · obtain ⟨x, hx, rfl⟩ := get_map hv
        refine ⟨rfl, ?_⟩
        refine turn_yes ?_
        refine ⟨vN x, rfl, .ref p, rfl, p, _, _, _, .ref F.ga, rfl, s2 _ _ hp, T.c_House, T.na_House_grammar, rfl, F.ga, _, _, _, vN m.g.words, rfl, s2 _ _ hga, T.c_Grammar, T.na_Grammar_words, rfl, (x : Int), (m.g.words : Int), rfl, rfl, _, eD, ?_, same_upd_of s2 hD, ?_⟩
        · refine line_lt ?_
          rw [List.length_map, List.length_map, List.length_take]
          omega
        · rw [upd_same, take_one hx, List.map_append, List.map_append]
          have : decide ((x : Int) < (m.g.words : Int)) = decide (x < m.g.words) := dec_eq (by omega)
          show some (HO.lst (_ ++ [V.bl (decide ((x : Int) < (m.g.words : Int)))])) = _
          rw [this]
          rfl
      · rw [nums_len, List.take_length] at eD
        refine ⟨D, _, rfl, sqL eD, _, -1, rfl, fun hb => ?_, fun hb => first H2 s2 fun z => ?_⟩
        · have hc : i + n ≤ m.text.length ∧ ∀ x ∈ l, x < m.g.words := ⟨c1, fun x hx => by
            rw [List.all_map] at hb
            have := List.all_eq_true.mp hb x hx
            exact of_decide_eq_true this⟩
          have q2 := second H2 s2 hc
          -- want(len(house.text) - n + len(words) <= MOST_TEXT, TOO_MANY)
          refine ⟨.ref p, rfl, p, _, _, _, .ref F.ta, rfl, s2 _ _ hp, T.c_House, T.na_House_text, rfl, F.ta, _, rfl, .inl (sqL (s2 _ _ ht)), vN n, rfl, (m.text.length : Int), (n : Int), (by rw [hpl']), rfl, .ref wl, rfl, wl, _, rfl, .inl (sqL (s2 _ _ hw)), (m.text.length : Int) - (n : Int), (l.length : Int), rfl, by rw [nums_len], _, 24, rfl, rfl, _, -5, rfl, fun hb2 => ?_, fun hb2 => ?_⟩
          · have c2 : m.text.length - n + l.length ≤ 24 := by
              have := of_decide_eq_true hb2
              omega
            rw [if_neg (by omega)] at q2
            have hl24 : l.length ≤ 24 := by omega
            exact ⟨.ref p, rfl, p, _, _, rfl, s2 _ _ hp, rfl, vN i, rfl, vN n, rfl, .ref wl, rfl, p, nm, mk, wl, m, i, n, l, rfl, ⟨dx, F, s2 _ _ hp, enm, emr, hin.mono s2⟩, s2 _ _ hw, fit.text, hl24, fit0 fit (by rw [Gs.edit_len hc.1]; exact c2), fun H3 r h1 h2 h3 h4 => q2 H3 r h1 h2 h3 h4⟩
          · have c2 : 24 < m.text.length - n + l.length := by
              have := of_decide_eq_false hb2
              omega
            rw [if_pos c2] at q2
            exact q2
        · have : ((l.map fun x => decide (x < m.g.words)).all id) = true := by
            rw [List.all_map]
            exact List.all_eq_true.mpr fun x hx => decide_eq_true (z.2 x hx)
          rw [this] at hb
          cases hb
    · refine ⟨false, -1, rfl, fun z => (by cases z), fun _ => first H (Same.refl H) fun z => c (decide_eq_true ?_)⟩
      rw [hpl']
      omega
end
end Gw
/-! # Walks: move, undo, redo, tree, words as they are asked -/
namespace Gw
open PySem PySem.Spec PyProof.Rows L2 Gr
open Nt (Sign Rule Grammar Tree)
open Gs (Nd Wd HM NRule editA moveA undoA redoA treeA wordsA)
section
variable {P : Program} {w : World} {K : PySem.W.Frag} {mg : Str → Option Value} {base : Heap} {a : Ad}
theorem Deed.mono {p nm mk : Addr} {H H' : Hp} {Q : VK} {E : XK} {res : Int ⊕ (HM × List Nat)} (h : Deed P w a p nm mk H Q E res) (s : Same H H') : Deed P w a p nm mk H' Q E res := by
  cases res with
  | inl z => exact ExN.mono h s
  | inr r => exact fun H2 b h1 h2 h3 h4 => h H2 b h1 ((KH.of s).trans h2) h3 (none_of_same s h4)
/-! ### move -/
def sp_move (P : Program) (w : World) (K : PySem.W.Frag) (a : Ad) : Sp := fun vs H Q E => ∃ (p nm mk : Addr) (m : HM) (i n to : Nat), vs = [.ref p, vN i, vN n, vN to] ∧ HouseAt P w a H p nm mk m ∧ Gs.HM.Fit m ∧ Deed P w a p nm mk H Q E (moveA m i n to)
theorem ok_move (F : Fn K "move" "move" s_move a.f_move) (T : Txt K mg a) (h_want : Pr P w K mg base (L2.CX P w) 3 a.f_want ["is_so", "number"] (sp_want P w K a)) (h_House_move : Pr P w K mg base CX0 10 a.f_House_move ["self", "i", "n", "to"] (sp_House_move P w K a)) : Pr P w K mg base (L2.CX P w) 11 a.f_move ["house", "i", "n", "to"] (sp_move P w K a) := by
  obtain ⟨fd, F⟩ := F
  obtain ⟨fd_want, G_want, B_want, K_want⟩ := h_want
  obtain ⟨fd_House_move, G_House_move, B_House_move, K_House_move⟩ := h_House_move
  refine ⟨fd, F.okX sc_move (fun vs H Q E h => ?_) (fun cdv A outer s H vs Q E hr h => ?_), F.binds (ps := ["house", "i", "n", "to"]) fun _ _ _ _ _ _ us hl => match us, hl with | [_, _, _, _], _ => rfl, F.kp⟩
  · obtain ⟨p, nm, mk, m, i, n, to, rfl, _⟩ := h
    rfl
  · obtain ⟨p, nm, mk, m, i, n, to, rfl, hH, fit, q⟩ := h
    refine ⟨_, (pss_cons (ps_expr (pe_call G_want (hr.mono (by decide)) (by rfl) T.g_want K_want B_want .nil (passes_call (takes_of rfl rfl rfl rfl) (fun _ _ _ _ h => h)) (pa_cons (pe_and (pe_cmpR op_gt (pv 2) pe_int (nomark _)) (pe_and (pe_cmpR op_le (pe_op op_add (pv 1) (pv 2)) (pe_callB call_len_seq (by rfl) T.n_len PySem.boot_len (pa_cons (pe_fld (pv 0) rfl) pa_nil)) (nomark _)) (pe_one (pe_cmpR op_le (pe_op op_add (pv 3) (pv 2)) (pe_callB call_len_seq (by rfl) T.n_len PySem.boot_len (pa_cons (pe_fld (pv 0) rfl) pa_nil)) (nomark _))))) (pa_cons (pe_glob (v := .int (-1)) rfl T.i_NOT_AS_TOLD ⟨_, rfl⟩) pa_nil))))
      (pss_one (ps_ret (pe_meth (pv 0) T.c_House T.m_House_move G_House_move (hr.mono (by decide)) B_House_move .nil pass0 (pa_cons (pv 1) (pa_cons (pv 2) (pa_cons (pv 3) pa_nil))))))), ?_⟩
    have hH' := hH
    obtain ⟨dx, F, hp, enm, emr, hin⟩ := hH'
    obtain ⟨ps, ht, hps, hpl, hpk⟩ := hin.text.one
    have hpl' : ((ps.map fun p => V.ref p.1).length : Int) = (m.text.length : Int) := by rw [List.length_map, hpl]
    have bad : ¬ (0 < n ∧ i + n ≤ m.text.length ∧ to + n ≤ m.text.length) → ExN a E H (-1) := fun hc => by
      unfold moveA at q
      rw [if_pos hc] at q
      exact q
    have badW : ¬ (0 < n ∧ i + n ≤ m.text.length ∧ to + n ≤ m.text.length) → ∃ (b : Bool) (z : Int), [V.bl false, V.int (-1)] = [V.bl b, V.int z] ∧ (b = true → (False : Prop)) ∧ (b = false → ExN a E H z) := fun hc => ⟨false, -1, rfl, fun z => (by cases z), fun _ => bad hc⟩
    refine ⟨vN n, rfl, (n : Int), 0, rfl, rfl, _, rfl, ite2 (fun c => ?_) (fun c => ?_)⟩
    · have c0 := of_decide_eq_true c
      refine ⟨vN i, rfl, vN n, rfl, (i : Int), (n : Int), rfl, rfl, .ref p, rfl, p, _, _, _, .ref F.ta, rfl, hp, T.c_House, T.na_House_text, rfl, F.ta, _, rfl, .inl (sqL ht), _, _, rfl, rfl, _, rfl, ite2 (fun c1 => ?_) (fun c1 => ?_)⟩
      · have d1 := of_decide_eq_true c1
        rw [hpl'] at d1
        refine ⟨vN to, rfl, vN n, rfl, (to : Int), (n : Int), rfl, rfl, .ref p, rfl, p, _, _, _, .ref F.ta, rfl, hp, T.c_House, T.na_House_text, rfl, F.ta, _, rfl, .inl (sqL ht), _, _, rfl, rfl, _, -1, rfl, fun hb => ?_, fun hb => bad fun z => ?_⟩
        · have d2 := of_decide_eq_true hb
          rw [hpl'] at d2
          have hc : 0 < n ∧ i + n ≤ m.text.length ∧ to + n ≤ m.text.length := ⟨by omega, by omega, by omega⟩
          unfold moveA at q
          rw [if_neg (fun z => z hc)] at q
          exact ⟨.ref p, rfl, p, _, _, rfl, hp, rfl, vN i, rfl, vN n, rfl, vN to, rfl, p, nm, mk, m, i, n, to, rfl, hH, fit.text, fit0 fit (by unfold mvT; rw [Gs.move_len hc.2.1 hc.2.2]; exact fit.text), fun H3 r h1 h2 h3 h4 => q H3 r h1 h2 h3 h4⟩
        · have d2 := of_decide_eq_false hb
          rw [hpl'] at d2
          omega
      · refine ⟨false, -1, rfl, fun z => (by cases z), fun _ => bad fun z => c1 (decide_eq_true ?_)⟩
        rw [hpl']
        omega
    · exact ⟨false, -1, rfl, fun z => (by cases z), fun _ => bad fun z => c (decide_eq_true (by omega))⟩
/-! ### undo, redo -/
def sp_undo (P : Program) (w : World) (K : PySem.W.Frag) (a : Ad) : Sp := fun vs H Q E => ∃ (p nm mk : Addr) (m : HM), vs = [.ref p] ∧ HouseAt P w a H p nm mk m ∧ Gs.HM.Fit m ∧ Deed P w a p nm mk H Q E (undoA m)
theorem ok_undo (F : Fn K "undo" "undo" s_undo a.f_undo) (T : Txt K mg a) (h_want : Pr P w K mg base (L2.CX P w) 3 a.f_want ["is_so", "number"] (sp_want P w K a)) (h_House_undo : Pr P w K mg base CX0 9 a.f_House_undo ["self"] (sp_House_undo P w K a)) : Pr P w K mg base (L2.CX P w) 10 a.f_undo ["house"] (sp_undo P w K a) := by
  obtain ⟨fd, F⟩ := F
  obtain ⟨fd_want, G_want, B_want, K_want⟩ := h_want
  obtain ⟨fd_House_undo, G_House_undo, B_House_undo, K_House_undo⟩ := h_House_undo
  refine ⟨fd, F.okX sc_undo (fun vs H Q E h => ?_) (fun cdv A outer s H vs Q E hr h => ?_), F.binds (ps := ["house"]) fun _ _ _ _ _ _ us hl => match us, hl with | [_], _ => rfl, F.kp⟩
  · obtain ⟨p, nm, mk, m, rfl, _⟩ := h
    rfl
  · obtain ⟨p, nm, mk, m, rfl, hH, fit, q⟩ := h
    refine ⟨_, (pss_cons (ps_expr (pe_call G_want (hr.mono (by decide)) (by rfl) T.g_want K_want B_want .nil (passes_call (takes_of rfl rfl rfl rfl) (fun _ _ _ _ h => h)) (pa_cons (pe_cmpR (op_neE (huN 0 hr)) (pe_fld (pv 0) rfl) (pe_lst pa_nil) (nomark _)) (pa_cons (pe_glob (v := .int (-2)) rfl T.i_NONE_SUCH ⟨_, rfl⟩) pa_nil))))
      (pss_one (ps_ret (pe_meth0 (pv 0) T.c_House T.m_House_undo G_House_undo (hr.mono (by decide)) B_House_undo .nil pass0)))), ?_⟩
    have hH' := hH
    obtain ⟨dx, F, hp, enm, emr, hin⟩ := hH'
    obtain ⟨ps, he, hps, hpl, hpk⟩ := hin.elder.one
    refine ⟨.ref p, rfl, p, _, _, _, .ref F.ea, rfl, hp, T.c_House, T.na_House_elder, rfl, Nat.zero_le _, fun z hz => ?_⟩
    have s1 : Same H (upd H z (.lst [])) := same_new hz
    have emp : (!(ps.map fun p => V.ref p.1).isEmpty) = !decide (m.elder = []) := by
      rw [← hps]
      cases ps <;> simp
    refine ⟨F.ea, z, _, rfl, rfl, sqL (s1 _ _ he), sqL upd_same, _, -2, rfl, fun hb => ?_, fun hb => ?_⟩
    · have hne : m.elder ≠ [] := fun y => by
        rw [emp, y] at hb
        simp at hb
      unfold undoA at q
      rw [if_neg hne] at q
      exact ⟨.ref p, rfl, p, _, _, rfl, s1 _ _ hp, rfl, p, nm, mk, m, rfl, hH.mono s1, hne, fit, fun H3 r h1 h2 h3 h4 => q H3 r h1 ((KH.of s1).trans h2) h3 (none_of_same s1 h4)⟩
    · have hne : m.elder = [] := by
        rw [emp] at hb
        simpa using hb
      unfold undoA at q
      rw [if_pos hne] at q
      exact ExN.mono q s1
def sp_redo (P : Program) (w : World) (K : PySem.W.Frag) (a : Ad) : Sp := fun vs H Q E => ∃ (p nm mk : Addr) (m : HM), vs = [.ref p] ∧ HouseAt P w a H p nm mk m ∧ Gs.HM.Fit m ∧ Deed P w a p nm mk H Q E (redoA m)
theorem ok_redo (F : Fn K "redo" "redo" s_redo a.f_redo) (T : Txt K mg a) (h_want : Pr P w K mg base (L2.CX P w) 3 a.f_want ["is_so", "number"] (sp_want P w K a)) (h_House_redo : Pr P w K mg base CX0 9 a.f_House_redo ["self"] (sp_House_redo P w K a)) : Pr P w K mg base (L2.CX P w) 10 a.f_redo ["house"] (sp_redo P w K a) := by
  obtain ⟨fd, F⟩ := F
  obtain ⟨fd_want, G_want, B_want, K_want⟩ := h_want
  obtain ⟨fd_House_redo, G_House_redo, B_House_redo, K_House_redo⟩ := h_House_redo
  refine ⟨fd, F.okX sc_redo (fun vs H Q E h => ?_) (fun cdv A outer s H vs Q E hr h => ?_), F.binds (ps := ["house"]) fun _ _ _ _ _ _ us hl => match us, hl with | [_], _ => rfl, F.kp⟩
  · obtain ⟨p, nm, mk, m, rfl, _⟩ := h
    rfl
  · obtain ⟨p, nm, mk, m, rfl, hH, fit, q⟩ := h
    refine ⟨_, (pss_cons (ps_expr (pe_call G_want (hr.mono (by decide)) (by rfl) T.g_want K_want B_want .nil (passes_call (takes_of rfl rfl rfl rfl) (fun _ _ _ _ h => h)) (pa_cons (pe_cmpR (op_neE (huN 0 hr)) (pe_fld (pv 0) rfl) (pe_lst pa_nil) (nomark _)) (pa_cons (pe_glob (v := .int (-2)) rfl T.i_NONE_SUCH ⟨_, rfl⟩) pa_nil))))
      (pss_one (ps_ret (pe_meth0 (pv 0) T.c_House T.m_House_redo G_House_redo (hr.mono (by decide)) B_House_redo .nil pass0)))), ?_⟩
    have hH' := hH
    obtain ⟨dx, F, hp, enm, emr, hin⟩ := hH'
    obtain ⟨ps, he, hps, hpl, hpk⟩ := hin.later.one
    refine ⟨.ref p, rfl, p, _, _, _, .ref F.la, rfl, hp, T.c_House, T.na_House_later, rfl, Nat.zero_le _, fun z hz => ?_⟩
    have s1 : Same H (upd H z (.lst [])) := same_new hz
    have emp : (!(ps.map fun p => V.ref p.1).isEmpty) = !decide (m.later = []) := by
      rw [← hps]
      cases ps <;> simp
    refine ⟨F.la, z, _, rfl, rfl, sqL (s1 _ _ he), sqL upd_same, _, -2, rfl, fun hb => ?_, fun hb => ?_⟩
    · have hne : m.later ≠ [] := fun y => by
        rw [emp, y] at hb
        simp at hb
      unfold redoA at q
      rw [if_neg hne] at q
      exact ⟨.ref p, rfl, p, _, _, rfl, s1 _ _ hp, rfl, p, nm, mk, m, rfl, hH.mono s1, hne, fit, fun H3 r h1 h2 h3 h4 => q H3 r h1 ((KH.of s1).trans h2) h3 (none_of_same s1 h4)⟩
    · have hne : m.later = [] := by
        rw [emp] at hb
        simpa using hb
      unfold redoA at q
      rw [if_pos hne] at q
      exact ExN.mono q s1
/-! ### tree -/
def sp_tree (P : Program) (w : World) (K : PySem.W.Frag) (a : Ad) : Sp := fun vs H Q E => ∃ (p nm mk : Addr) (m : HM), vs = [.ref p] ∧ HouseAt P w a H p nm mk m ∧ Gs.HM.Fit m ∧ (∀ T, m.tree = some T → T.1.length ≤ 2000) ∧ Deed P w a p nm mk H Q E (treeA m)
theorem ok_tree (F : Fn K "tree" "tree" s_tree a.f_tree) (T : Txt K mg a) (h_want : Pr P w K mg base (L2.CX P w) 3 a.f_want ["is_so", "number"] (sp_want P w K a)) : Pr P w K mg base (L2.CX P w) 4 a.f_tree ["house"] (sp_tree P w K a) := by
  obtain ⟨fd, F⟩ := F
  obtain ⟨fd_want, G_want, B_want, K_want⟩ := h_want
  refine ⟨fd, F.okX sc_tree (fun vs H Q E h => ?_) (fun cdv A outer s H vs Q E hr h => ?_), F.binds (ps := ["house"]) fun _ _ _ _ _ _ us hl => match us, hl with | [_], _ => rfl, F.kp⟩
  · obtain ⟨p, nm, mk, m, rfl, _⟩ := h
    rfl
  · obtain ⟨p, nm, mk, m, rfl, hH, fit, few, q⟩ := h
    refine ⟨_, (pss_cons (ps_expr (pe_call G_want (hr.mono (by decide)) (by rfl) T.g_want K_want B_want .nil (passes_call (takes_of rfl rfl rfl rfl) (fun _ _ _ _ h => h)) (pa_cons (pe_cmpR op_notN (pe_fld (pv 0) rfl) pe_non (nomark _)) (pa_cons (pe_glob (v := .int (-2)) rfl T.i_NONE_SUCH ⟨_, rfl⟩) pa_nil))))
      (pss_one (ps_ret (pe_op op_cat (pe_op op_cat (pe_lst (pa_cons (pe_callB call_len_seq (by rfl) T.n_len PySem.boot_len (pa_cons (pe_fld (pv 0) rfl) pa_nil)) pa_nil)) (pe_fld (pv 0) rfl)) (pe_fld (pe_fld (pv 0) rfl) rfl))))), ?_⟩
    have hH' := hH
    obtain ⟨dx, F, hp, enm, emr, hin⟩ := hH'
    have hT := hin.tree
    have hol := fit.order
    refine ⟨.ref p, rfl, p, _, _, _, F.tv, rfl, hp, T.c_House, T.na_House_tree, rfl, rfl, ?_⟩
    cases e : m.tree with
    | none =>
      rw [e] at hT
      have hT : F.tv = .non := hT
      unfold treeA at q
      rw [e] at q
      refine ⟨false, -2, ?_, fun z => (by cases z), fun _ => q⟩
      rw [hT]
      rfl
    | some Tr =>
      rw [e] at hT
      obtain ⟨b, htv, dx', l, n, h2, h3, h4⟩ := hT
      have fw := few Tr e
      unfold treeA at q
      rw [e] at q
      have p5b : H p = some (.ins a.c_House dx [("grammar", V.ref F.ga), ("text", .ref F.ta), ("next_word", vN F.nx), ("names", .ref F.nm), ("marks", .ref F.mr), ("elder", .ref F.ea), ("later", .ref F.la), ("tree", .ref b), ("order", .ref F.oa)]) := by
        rw [hp, ← htv]
        rfl
      have eo := hin.order
      refine ⟨true, -2, by rw [htv]; rfl, fun _ => ?_, fun z => (by cases z)⟩
      refine ⟨.ref p, rfl, p, _, _, _, .ref F.oa, rfl, hp, T.c_House, T.na_House_order, rfl, F.oa, _, rfl, .inl (sqL eo), line_le (by show 1 ≤ _; decide), ?_⟩
      rw [nums_len]
      intro q1 hq1
      have s1 : Same H (upd H q1 (.lst [.int (m.order.length : Nat)])) := same_new hq1
      refine ⟨.ref p, rfl, p, _, _, _, .ref F.oa, rfl, s1 _ _ hp, T.c_House, T.na_House_order, rfl, q1, F.oa, _, _, rfl, rfl, upd_same, s1 _ _ eo, line_le (by rw [List.length_map]; show 1 + m.order.length ≤ _; omega), fun q2 hq2 => ?_⟩
      have s2 := s1.trans (same_new (o := .lst ([V.int (m.order.length : Nat)] ++ m.order.map vN)) hq2)
      refine ⟨.ref p, rfl, p, _, _, _, .ref b, rfl, s2 _ _ p5b, T.c_House, T.na_House_tree, rfl, b, _, _, _, .ref l, rfl, s2 _ _ h2, T.c_Tree, T.na_Tree_listed, rfl, q2, l, _, _, rfl, rfl, upd_same, s2 _ _ h3, line_le (by rw [List.length_append, List.length_map, List.length_map]; show 1 + m.order.length + Tr.1.length ≤ _; omega), fun r hr => ?_⟩
      have s3 := s2.trans (same_new (o := .lst ([V.int (m.order.length : Nat)] ++ m.order.map vN ++ Tr.1.map vN)) hr)
      refine q _ r (hH.mono s3) (KH.of s3) ?_ (none_of_same s2 hr)
      unfold NumsL
      rw [upd_same]
      simp
/-! ### words -/
def sp_words (P : Program) (w : World) (K : PySem.W.Frag) (a : Ad) : Sp := fun vs H Q E => ∃ (p nm mk : Addr) (m : HM), vs = [.ref p] ∧ HouseAt P w a H p nm mk m ∧ Gs.HM.Fit m ∧ Deed P w a p nm mk H Q E (wordsA m)
theorem ok_words (F : Fn K "words" "words" s_words a.f_words) (T : Txt K mg a)  : Pr P w K mg base (L2.CX P w) 1 a.f_words ["house"] (sp_words P w K a) := by
  obtain ⟨fd, F⟩ := F
  refine ⟨fd, F.okX sc_words (fun vs H Q E h => ?_) (fun cdv A outer s H vs Q E hr h => ?_), F.binds (ps := ["house"]) fun _ _ _ _ _ _ us hl => match us, hl with | [_], _ => rfl, F.kp⟩
  · obtain ⟨p, nm, mk, m, rfl, _⟩ := h
    rfl
  · obtain ⟨p, nm, mk, m, rfl, hH, fit, q⟩ := h
    refine ⟨_, (pss_cons (ps_set (i := 1) sc_words.nd rfl (Or.inl rfl) (pe_lst (pa_cons (pe_callB call_len_seq (by rfl) T.n_len PySem.boot_len (pa_cons (pe_fld (pv 0) rfl) pa_nil)) pa_nil)))
      (pss_cons (ps_for (passes_of rfl) rfl (pi_list (pe_fld (pv 0) rfl)) (pg_tup (by rfl) (pgs_cons (pg_name (i := 2) sc_words.nd rfl (Or.inl rfl)) (pgs_cons (pg_name (i := 3) sc_words.nd rfl (Or.inl rfl)) pgs_nil))) (pss_one (ps_expr (pe_bm PySem.F.plainAttrs_list PySem.F.slot_list_extend PySem.F.type_list_extend mt_extend (pv 1) (pa_cons (pe_lst (pa_cons (pv 2) (pa_cons (pv 3) pa_nil))) pa_nil)))))
      (pss_one (ps_ret (pv 1))))), ?_⟩
    have hH' := hH
    obtain ⟨dx, F, hp, enm, emr, hin⟩ := hH'
    obtain ⟨ps, ht, hps, hpl, hpk⟩ := hin.text.one
    have htl := fit.text
    have q : ∀ H' b, HouseAt P w a H' p nm mk m → KH p nm mk H H' → NumsL H' b (m.text.length :: m.text.flatMap fun x => [x.1, x.2]) → H b = none → Q (.ref b) H' := q
    refine ⟨.ref p, rfl, p, _, _, _, .ref F.ta, rfl, hp, T.c_House, T.na_House_text, rfl, F.ta, _, rfl, .inl (sqL ht), line_le (by show 1 ≤ _; decide), ?_⟩
    rw [List.length_map, hpl]
    intro f hf
    have s1 : Same H (upd H f (.lst [.int (m.text.length : Nat)])) := same_new hf
    refine ⟨.ref p, rfl, p, _, _, _, .ref F.ta, rfl, s1 _ _ hp, T.c_House, T.na_House_text, rfl, F.ta, rfl, ⟨_, sqL (s1 _ _ ht)⟩, ?_⟩
    refine for_list (xs := ps.map fun p => V.ref p.1) (fun j σ H' => ∃ v2 v3, σ = [some (.ref p), some (.ref f), v2, v3] ∧ Same H H' ∧ NumsL H' f (m.text.length :: (m.text.take j).flatMap fun x => [x.1, x.2]))
      ⟨none, none, rfl, s1, upd_same⟩ (fun j σ H' _ ⟨_, _, _, s, _⟩ => sqL (s _ _ ht)) (fun j v σ H' hv ⟨v2, v3, eσ, s, ef⟩ => ?_) (fun σ H' ⟨v2, v3, eσ, s, ef⟩ => ?_)
    · subst eσ
      obtain ⟨⟨t, y⟩, hy, rfl⟩ := get_map hv
      have hyt : m.text[j]? = some y := by rw [← hps, List.getElem?_map, hy]; rfl
      have hjl : j < m.text.length := (List.getElem?_eq_some_iff.mp hyt).1
      refine ⟨t, _, rfl, sqT (s _ _ (hpk _ (List.mem_of_getElem? hy))), rfl, vN y.1, _, rfl, vN y.2, _, rfl, rfl, ?_⟩
      refine ⟨.ref f, rfl, tyL ef, vN y.1, rfl, vN y.2, rfl, line_le (by show 2 ≤ _; decide), ?_⟩
      intro q1 hq1
      have s2 : Same H' (upd H' q1 (.lst [vN y.1, vN y.2])) := same_new hq1
      have hfl : ((m.text.take j).flatMap fun x => [x.1, x.2]).length = 2 * j := by
        rw [List.length_flatMap]
        have : ((m.text.take j).map fun x : Wd => [x.1, x.2].length) = List.replicate j 2 := by
          rw [List.eq_replicate_iff]
          refine ⟨by rw [List.length_map, List.length_take]; omega, fun b hb => ?_⟩
          obtain ⟨x, _, rfl⟩ := List.mem_map.mp hb
          rfl
        rw [this, List.sum_replicate_nat]
        omega
      refine ⟨f, q1, _, _, rfl, rfl, s2 _ _ ef, upd_same, line_le (by rw [List.length_map, List.length_cons, hfl]; show 2 * j + 1 + 2 ≤ _; omega), ?_⟩
      refine ⟨_, _, rfl, same_upd_of (s.trans s2) hf, ?_⟩
      unfold NumsL
      rw [upd_same, take_one hyt]
      simp
    · subst eσ
      rw [List.length_map, hpl, List.take_length] at ef
      exact ⟨_, rfl, q H' f (hH.mono s) (KH.of s) ef hf⟩
end
end Gw
/-! # Walks: a name is asked for -/
namespace Gw
open PySem PySem.Spec PyProof.Rows L2 Gr
open Nt (Sign Rule Grammar Tree)
open Gs (Nd Wd HM NRule editA moveA undoA redoA treeA wordsA Tidy wantA nodeA)
section
variable {P : Program} {w : World} {K : PySem.W.Frag} {mg : Str → Option Value} {base : Heap} {a : Ad}
/-! ### want_name -/
def sp_want_name (P : Program) (w : World) (K : PySem.W.Frag) (a : Ad) : Sp := fun vs H Q E => ∃ (p nm mk : Addr) (m : HM) (n : Nat), vs = [.ref p, vN n] ∧ HouseAt P w a H p nm mk m ∧ (∀ z, wantA m n = some z → ExN a E H z) ∧ (wantA m n = none → Q .non H)
theorem ok_want_name (F : Fn K "want_name" "want_name" s_want_name a.f_want_name) (T : Txt K mg a) (h_want : Pr P w K mg base (L2.CX P w) 3 a.f_want ["is_so", "number"] (sp_want P w K a)) (h_House_has_had : Pr P w K mg base CX0 1 a.f_House_has_had ["self", "name"] (sp_House_has_had P w K a)) : Pr P w K mg base (L2.CX P w) 4 a.f_want_name ["house", "name"] (sp_want_name P w K a) := by
  obtain ⟨fd, F⟩ := F
  obtain ⟨fd_want, G_want, B_want, K_want⟩ := h_want
  obtain ⟨fd_House_has_had, G_House_has_had, B_House_has_had, K_House_has_had⟩ := h_House_has_had
  refine ⟨fd, F.okX sc_want_name (fun vs H Q E h => ?_) (fun cdv A outer s H vs Q E hr h => ?_), F.binds (ps := ["house", "name"]) fun _ _ _ _ _ _ us hl => match us, hl with | [_, _], _ => rfl, F.kp⟩
  · obtain ⟨p, nm, mk, m, n, rfl, _⟩ := h
    rfl
  · obtain ⟨p, nm, mk, m, n, rfl, hH, q1, q2⟩ := h
    refine ⟨_, (pss_cons (ps_expr (pe_call G_want (hr.mono (by decide)) (by rfl) T.g_want K_want B_want .nil (passes_call (takes_of rfl rfl rfl rfl) (fun _ _ _ _ h => h)) (pa_cons (pe_meth (pv 0) T.c_House T.m_House_has_had G_House_has_had (hr.mono (by decide)) B_House_has_had .nil pass0 (pa_cons (pv 1) pa_nil)) (pa_cons (pe_glob (v := .int (-2)) rfl T.i_NONE_SUCH ⟨_, rfl⟩) pa_nil))))
      (pss_one (ps_expr (pe_call G_want (hr.mono (by decide)) (by rfl) T.g_want K_want B_want .nil (passes_call (takes_of rfl rfl rfl rfl) (fun _ _ _ _ h => h)) (pa_cons (pe_cmpR op_in_seq (pv 1) (pe_fld (pv 0) rfl) rfl) (pa_cons (pe_glob (v := .int (-3)) rfl T.i_NOT_THERE ⟨_, rfl⟩) pa_nil)))))), ?_⟩
    have hH' := hH
    obtain ⟨dx, F, hp, enm, emr, hin⟩ := hH'
    refine ⟨.ref p, rfl, p, _, _, rfl, hp, rfl, vN n, rfl, p, nm, mk, m, n, rfl, hH, _, -2, rfl, fun hb => ?_, fun hb => ?_⟩
    · have c1 : ¬ m.names.length ≤ n := by
        have := of_decide_eq_true hb
        omega
      refine ⟨vN n, rfl, .ref p, rfl, p, _, _, _, .ref F.oa, rfl, hp, T.c_House, T.na_House_order, rfl, F.oa, _, rfl, .inl (sqL hin.order), rfl, flat_nums _, _, -3, rfl, fun hb2 => q2 ?_, fun hb2 => q1 (-3) ?_⟩
      · rw [if_neg Bool.false_ne_true, inV_nums] at hb2
        have := of_decide_eq_true hb2
        unfold wantA
        rw [if_neg c1, if_neg (fun z => z this)]
      · rw [if_neg Bool.false_ne_true, inV_nums] at hb2
        have := of_decide_eq_false hb2
        unfold wantA
        rw [if_neg c1, if_pos this]
    · refine q1 (-2) ?_
      have := of_decide_eq_false hb
      unfold wantA
      rw [if_pos (by omega)]
theorem want_in {m : HM} {n : Nat} (h : wantA m n = none) : n ∈ m.order := by
  unfold wantA at h
  split at h
  · cases h
  · split at h
    · cases h
    · rename_i z
      exact Classical.byContradiction z
/-! ### node -/
/-- the tree of a house that has rules -/
theorem tidy_at {m : HM} (t : Tidy m) {n : Nat} (h : n ∈ m.order) : ∃ T x, m.tree = some T ∧ T.2[m.order.idxOf n]? = some x ∧ x.2.1 ≤ x.2.2.1 ∧ m.order.length = T.2.length ∧ ∀ k, x.2.2.2 = some k → k < T.2.length := by
  cases e : m.tree with
  | none =>
    rw [t.none e] at h
    cases h
  | some T =>
    obtain ⟨h1, h2, h3, h4⟩ := t.some T e
    have hlt := List.idxOf_lt_length_of_mem h
    rw [h2] at hlt
    have hx := List.getElem?_eq_getElem hlt
    obtain ⟨g1, g2⟩ := h3 _ (List.getElem_mem hlt)
    exact ⟨T, _, rfl, hx, g1, h2, g2⟩
theorem tree_at {H : Hp} {p dx : Addr} {F : HF} {m : HM} (hp : H p = some (.ins a.c_House dx (HF.f F))) (hin : HIn P w a H F m) {T : List Nat × List Nd} (e : m.tree = some T) :
    ∃ (b dx' l n : Addr) (ns : List (Addr × Nd)), F.tv = .ref b ∧ H p = some (.ins a.c_House dx [("grammar", V.ref F.ga), ("text", .ref F.ta), ("next_word", vN F.nx), ("names", .ref F.nm), ("marks", .ref F.mr), ("elder", .ref F.ea), ("later", .ref F.la), ("tree", .ref b), ("order", .ref F.oa)]) ∧
      H b = some (.ins a.c_Tree dx' (treeF l n)) ∧ NumsL H l T.1 ∧ H n = some (.lst (ns.map fun p => V.ref p.1)) ∧ ns.map (·.2) = T.2 ∧ ns.length = T.2.length ∧ ∀ p ∈ ns, NdAt H p.1 p.2 := by
  have hT := hin.tree
  rw [e] at hT
  obtain ⟨b, h1, dx', l, n, h2, h3, ns, g1, g2, g3⟩ := hT
  exact ⟨b, dx', l, n, ns, h1, by rw [hp, ← h1]; rfl, h2, h3, g1, g2, by rw [← g2, List.length_map], g3⟩
def sp_node (P : Program) (w : World) (K : PySem.W.Frag) (a : Ad) : Sp := fun vs H Q E => ∃ (p nm mk : Addr) (m : HM) (n : Nat), vs = [.ref p, vN n] ∧ HouseAt P w a H p nm mk m ∧ Gs.HM.Fit m ∧ Tidy m ∧ Deed P w a p nm mk H Q E (nodeA m n)
theorem ok_node (F : Fn K "node" "node" s_node a.f_node) (T : Txt K mg a) (h_want_name : Pr P w K mg base (L2.CX P w) 4 a.f_want_name ["house", "name"] (sp_want_name P w K a)) (h_House_place_of : Pr P w K mg base CX0 1 a.f_House_place_of ["self", "name"] (sp_House_place_of P w K a)) (h_stretch_told : Pr P w K mg base CX0 1 a.f_stretch_told ["node"] (sp_stretch_told P w K a)) : Pr P w K mg base (L2.CX P w) 5 a.f_node ["house", "name"] (sp_node P w K a) := by
  obtain ⟨fd, F⟩ := F
  obtain ⟨fd_want_name, G_want_name, B_want_name, K_want_name⟩ := h_want_name
  obtain ⟨fd_House_place_of, G_House_place_of, B_House_place_of, K_House_place_of⟩ := h_House_place_of
  obtain ⟨fd_stretch_told, G_stretch_told, B_stretch_told, K_stretch_told⟩ := h_stretch_told
  refine ⟨fd, F.okX sc_node (fun vs H Q E h => ?_) (fun cdv A outer s H vs Q E hr h => ?_), F.binds (ps := ["house", "name"]) fun _ _ _ _ _ _ us hl => match us, hl with | [_, _], _ => rfl, F.kp⟩
  · obtain ⟨p, nm, mk, m, n, rfl, _⟩ := h
    rfl
  · obtain ⟨p, nm, mk, m, n, rfl, hH, fit, td, q⟩ := h
    refine ⟨_, (pss_cons (ps_expr (pe_call G_want_name (hr.mono (by decide)) (by rfl) T.g_want_name K_want_name B_want_name .nil (passes_call (takes_of rfl rfl rfl rfl) (fun _ _ _ _ h => h)) (pa_cons (pv 0) (pa_cons (pv 1) pa_nil))))
      (pss_cons (ps_set (i := 2) sc_node.nd rfl (Or.inl rfl) (pe_ix ix_list (pe_fld (pe_fld (pv 0) rfl) rfl) (pe_meth (pv 0) T.c_House T.m_House_place_of G_House_place_of (hr.mono (by decide)) B_House_place_of .nil pass0 (pa_cons (pv 1) pa_nil)) (fun _ _ => rfl)))
      (pss_cons (ps_set (i := 3) sc_node.nd rfl (Or.inl rfl) (pe_ifExp (pt_cmpR op_isN (pe_ix ix_tup (pv 2) pe_int (fun _ _ => rfl)) pe_non (nomark _)) pe_int (pe_op op_add (pe_ix ix_list (pe_fld (pv 0) rfl) (pe_ix ix_tup (pv 2) pe_int (fun _ _ => rfl)) (fun _ _ => rfl)) pe_int)))
      (pss_one (ps_ret (pe_op op_cat (pe_op op_cat (pe_lst (pa_cons (pe_ix ix_tup (pv 2) pe_int (fun _ _ => rfl)) pa_nil)) (pe_call G_stretch_told (hr.mono (by decide)) (by rfl) T.g_stretch_told K_stretch_told B_stretch_told .nil pass0 (pa_cons (pv 2) pa_nil))) (pe_lst (pa_cons (pv 3) pa_nil)))))))), ?_⟩
    have hH' := hH
    obtain ⟨dx, F, hp, enm, emr, hin⟩ := hH'
    refine ⟨.ref p, rfl, vN n, rfl, p, nm, mk, m, n, rfl, hH, fun z hz => ?_, fun hz => ?_⟩
    · unfold nodeA at q
      rw [hz] at q
      exact q
    have hno := want_in hz
    obtain ⟨Tr, x, eT, hx, hle, hol, hk⟩ := tidy_at td hno
    obtain ⟨b, dx', l, nl, ns, htv, p5, hb, _, hn1, hn2, hn3, hn4⟩ := tree_at hp hin eT
    unfold nodeA at q
    rw [hz, eT] at q
    have q : Deed P w a p nm mk H Q E (match Tr.2[m.order.idxOf n]? with
      | none => .inl 0
      | some x => .inr (m, [x.1, x.2.1, x.2.2.1 - x.2.1, match x.2.2.2 with
        | none => 0
        | some k => m.order.getD k 0 + 1])) := q
    rw [hx] at q
    obtain ⟨t, ht, hxt⟩ : ∃ t, (ns.map fun p => V.ref p.1)[m.order.idxOf n]? = some (V.ref t) ∧ NdAt H t x := by
      rw [← hn2, List.getElem?_map] at hx
      cases e : ns[m.order.idxOf n]? with
      | none => rw [e] at hx; cases hx
      | some y =>
        rw [e] at hx
        have ey : y.2 = x := Option.some.inj hx
        refine ⟨y.1, by rw [List.getElem?_map, e]; rfl, ?_⟩
        rw [← ey]
        exact hn4 y (List.mem_of_getElem? e)
    -- own = house.tree.nodes[house.place_of(name)]
    refine ⟨.ref p, rfl, p, _, _, _, .ref b, rfl, p5, T.c_House, T.na_House_tree, rfl, b, _, _, _, .ref nl, rfl, hb, T.c_Tree, T.na_Tree_nodes, rfl, .ref p, rfl, p, _, _, rfl, hp, rfl, vN n, rfl, p, nm, mk, m, n, rfl, hH, hno, nl, _, ((m.order.idxOf n : Nat) : Int), .ref t, rfl, rfl, sqL hn1, atI_nat ht, ?_⟩
    -- around
    have a3 : atI [vN x.1, vN x.2.1, vN x.2.2.1, optV x.2.2.2] 3 = some (optV x.2.2.2) := atI_nat (j := 3) rfl
    have a0 : atI [vN x.1, vN x.2.1, vN x.2.2.1, optV x.2.2.2] 0 = some (vN x.1) := atI_nat (j := 0) rfl
    refine ⟨.ref t, rfl, t, _, 3, _, rfl, rfl, sqT hxt, a3, rfl, _, rfl, ?_⟩
    -- the end
    have fin : ∀ ar, ar = (match x.2.2.2 with | none => 0 | some k => m.order.getD k 0 + 1) → ∀ H', Same H H' → ∀ q1, H q1 = none → H' q1 = some (.lst [vN x.1]) → ∀ q2, NumsL H' q2 [x.2.1, x.2.2.1 - x.2.1] → ∀ q3, H' q3 = none → ∀ q4, (upd H' q3 (.lst ([vN x.1] ++ [x.2.1, x.2.2.1 - x.2.1].map vN))) q4 = none →
        ∀ q5, (upd (upd H' q3 (.lst ([vN x.1] ++ [x.2.1, x.2.2.1 - x.2.1].map vN))) q4 (.lst [vN ar])) q5 = none → Q (.ref q5) (upd (upd (upd H' q3 (.lst ([vN x.1] ++ [x.2.1, x.2.2.1 - x.2.1].map vN))) q4 (.lst [vN ar])) q5 (.lst ([vN x.1] ++ [x.2.1, x.2.2.1 - x.2.1].map vN ++ [vN ar]))) := fun ar har H' s q1 _ _ q2 _ q3 h3 q4 h4 q5 h5 => by
      have s2 := ((s.trans (same_new (o := .lst ([vN x.1] ++ [x.2.1, x.2.2.1 - x.2.1].map vN)) h3)).trans (same_new (o := .lst [vN ar]) h4)).trans (same_new (o := .lst ([vN x.1] ++ [x.2.1, x.2.2.1 - x.2.1].map vN ++ [vN ar])) h5)
      refine q _ q5 (hH.mono s2) (KH.of s2) ?_ (none_of_same ((s.trans (same_new h3)).trans (same_new h4)) h5)
      unfold NumsL
      rw [upd_same, ← har]
      rfl
    cases ear : x.2.2.2 with
    | none =>
      refine iteT ?_
      refine ⟨.ref t, rfl, t, _, 0, _, rfl, rfl, sqT hxt, a0, line_le (by show 1 ≤ _; decide), ?_⟩
      intro q1 hq1
      have s1 : Same H (upd H q1 (.lst [vN x.1])) := same_new hq1
      have e1 : upd H q1 (.lst [vN x.1]) q1 = some (.lst [vN x.1]) := upd_same
      generalize upd H q1 (.lst [vN x.1]) = H1 at s1 e1 ⊢
      refine ⟨.ref t, rfl, t, x, rfl, s1 _ _ hxt, hle, fun H2 q2 s2 e2 => ?_⟩
      refine ⟨q1, q2, _, _, rfl, rfl, s2 _ _ e1, e2, line_le (by show 3 ≤ _; decide), fun q3 hq3 => ?_⟩
      refine ⟨.int 0, rfl, line_le (by show 1 ≤ _; decide), ?_⟩
      intro q4 hq4
      have n4 := ne_of_none (upd_same (H := H2) (a := q3) (o := .lst ([vN x.1] ++ [x.2.1, x.2.2.1 - x.2.1].map vN))) hq4
      refine ⟨q3, q4, _, _, rfl, rfl, by rw [upd_ne n4, upd_same], upd_same, line_le (by show 4 ≤ _; decide), fun q5 hq5 => ?_⟩
      exact fin 0 (by rw [ear]) H2 (s1.trans s2) q1 hq1 (s2 _ _ e1) q2 e2 q3 hq3 q4 hq4 q5 hq5
    | some k =>
      refine iteF ?_
      have hkl := hk k ear
      rw [← hol] at hkl
      have hok : m.order[k]? = some (m.order.getD k 0) := by
        rw [List.getD_eq_getElem?_getD, List.getElem?_eq_getElem hkl]
        rfl
      refine ⟨.ref p, rfl, p, _, _, _, .ref F.oa, rfl, hp, T.c_House, T.na_House_order, rfl, .ref t, rfl, t, _, 3, vN k, rfl, rfl, sqT hxt, by rw [a3, ear]; rfl, F.oa, _, (k : Int), vN (m.order.getD k 0), rfl, rfl, sqL hin.order, at_map hok, ((m.order.getD k 0 : Nat) : Int), 1, rfl, rfl, ?_⟩
      have ea : V.int (((m.order.getD k 0 : Nat) : Int) + 1) = vN (m.order.getD k 0 + 1) := rfl
      refine ⟨.ref t, rfl, t, _, 0, _, rfl, rfl, sqT hxt, a0, line_le (by show 1 ≤ _; decide), ?_⟩
      intro q1 hq1
      have s1 : Same H (upd H q1 (.lst [vN x.1])) := same_new hq1
      have e1 : upd H q1 (.lst [vN x.1]) q1 = some (.lst [vN x.1]) := upd_same
      generalize upd H q1 (.lst [vN x.1]) = H1 at s1 e1 ⊢
      refine ⟨.ref t, rfl, t, x, rfl, s1 _ _ hxt, hle, fun H2 q2 s2 e2 => ?_⟩
      refine ⟨q1, q2, _, _, rfl, rfl, s2 _ _ e1, e2, line_le (by show 3 ≤ _; decide), fun q3 hq3 => ?_⟩
      refine ⟨vN (m.order.getD k 0 + 1), rfl, line_le (by show 1 ≤ _; decide), ?_⟩
      intro q4 hq4
      have n4 := ne_of_none (upd_same (H := H2) (a := q3) (o := .lst ([vN x.1] ++ [x.2.1, x.2.2.1 - x.2.1].map vN))) hq4
      refine ⟨q3, q4, _, _, rfl, rfl, by rw [upd_ne n4, upd_same], upd_same, line_le (by show 4 ≤ _; decide), fun q5 hq5 => ?_⟩
      exact fin (m.order.getD k 0 + 1) (by rw [ear]) H2 (s1.trans s2) q1 hq1 (s2 _ _ e1) q2 e2 q3 hq3 q4 hq4 q5 hq5
end
end Gw
/-! # Walks: at, mark, marks -/
namespace Gw
open PySem PySem.Spec PyProof.Rows L2 Gr
open Nt (Sign Rule Grammar Tree)
open Gs (Nd Wd HM NRule Tidy wantA nodeA overN atA markA markRow awakeOf marksA)
section
variable {P : Program} {w : World} {K : PySem.W.Frag} {mg : Str → Option Value} {base : Heap} {a : Ad}
/-! ### at -/
def sp_at (P : Program) (w : World) (K : PySem.W.Frag) (a : Ad) : Sp := fun vs H Q E => ∃ (p nm mk : Addr) (m : HM) (i j : Nat), vs = [.ref p, vN i, vN j] ∧ HouseAt P w a H p nm mk m ∧ Gs.HM.Fit m ∧ Tidy m ∧ Deed P w a p nm mk H Q E (atA m i j)
theorem ok_at (F : Fn K "at" "at" s_at a.f_at) (T : Txt K mg a) (h_want : Pr P w K mg base (L2.CX P w) 3 a.f_want ["is_so", "number"] (sp_want P w K a)) : Pr P w K mg base (L2.CX P w) 4 a.f_at ["house", "i", "j"] (sp_at P w K a) := by
  obtain ⟨fd, F⟩ := F
  obtain ⟨fd_want, G_want, B_want, K_want⟩ := h_want
  refine ⟨fd, F.okX sc_at (fun vs H Q E h => ?_) (fun cdv A outer s H vs Q E hr h => ?_), F.binds (ps := ["house", "i", "j"]) fun _ _ _ _ _ _ us hl => match us, hl with | [_, _, _], _ => rfl, F.kp⟩
  · obtain ⟨p, nm, mk, m, i, j, rfl, _⟩ := h
    rfl
  · obtain ⟨p, nm, mk, m, i, j, rfl, hH, fit, td, q⟩ := h
    refine ⟨_, (pss_cons (ps_expr (pe_call G_want (hr.mono (by decide)) (by rfl) T.g_want K_want B_want .nil (passes_call (takes_of rfl rfl rfl rfl) (fun _ _ _ _ h => h)) (pa_cons (pe_and (pe_cmpR op_lt (pv 1) (pv 2) (nomark _)) (pe_one (pe_cmpR op_le (pv 2) (pe_callB call_len_seq (by rfl) T.n_len PySem.boot_len (pa_cons (pe_fld (pv 0) rfl) pa_nil)) (nomark _)))) (pa_cons (pe_glob (v := .int (-1)) rfl T.i_NOT_AS_TOLD ⟨_, rfl⟩) pa_nil))))
      (pss_cons (ps_expr (pe_call G_want (hr.mono (by decide)) (by rfl) T.g_want K_want B_want .nil (passes_call (takes_of rfl rfl rfl rfl) (fun _ _ _ _ h => h)) (pa_cons (pe_cmpR op_notN (pe_fld (pv 0) rfl) pe_non (nomark _)) (pa_cons (pe_glob (v := .int (-2)) rfl T.i_NONE_SUCH ⟨_, rfl⟩) pa_nil))))
      (pss_cons (ps_setLc (i := 3) (own := [("k", 4), ("one", 5)]) rfl sc_at.nd rfl rfl (sw_true rfl rfl rfl (by decide +kernel)) (pi_enum (by rfl) T.n_enumerate (pa_cons (pe_fld (pe_fld (pv 0) rfl) rfl) pa_nil)) (blkOk_by (N := ["house", "i", "j", "over", "k", "one"]) (sc := defScope s_at) (by decide +kernel)) (fun _ _ _ _ _ => (pg_tupK (K := K) (n := 2) rfl (by rfl) (pgs_cons (pg_name (i := 4) sc_at.nd rfl (Or.inl rfl)) (pgs_cons (pg_name (i := 5) sc_at.nd rfl (Or.inl rfl)) pgs_nil)))) (fun _ _ _ _ _ => (pts_one (PW.pt (pw_and (pt_cmpR op_le (pe_ix (ix_tupK (K := K) rfl) (pv 5) pe_int (fun _ _ => rfl)) (pv 1) (nomark _)) (pw_and1 (pt_cmpR op_le (pv 2) (pe_ix (ix_tupK (K := K) rfl) (pv 5) pe_int (fun _ _ => rfl)) (nomark _))))))) (fun _ _ _ _ _ => (pv 4)))
      (pss_one (ps_ret (pe_lst (pa_cons (pe_ix ix_list (pe_fld (pv 0) rfl) (pe_ix ix_list (pv 3) (pe_un un_neg pe_int) (fun _ _ => rfl)) (fun _ _ => rfl)) pa_nil))))))), ?_⟩
    have hH' := hH
    obtain ⟨dx, F, hp, enm, emr, hin⟩ := hH'
    obtain ⟨ps, ht, hps, hpl, hpk⟩ := hin.text.one
    have hpl' : ((ps.map fun p => V.ref p.1).length : Int) = (m.text.length : Int) := by rw [List.length_map, hpl]
    have bad : ¬ (i < j ∧ j ≤ m.text.length) → ExN a E H (-1) := fun hc => by
      unfold atA at q
      rw [if_pos hc] at q
      exact q
    refine ⟨vN i, rfl, vN j, rfl, (i : Int), (j : Int), rfl, rfl, _, rfl, ite2 (fun c => ?_) (fun c => ?_)⟩
    rotate_left
    · exact ⟨false, -1, rfl, fun z => (by cases z), fun _ => bad fun z => c (decide_eq_true (by omega))⟩
    have c0 := of_decide_eq_true c
    refine ⟨vN j, rfl, .ref p, rfl, p, _, _, _, .ref F.ta, rfl, hp, T.c_House, T.na_House_text, rfl, F.ta, _, rfl, .inl (sqL ht), (j : Int), _, rfl, rfl, _, -1, rfl, fun hb => ?_, fun hb => bad fun z => ?_⟩
    rotate_left
    · have := of_decide_eq_false hb
      rw [hpl'] at this
      omega
    have c1 := of_decide_eq_true hb
    rw [hpl'] at c1
    have hc : i < j ∧ j ≤ m.text.length := ⟨by omega, by omega⟩
    unfold atA at q
    rw [if_neg (fun z => z hc)] at q
    have hT := hin.tree
    refine ⟨.ref p, rfl, p, _, _, _, F.tv, rfl, hp, T.c_House, T.na_House_tree, rfl, rfl, ?_⟩
    cases eT : m.tree with
    | none =>
      rw [eT] at hT q
      have hT : F.tv = .non := hT
      refine ⟨false, -2, ?_, fun z => (by cases z), fun _ => q⟩
      rw [hT]
      rfl
    | some Tr =>
      rw [eT] at q
      obtain ⟨b, dx', l, nl, ns, htv, p5, hb, _, hn1, hn2, hn3, hn4⟩ := tree_at hp hin eT
      obtain ⟨few, hol, _, x0, hx0, e0, e1⟩ := td.some Tr eT
      have hor := fit.order
      refine ⟨true, -2, by rw [htv]; rfl, fun _ => ?_, fun z => (by cases z)⟩
      -- over
      have hnT : ∀ k x, Tr.2[k]? = some x → ∃ t, (ns.map fun p => V.ref p.1)[k]? = some (V.ref t) ∧ NdAt H t x := fun k x hx => by
        rw [← hn2, List.getElem?_map] at hx
        cases e : ns[k]? with
        | none => rw [e] at hx; cases hx
        | some y =>
          rw [e] at hx
          have ey : y.2 = x := Option.some.inj hx
          refine ⟨y.1, by rw [List.getElem?_map, e]; rfl, ?_⟩
          rw [← ey]
          exact hn4 y (List.mem_of_getElem? e)
      refine ⟨.ref p, rfl, p, _, _, _, .ref b, rfl, p5, T.c_House, T.na_House_tree, rfl, b, _, _, _, .ref nl, rfl, hb, T.c_Tree, T.na_Tree_nodes, rfl, nl, _, rfl, sqL hn1, fun D hD => ?_⟩
      refine lc_enum (xs := ns.map fun p => V.ref p.1) (fun k H' => Same H H' ∧ NumsL H' D ((List.range k).filter fun k => match Tr.2[k]? with
        | some x => decide (x.2.1 ≤ i) && decide (j ≤ x.2.2.1)
        | none => false)) ⟨same_new hD, upd_same⟩ (fun k H' _ ⟨s, _⟩ => sqL (s _ _ hn1)) (fun k v U H' hv ⟨s, eD⟩ hU => ?_) (fun H' ⟨s, eD⟩ => ?_)
      · have hk : k < ns.length := by
          have := (List.getElem?_eq_some_iff.mp hv).1
          rwa [List.length_map] at this
        obtain ⟨x, hx⟩ : ∃ x, Tr.2[k]? = some x := ⟨_, List.getElem?_eq_getElem (by omega)⟩
        obtain ⟨t, ht', hxt⟩ := hnT k x hx
        have ev : v = .ref t := Option.some.inj (hv.symm.trans ht')
        subst ev
        have s2 : Same H' (upd H' U (.tup [.int (k : Nat), .ref t])) := same_new hU
        have s02 := s.trans s2
        have hxt2 := s02 _ _ hxt
        have a1 : atI [vN x.1, vN x.2.1, vN x.2.2.1, optV x.2.2.2] 1 = some (vN x.2.1) := atI_nat (j := 1) rfl
        have a2 : atI [vN x.1, vN x.2.1, vN x.2.2.1, optV x.2.2.2] 2 = some (vN x.2.2.1) := atI_nat (j := 2) rfl
        have hlen : ((List.range k).filter fun k => match Tr.2[k]? with
          | some x => decide (x.2.1 ≤ i) && decide (j ≤ x.2.2.1)
          | none => false).length ≤ 2000 := by
          refine Nat.le_trans (List.length_filter_le _ _) ?_
          rw [List.length_range]
          omega
        have no : (decide (x.2.1 ≤ i) && decide (j ≤ x.2.2.1)) = false → NumsL (upd H' U (.tup [.int (k : Nat), .ref t])) D ((List.range (k + 1)).filter fun k => match Tr.2[k]? with
          | some x => decide (x.2.1 ≤ i) && decide (j ≤ x.2.2.1)
          | none => false) := fun z => by
          rw [List.range_succ, List.filter_append]
          have : ([k].filter fun k => match Tr.2[k]? with
            | some x => decide (x.2.1 ≤ i) && decide (j ≤ x.2.2.1)
            | none => false) = [] := by
            rw [List.filter_cons, hx]
            simp only [z]
            rfl
          rw [this, List.append_nil]
          exact s2 _ _ eD
        refine ⟨U, _, rfl, sqT upd_same, rfl, .int (k : Nat), _, rfl, .ref t, _, rfl, rfl, rfl, ?_⟩
        refine ⟨.ref t, rfl, t, _, 1, _, rfl, rfl, sqT hxt2, a1, vN i, rfl, (x.2.1 : Int), (i : Int), rfl, rfl, _, rfl, ite2 (fun d1 => ?_) (fun d1 => ?_)⟩
        · have z1 : x.2.1 ≤ i := by have := of_decide_eq_true d1; omega
          refine ⟨vN j, rfl, .ref t, rfl, t, _, 2, _, rfl, rfl, sqT hxt2, a2, (j : Int), (x.2.2.1 : Int), rfl, rfl, _, rfl, ite2 (fun d2 => ?_) (fun d2 => ?_)⟩
          · have z2 : j ≤ x.2.2.1 := by have := of_decide_eq_true d2; omega
            refine ⟨.int (k : Nat), rfl, _, s2 _ _ eD, line_lt (by rw [List.length_map]; omega), same_upd_of s02 hD, ?_⟩
            unfold NumsL
            rw [upd_same, List.range_succ, List.filter_append]
            have : ([k].filter fun k => match Tr.2[k]? with
              | some x => decide (x.2.1 ≤ i) && decide (j ≤ x.2.2.1)
              | none => false) = [k] := by
              rw [List.filter_cons, hx]
              simp only [decide_eq_true z1, decide_eq_true z2]
              rfl
            rw [this, List.map_append]
            rfl
          · refine ⟨s02, no ?_⟩
            have z2 : ¬ j ≤ x.2.2.1 := fun z => d2 (decide_eq_true (by omega))
            rw [decide_eq_false z2, Bool.and_false]
        · refine ⟨s02, no ?_⟩
          have z1 : ¬ x.2.1 ≤ i := fun z => d1 (decide_eq_true (by omega))
          rw [decide_eq_false z1, Bool.false_and]
      · rw [List.length_map, hn3] at eD
        have eD : NumsL H' D (overN Tr.2 i j) := eD
        have hmem : 0 ∈ overN Tr.2 i j := by
          unfold overN
          refine List.mem_filter.mpr ⟨List.mem_range.mpr (List.getElem?_eq_some_iff.mp hx0).1, ?_⟩
          simp only [hx0]
          rw [e0, e1, decide_eq_true (Nat.zero_le i), decide_eq_true hc.2]
          rfl
        have hsub : ∀ k ∈ overN Tr.2 i j, k < m.order.length := fun k hk => by
          have := List.mem_range.mp (List.mem_filter.mp hk).1
          omega
        have q : ∀ H' b, HouseAt P w a H' p nm mk m → KH p nm mk H H' → NumsL H' b [m.order.getD ((overN Tr.2 i j).getLast?.getD 0) 0] → H b = none → Q (.ref b) H' := q
        generalize overN Tr.2 i j = ov at q eD hmem hsub
        rcases List.eq_nil_or_concat ov with z | ⟨o1, k, z⟩
        · rw [z] at hmem
          cases hmem
        rw [List.concat_eq_append] at z
        subst z
        have eD : H' D = some (.lst (o1.map vN ++ [vN k])) := by
          rw [show H' D = _ from eD, List.map_append]
          rfl
        have hkl := hsub k (List.mem_append_right _ List.mem_cons_self)
        have hok : m.order[k]? = some (m.order.getD k 0) := by
          rw [List.getD_eq_getElem?_getD, List.getElem?_eq_getElem hkl]
          rfl
        rw [List.getLast?_concat] at q
        refine ⟨.ref p, rfl, p, _, _, _, .ref F.oa, rfl, s _ _ hp, T.c_House, T.na_House_order, rfl, .ref D, rfl, 1, rfl, D, _, -1, vN k, rfl, rfl, sqL eD, atI_last _ _, F.oa, _, (k : Int), vN (m.order.getD k 0), rfl, rfl, sqL (s _ _ hin.order), at_map hok, line_le (by show 1 ≤ _; decide), ?_⟩
        intro r hr
        have s3 := s.trans (same_new (o := .lst [vN (m.order.getD k 0)]) hr)
        refine q _ r (hH.mono s3) (KH.of s3) ?_ (none_of_same s hr)
        unfold NumsL
        rw [upd_same]
        rfl
/-! ### mark -/
def sp_mark (P : Program) (w : World) (K : PySem.W.Frag) (a : Ad) : Sp := fun vs H Q E => ∃ (p nm mk : Addr) (m : HM) (n v : Nat), vs = [.ref p, vN n, vN v] ∧ HouseAt P w a H p nm mk m ∧ Gs.HM.Fit m ∧ Deed P w a p nm mk H Q E (markA m n v)
theorem ok_mark (F : Fn K "mark" "mark" s_mark a.f_mark) (T : Txt K mg a) (h_want : Pr P w K mg base (L2.CX P w) 3 a.f_want ["is_so", "number"] (sp_want P w K a)) (h_want_name : Pr P w K mg base (L2.CX P w) 4 a.f_want_name ["house", "name"] (sp_want_name P w K a)) (h_House_set_mark : Pr P w K mg base CX0 1 a.f_House_set_mark ["self", "name", "v"] (sp_House_set_mark P w K a)) (h_House_is_full_for : Pr P w K mg base CX0 1 a.f_House_is_full_for ["self", "name"] (sp_House_is_full_for P w K a)) : Pr P w K mg base (L2.CX P w) 5 a.f_mark ["house", "name", "v"] (sp_mark P w K a) := by
  obtain ⟨fd, F⟩ := F
  obtain ⟨fd_want, G_want, B_want, K_want⟩ := h_want
  obtain ⟨fd_want_name, G_want_name, B_want_name, K_want_name⟩ := h_want_name
  obtain ⟨fd_House_set_mark, G_House_set_mark, B_House_set_mark, K_House_set_mark⟩ := h_House_set_mark
  obtain ⟨fd_House_is_full_for, G_House_is_full_for, B_House_is_full_for, K_House_is_full_for⟩ := h_House_is_full_for
  refine ⟨fd, F.okX sc_mark (fun vs H Q E h => ?_) (fun cdv A outer s H vs Q E hr h => ?_), F.binds (ps := ["house", "name", "v"]) fun _ _ _ _ _ _ us hl => match us, hl with | [_, _, _], _ => rfl, F.kp⟩
  · obtain ⟨p, nm, mk, m, n, v, rfl, _⟩ := h
    rfl
  · obtain ⟨p, nm, mk, m, n, v, rfl, hH, fit, q⟩ := h
    refine ⟨_, (pss_cons (ps_expr (pe_call G_want (hr.mono (by decide)) (by rfl) T.g_want K_want B_want .nil (passes_call (takes_of rfl rfl rfl rfl) (fun _ _ _ _ h => h)) (pa_cons (pe_cmpR op_le (pv 2) (pe_glob (v := .int (1000000000000000000)) rfl T.i_MOST_MARK ⟨_, rfl⟩) (nomark _)) (pa_cons (pe_glob (v := .int (-1)) rfl T.i_NOT_AS_TOLD ⟨_, rfl⟩) pa_nil))))
      (pss_cons (ps_expr (pe_call G_want_name (hr.mono (by decide)) (by rfl) T.g_want_name K_want_name B_want_name .nil (passes_call (takes_of rfl rfl rfl rfl) (fun _ _ _ _ h => h)) (pa_cons (pv 0) (pa_cons (pv 1) pa_nil))))
      (pss_cons (ps_expr (pe_call G_want (hr.mono (by decide)) (by rfl) T.g_want K_want B_want .nil (passes_call (takes_of rfl rfl rfl rfl) (fun _ _ _ _ h => h)) (pa_cons (pe_or (pe_cmpR op_eq (pv 2) pe_int (nomark _)) (pe_one (pe_not (pe_meth (pv 0) T.c_House T.m_House_is_full_for G_House_is_full_for (hr.mono (by decide)) B_House_is_full_for .nil pass0 (pa_cons (pv 1) pa_nil))))) (pa_cons (pe_glob (v := .int (-5)) rfl T.i_TOO_MANY ⟨_, rfl⟩) pa_nil))))
      (pss_cons (ps_expr (pe_meth (pv 0) T.c_House T.m_House_set_mark G_House_set_mark (hr.mono (by decide)) B_House_set_mark .nil pass0 (pa_cons (pv 1) (pa_cons (pv 2) pa_nil))))
      (pss_one (ps_ret (pe_lst (pa_cons (pe_callB call_lenD (by rfl) T.n_len PySem.boot_len (pa_cons (pe_fld (pv 0) rfl) pa_nil)) pa_nil)))))))), ?_⟩
    have hH' := hH
    obtain ⟨dx, F, hp, enm, emr, hin⟩ := hH'
    unfold markA at q
    refine ⟨vN v, rfl, (v : Int), 1000000000000000000, rfl, rfl, _, -1, rfl, fun hb => ?_, fun hb => ?_⟩
    rotate_left
    · have : 1000000000000000000 < v := by
        have := of_decide_eq_false hb
        omega
      rw [if_pos this] at q
      exact q
    have hv : ¬ 1000000000000000000 < v := by
      have := of_decide_eq_true hb
      omega
    rw [if_neg hv] at q
    refine ⟨.ref p, rfl, vN n, rfl, p, nm, mk, m, n, rfl, hH, fun z hz => ?_, fun hz => ?_⟩
    · rw [hz] at q
      exact q
    rw [hz] at q
    have q : Deed P w a p nm mk H Q E (if v ≠ 0 ∧ 64 ≤ Gs.others m.marks n then .inl (-5) else .inr ({ m with marks := Gs.setMark m.marks n v }, [(Gs.setMark m.marks n v).length])) := q
    -- the mark is set
    have set : ∀ H1, Same H H1 → ¬ (v ≠ 0 ∧ 64 ≤ Gs.others m.marks n) → ∀ (H2 : Hp) (b : Addr), HouseAt P w a H2 p nm mk { m with marks := Gs.setMark m.marks n v } → KH p nm mk H1 H2 → NumsL H2 b [(Gs.setMark m.marks n v).length] → H1 b = none → Q (.ref b) H2 := fun H1 s hc H2 b h1 h2 h3 h4 => by
      rw [if_neg hc] at q
      exact q H2 b h1 ((KH.of s).trans h2) h3 (none_of_same s h4)
    have full : ∀ H1, Same H H1 → (v ≠ 0 ∧ 64 ≤ Gs.others m.marks n) → ExN a E H1 (-5) := fun H1 s hc => by
      rw [if_pos hc] at q
      exact ExN.mono q s
    refine ⟨vN v, rfl, rfl, _, rfl, ite2 (fun c => ?_) (fun c => ?_)⟩
    · have hv0 : v = 0 := by
        have := V.int.inj (of_decide_eq_true c)
        omega
      refine ⟨_, -5, rfl, fun _ => ?_, fun hb => by cases hb⟩
      refine ⟨.ref p, rfl, p, _, _, rfl, hp, rfl, vN n, rfl, vN v, rfl, p, nm, mk, m, n, v, rfl, hH, fit.marks, fun H2 hH2 k2 => ?_⟩
      have hH2' := hH2
      obtain ⟨dx2, F2, hp2, enm2, emr2, hin2⟩ := hH2'
      have em2 := hin2.marks
      refine ⟨.ref p, rfl, p, _, _, _, .ref F2.mr, rfl, hp2, T.c_House, T.na_House_marks, rfl, F2.mr, _, rfl, em2, line_le (by show 1 ≤ _; decide), ?_⟩
      intro r hr
      have s3 : Same H2 (upd H2 r (.lst [.int ((marksK (Gs.setMark m.marks n v)).length : Nat)])) := same_new hr
      refine set H (Same.refl H) (fun z => z.1 hv0) _ r (hH2.mono s3) (k2.trans (KH.of s3)) ?_ (k2.dom _ hr)
      unfold NumsL
      rw [upd_same, ← marksK_len]
      rfl
    · have hv0 : v ≠ 0 := fun z => c (decide_eq_true (by rw [z]; rfl))
      refine ⟨.ref p, rfl, p, _, _, rfl, hp, rfl, vN n, rfl, p, nm, mk, m, n, rfl, hH, fit.marks, fun H1 s1 => ?_⟩
      refine ⟨_, rfl, _, -5, rfl, fun hb => ?_, fun hb => ?_⟩
      · have hnf : ¬ 64 ≤ Gs.others m.marks n := by
          rw [Bool.not_eq_true'] at hb
          exact of_decide_eq_false hb
        refine ⟨.ref p, rfl, p, _, _, rfl, s1 _ _ hp, rfl, vN n, rfl, vN v, rfl, p, nm, mk, m, n, v, rfl, hH.mono s1, fit.marks, fun H2 hH2 k2 => ?_⟩
        have hH2' := hH2
        obtain ⟨dx2, F2, hp2, enm2, emr2, hin2⟩ := hH2'
        have em2 := hin2.marks
        refine ⟨.ref p, rfl, p, _, _, _, .ref F2.mr, rfl, hp2, T.c_House, T.na_House_marks, rfl, F2.mr, _, rfl, em2, line_le (by show 1 ≤ _; decide), ?_⟩
        intro r hr
        have s3 : Same H2 (upd H2 r (.lst [.int ((marksK (Gs.setMark m.marks n v)).length : Nat)])) := same_new hr
        refine set H1 s1 (fun z => hnf z.2) _ r (hH2.mono s3) (k2.trans (KH.of s3)) ?_ (k2.dom _ hr)
        unfold NumsL
        rw [upd_same, ← marksK_len]
        rfl
      · have hf : 64 ≤ Gs.others m.marks n := by
          rw [Bool.not_eq_false'] at hb
          exact of_decide_eq_true hb
        exact full H1 s1 ⟨hv0, hf⟩
/-! ### marks -/
theorem markRow_len (m : HM) (n : Nat) : (markRow m n).length ≤ 4 := by
  unfold markRow
  split <;> simp
theorem rows_len (m : HM) (l : List Nat) : (l.flatMap (markRow m)).length ≤ 4 * l.length := by
  induction l with
  | nil => exact Nat.le_refl _
  | cons x l ih =>
    rw [List.flatMap_cons, List.length_append, List.length_cons]
    have := markRow_len m x
    omega
theorem awake_le {m : HM} (t : Tidy m) : (awakeOf m).length ≤ m.marks.length := by
  have h1 : (awakeOf m).Nodup := List.Pairwise.filter _ t.nodup
  have h2 : ∀ n ∈ awakeOf m, n ∈ m.marks.map (·.1) := fun n hn => by
    have := (List.mem_filter.mp hn).2
    unfold Gs.markAt at this
    rw [Option.isSome_map] at this
    obtain ⟨x, hx⟩ := Option.isSome_iff_exists.mp this
    have h3 := List.find?_some hx
    have h4 := List.mem_of_find?_eq_some hx
    rw [decide_eq_true_eq] at h3
    rw [← h3]
    exact List.mem_map_of_mem h4
  have := Gs.nodup_le _ _ h1 h2
  rwa [List.length_map] at this
def sp_marks (P : Program) (w : World) (K : PySem.W.Frag) (a : Ad) : Sp := fun vs H Q E => ∃ (p nm mk : Addr) (m : HM), vs = [.ref p] ∧ HouseAt P w a H p nm mk m ∧ Gs.HM.Fit m ∧ Tidy m ∧ Deed P w a p nm mk H Q E (marksA m)
theorem ok_marks (F : Fn K "marks" "marks" s_marks a.f_marks) (T : Txt K mg a) (h_stretch_told : Pr P w K mg base CX0 1 a.f_stretch_told ["node"] (sp_stretch_told P w K a)) (h_House_place_of : Pr P w K mg base CX0 1 a.f_House_place_of ["self", "name"] (sp_House_place_of P w K a)) : Pr P w K mg base (L2.CX P w) 2 a.f_marks ["house"] (sp_marks P w K a) := by
  obtain ⟨fd, F⟩ := F
  obtain ⟨fd_stretch_told, G_stretch_told, B_stretch_told, K_stretch_told⟩ := h_stretch_told
  obtain ⟨fd_House_place_of, G_House_place_of, B_House_place_of, K_House_place_of⟩ := h_House_place_of
  refine ⟨fd, F.okX sc_marks (fun vs H Q E h => ?_) (fun cdv A outer s H vs Q E hr h => ?_), F.binds (ps := ["house"]) fun _ _ _ _ _ _ us hl => match us, hl with | [_], _ => rfl, F.kp⟩
  · obtain ⟨p, nm, mk, m, rfl, _⟩ := h
    rfl
  · obtain ⟨p, nm, mk, m, rfl, hH, fit, td, q⟩ := h
    refine ⟨_, (pss_cons (ps_setLc (i := 2) (own := [("name", 1)]) rfl sc_marks.nd rfl rfl (sw_true rfl rfl rfl (by decide +kernel)) (pi_list (pe_fld (pv 0) rfl)) (blkOk_by (N := ["house", "name", "awake", "found"]) (sc := defScope s_marks) (by decide +kernel)) (fun _ _ _ _ _ => (pg_name (i := 1) sc_marks.nd rfl (Or.inl rfl))) (fun _ _ _ _ _ => (pts_one (pt_cmp (pc_din (huN 1 hr) (pv 1) (pe_fldK (K := K) rfl (pv 0) rfl))))) (fun _ _ _ _ _ => (pv 1)))
      (pss_cons (ps_set (i := 3) sc_marks.nd rfl (Or.inl rfl) (pe_lst (pa_cons (pe_callB call_len_seq (by rfl) T.n_len PySem.boot_len (pa_cons (pv 2) pa_nil)) (pa_cons (pe_op op_sub (pe_callB call_lenD (by rfl) T.n_len PySem.boot_len (pa_cons (pe_fld (pv 0) rfl) pa_nil)) (pe_callB call_len_seq (by rfl) T.n_len PySem.boot_len (pa_cons (pv 2) pa_nil))) pa_nil))))
      (pss_cons (ps_for (passes_of rfl) rfl (pi_list (pv 2)) (pg_name (i := 1) sc_marks.nd rfl (Or.inl rfl)) (pss_one (ps_expr (pe_bm PySem.F.plainAttrs_list PySem.F.slot_list_extend PySem.F.type_list_extend mt_extend (pv 3) (pa_cons (pe_op op_cat (pe_lst (pa_cons (pv 1) (pa_cons (pe_dget (huN 1 hr) (pe_fld (pv 0) rfl) (pv 1) (fun _ _ => rfl)) pa_nil))) (pe_call G_stretch_told (hr.mono (by decide)) (by rfl) T.g_stretch_told K_stretch_told B_stretch_told .nil pass0 (pa_cons (pe_ix ix_list (pe_fld (pe_fld (pv 0) rfl) rfl) (pe_meth (pv 0) T.c_House T.m_House_place_of G_House_place_of (hr.mono (by decide)) B_House_place_of .nil pass0 (pa_cons (pv 1) pa_nil)) (fun _ _ => rfl)) pa_nil))) pa_nil)))))
      (pss_one (ps_ret (pv 3)))))), ?_⟩
    have hH' := hH
    obtain ⟨dx, F, hp, enm, emr, hin⟩ := hH'
    have em := hin.marks
    have eo := hin.order
    have hol := fit.order
    have hal := awake_le td
    have q : ∀ H' b, HouseAt P w a H' p nm mk m → KH p nm mk H H' → NumsL H' b ((awakeOf m).length :: (m.marks.length - (awakeOf m).length) :: (awakeOf m).flatMap (markRow m)) → H b = none → Q (.ref b) H' := q
    -- awake
    refine ⟨.ref p, rfl, p, _, _, _, .ref F.oa, rfl, hp, T.c_House, T.na_House_order, rfl, F.oa, rfl, ⟨_, sqL eo⟩, fun D hD => ?_⟩
    refine lc_list (xs := m.order.map vN) (fun k H' => Same H H' ∧ NumsL H' D ((m.order.take k).filter fun n => (Gs.markAt m.marks n).isSome)) ⟨same_new hD, upd_same⟩ (fun k H' _ ⟨s, _⟩ => sqL (s _ _ eo)) (fun k v H' hv ⟨s, eD⟩ => ?_) (fun H' ⟨s, eD⟩ => ?_)
    · obtain ⟨x, hx, rfl⟩ := get_map hv
      have hfl : ((m.order.take k).filter fun n => (Gs.markAt m.marks n).isSome).length ≤ 2000 := by
        refine Nat.le_trans (List.length_filter_le _ _) ?_
        rw [List.length_take]
        omega
      refine ⟨rfl, vN x, rfl, .ref p, rfl, p, _, _, _, .ref F.mr, rfl, s _ _ hp, T.c_House, T.na_House_marks, rfl, F.mr, _, rfl, DGet.k (k := Sum.inl ((x : Nat) : Int)) (s _ _ em), _, rfl, ?_⟩
      rw [marks_val, Option.isSome_map, take_one hx, List.filter_append]
      cases hs : (Gs.markAt m.marks x).isSome with
      | true =>
        refine iteT ⟨vN x, rfl, _, eD, line_lt (by rw [List.length_map]; omega), same_upd_of s hD, ?_⟩
        unfold NumsL
        rw [upd_same]
        simp [hs]
      | false =>
        refine iteF ⟨s, ?_⟩
        simpa [hs] using eD
    rw [nums_len, List.take_length] at eD
    have eD : NumsL H' D (awakeOf m) := eD
    have haw : (awakeOf m).length ≤ 2000 := Nat.le_trans (List.length_filter_le _ _) hol
    have hmem : ∀ n ∈ awakeOf m, n ∈ m.order ∧ (Gs.markAt m.marks n).isSome = true := fun n hn => List.mem_filter.mp hn
    -- found
    refine ⟨.ref D, rfl, D, _, rfl, .inl (sqL eD), .ref p, rfl, p, _, _, _, .ref F.mr, rfl, s _ _ hp, T.c_House, T.na_House_marks, rfl, F.mr, _, rfl, s _ _ em, .ref D, rfl, D, _, rfl, .inl (sqL eD), (m.marks.length : Int), ((awakeOf m).length : Int), (by rw [marksK_len]), (by rw [nums_len]), line_le (by show 2 ≤ _; decide), ?_⟩
    rw [nums_len]
    have esub : (fun i j : Int => V.int (i - j)) (m.marks.length : Int) ((awakeOf m).length : Int) = vN (m.marks.length - (awakeOf m).length) := by
      show V.int _ = V.int _
      congr 1
      omega
    rw [esub]
    intro f hf
    have s1 : Same H' (upd H' f (.lst [.int ((awakeOf m).length : Nat), vN (m.marks.length - (awakeOf m).length)])) := same_new hf
    have e1 : upd H' f (.lst [.int ((awakeOf m).length : Nat), vN (m.marks.length - (awakeOf m).length)]) f = some (.lst [.int ((awakeOf m).length : Nat), vN (m.marks.length - (awakeOf m).length)]) := upd_same
    have e1 : NumsL (upd H' f (.lst [.int ((awakeOf m).length : Nat), vN (m.marks.length - (awakeOf m).length)])) f ((awakeOf m).length :: (m.marks.length - (awakeOf m).length) :: ((awakeOf m).take 0).flatMap (markRow m)) := e1
    have nfD : D ≠ f := ne_of_none eD hf
    have s01 := s.trans s1
    have fH : H f = none := none_of_same s hf
    have eD1 := s1 _ _ eD
    generalize upd H' f (.lst [.int ((awakeOf m).length : Nat), vN (m.marks.length - (awakeOf m).length)]) = H1 at s1 e1 s01 eD1 ⊢
    refine ⟨.ref D, rfl, D, rfl, ⟨_, sqL eD1⟩, ?_⟩
    refine for_list (xs := (awakeOf m).map vN) (fun j σ H2 => ∃ v1, σ = [some (.ref p), v1, some (.ref D), some (.ref f)] ∧ Same H H2 ∧ H2 D = some (.lst ((awakeOf m).map vN)) ∧ NumsL H2 f ((awakeOf m).length :: (m.marks.length - (awakeOf m).length) :: ((awakeOf m).take j).flatMap (markRow m)))
      ⟨none, rfl, s01, eD1, e1⟩ (fun j σ H2 _ ⟨_, _, _, h, _⟩ => sqL h) (fun j v σ H2 hv ⟨v1, eσ, s2, eD2, ef⟩ => ?_) (fun σ H2 ⟨v1, eσ, s2, eD2, ef⟩ => ?_)
    · subst eσ
      obtain ⟨x, hx, rfl⟩ := get_map hv
      have hjl : j < (awakeOf m).length := (List.getElem?_eq_some_iff.mp hx).1
      obtain ⟨hxo, hxs⟩ := hmem x (List.mem_of_getElem? hx)
      obtain ⟨vm, hvm⟩ := Option.isSome_iff_exists.mp hxs
      obtain ⟨Tr, y, eT, hy, hle, _, _⟩ := tidy_at td hxo
      obtain ⟨b, dx', l, nl, ns, htv, p5, hb, _, hn1, hn2, hn3, hn4⟩ := tree_at hp hin eT
      obtain ⟨t, ht, hyt⟩ : ∃ t, (ns.map fun p => V.ref p.1)[m.order.idxOf x]? = some (V.ref t) ∧ NdAt H t y := by
        have hy' := hy
        rw [← hn2, List.getElem?_map] at hy'
        cases e : ns[m.order.idxOf x]? with
        | none => rw [e] at hy'; cases hy'
        | some z =>
          rw [e] at hy'
          have ey : z.2 = y := Option.some.inj hy'
          refine ⟨z.1, by rw [List.getElem?_map, e]; rfl, ?_⟩
          rw [← ey]
          exact hn4 z (List.mem_of_getElem? e)
      have erow : markRow m x = [x, vm] ++ [y.2.1, y.2.2.1 - y.2.1] := by
        have e1 : Gs.nodesOf m.tree = Tr.2 := by rw [eT]; rfl
        unfold markRow
        rw [hvm, e1, hy]
        rfl
      have hdg : DGet H2 F.mr (vN x) (some (vN vm)) := by
        have := DGet.k (k := Sum.inl ((x : Nat) : Int)) (s2 _ _ em)
        rw [marks_val, hvm] at this
        exact this
      refine ⟨.ref f, rfl, tyL ef, vN x, rfl, .ref p, rfl, p, _, _, _, .ref F.mr, rfl, s2 _ _ hp, T.c_House, T.na_House_marks, rfl, vN x, rfl, F.mr, vN vm, rfl, hdg, line_le (by show 2 ≤ _; decide), ?_⟩
      intro q1 hq1
      have s3 : Same H2 (upd H2 q1 (.lst [vN x, vN vm])) := same_new hq1
      have e3 : upd H2 q1 (.lst [vN x, vN vm]) q1 = some (.lst [vN x, vN vm]) := upd_same
      generalize upd H2 q1 (.lst [vN x, vN vm]) = H3 at s3 e3 ⊢
      have s03 := s2.trans s3
      refine ⟨.ref p, rfl, p, _, _, _, .ref b, rfl, s03 _ _ p5, T.c_House, T.na_House_tree, rfl, b, _, _, _, .ref nl, rfl, s03 _ _ hb, T.c_Tree, T.na_Tree_nodes, rfl, .ref p, rfl, p, _, _, rfl, s03 _ _ hp, rfl, vN x, rfl, p, nm, mk, m, x, rfl, hH.mono s03, hxo, nl, _, ((m.order.idxOf x : Nat) : Int), .ref t, rfl, rfl, sqL (s03 _ _ hn1), atI_nat ht, t, y, rfl, s03 _ _ hyt, hle, fun H4 q2 s4 e4 => ?_⟩
      refine ⟨q1, q2, _, _, rfl, rfl, s4 _ _ e3, e4, line_le (by show 4 ≤ _; decide), fun q3 hq3 => ?_⟩
      have s5 : Same H4 (upd H4 q3 (.lst ([vN x, vN vm] ++ [y.2.1, y.2.2.1 - y.2.1].map vN))) := same_new hq3
      have s25 := (s3.trans s4).trans s5
      have hfl := rows_len m ((awakeOf m).take j)
      rw [List.length_take] at hfl
      have ef5 := s25 _ _ ef
      refine ⟨f, q3, _, _, rfl, rfl, ef5, upd_same, line_le (by rw [List.length_map, List.length_cons, List.length_cons]; show _ + 4 ≤ _; omega), ?_⟩
      refine ⟨_, rfl, same_upd_of (s2.trans s25) fH, by rw [upd_ne nfD]; exact s25 _ _ eD2, ?_⟩
      unfold NumsL
      rw [upd_same, take_one hx, List.flatMap_append, List.flatMap_singleton, erow]
      simp
    · subst eσ
      rw [nums_len, List.take_length] at ef
      exact ⟨_, rfl, q H2 f (hH.mono s2) (KH.of s2) ef fH⟩
end
end Gw
/-! # Walks: the calls taken apart -/
namespace Gw
open PySem PySem.Spec PyProof.Rows L2 Gr
open Nt (Sign Rule Grammar Tree)
open Gs (HM CallN sizes)
def GivenAt (H : Hp) (g : Addr) (c : CallN) : Prop := match c.lst with
  | none => H g = some (.lst (c.args.map vN))
  | some l => ∃ q, H g = some (.lst (c.args.map vN ++ [.ref q])) ∧ NumsL H q l
def CallAt (H : Hp) (t : Addr) (c : CallN) : Prop := ∃ g, H t = some (.tup [vN c.p, .ref g]) ∧ GivenAt H g c
theorem GivenAt.mono {H H' : Hp} {g : Addr} {c : CallN} (h : GivenAt H g c) (k : Same H H') : GivenAt H' g c := by
  unfold GivenAt at h ⊢
  cases e : c.lst with
  | none => rw [e] at h; exact k _ _ h
  | some l =>
    rw [e] at h
    obtain ⟨q, h1, h2⟩ := h
    exact ⟨q, k _ _ h1, k _ _ h2⟩
theorem CallAt.mono {H H' : Hp} {t : Addr} {c : CallN} (h : CallAt H t c) (k : Same H H') : CallAt H' t c := h.imp fun _ z => ⟨k _ _ z.1, z.2.mono k⟩
/-- the same, of new things -/
def GivenF (H0 H : Hp) (g : Addr) (c : CallN) : Prop := H0 g = none ∧ match c.lst with
  | none => H g = some (.lst (c.args.map vN))
  | some l => ∃ q, H0 q = none ∧ H g = some (.lst (c.args.map vN ++ [.ref q])) ∧ NumsL H q l
def CallF (H0 H : Hp) (t : Addr) (c : CallN) : Prop := ∃ g, H t = some (.tup [vN c.p, .ref g]) ∧ GivenF H0 H g c
theorem GivenF.at {H0 H : Hp} {g : Addr} {c : CallN} (h : GivenF H0 H g c) : GivenAt H g c := by
  unfold GivenF at h
  unfold GivenAt
  cases e : c.lst with
  | none => rw [e] at h; exact h.2
  | some l =>
    rw [e] at h
    obtain ⟨n, q, h0, h1, h2⟩ := h
    exact ⟨q, h1, h2⟩
/-- what is new and isn't F stays when F changes -/
theorem GivenF.keep {H0 H H' : Hp} {F g : Addr} {c : CallN} (h : GivenF H0 H g c) (hF : ∀ b, H0 b = none → ∀ xs, H b = some (.lst xs) → H' b = some (.lst xs)) : GivenF H0 H' g c := by
  unfold GivenF at h ⊢
  refine ⟨h.1, ?_⟩
  cases e : c.lst with
  | none => rw [e] at h; exact hF _ h.1 _ h.2
  | some l =>
    rw [e] at h
    obtain ⟨n, q, h0, h1, h2⟩ := h
    exact ⟨q, h0, hF _ n _ h1, hF _ h0 _ h2⟩
theorem CallF.keep {H0 H H' : Hp} {F t : Addr} {c : CallN} (h : CallF H0 H t c) (hF : ∀ b, H0 b = none → ∀ xs, H b = some (.lst xs) → H' b = some (.lst xs)) (hT : ∀ b xs, H b = some (.tup xs) → H' b = some (.tup xs)) : CallF H0 H' t c :=
  h.imp fun _ z => ⟨hT _ _ z.1, z.2.keep (F := F) hF⟩
def GivenX (H0 H : Hp) (F g : Addr) (c : CallN) : Prop := (g ≠ F ∧ H0 g = none) ∧ match c.lst with
  | none => H g = some (.lst (c.args.map vN))
  | some l => ∃ q, (q ≠ F ∧ H0 q = none) ∧ H g = some (.lst (c.args.map vN ++ [.ref q])) ∧ NumsL H q l
def CallX (H0 H : Hp) (F t : Addr) (c : CallN) : Prop := ∃ g, t ≠ F ∧ H t = some (.tup [vN c.p, .ref g]) ∧ GivenX H0 H F g c
theorem GivenX.keep {H0 H H' : Hp} {F g : Addr} {c : CallN} (h : GivenX H0 H F g c) (k : ∀ b o, b ≠ F → H b = some o → H' b = some o) : GivenX H0 H' F g c := by
  unfold GivenX at h ⊢
  refine ⟨h.1, ?_⟩
  cases e : c.lst with
  | none => rw [e] at h; exact k _ _ h.1.1 h.2
  | some l =>
    rw [e] at h
    obtain ⟨n, q, h0, h1, h2⟩ := h
    exact ⟨q, h0, k _ _ n.1 h1, k _ _ h0.1 h2⟩
theorem GivenX.at {H0 H : Hp} {F g : Addr} {c : CallN} (h : GivenX H0 H F g c) : GivenF H0 H g c := by
  unfold GivenX at h
  unfold GivenF
  cases e : c.lst with
  | none => rw [e] at h; exact ⟨h.1.2, h.2⟩
  | some l =>
    rw [e] at h
    obtain ⟨n, q, h0, h1, h2⟩ := h
    exact ⟨n.2, q, h0.2, h1, h2⟩
theorem CallX.keep {H0 H H' : Hp} {F t : Addr} {c : CallN} (h : CallX H0 H F t c) (k : ∀ b o, b ≠ F → H b = some o → H' b = some o) : CallX H0 H' F t c := h.imp fun _ z => ⟨z.1, k _ _ z.1 z.2.1, z.2.2.keep k⟩
theorem CallX.at {H0 H : Hp} {F t : Addr} {c : CallN} (h : CallX H0 H F t c) : CallF H0 H t c := h.imp fun _ z => ⟨z.2.1, z.2.2.at⟩
def sizesV : List V := [.int 0, .int 2, .int 2, .int 3, .int 0, .int 0, .int 0, .int 0, .int 1, .int 2, .int 2, .int 0]
theorem sizes_at {p : Nat} (h : p ≤ 11) : atI sizesV (p : Int) = some (vN (sizes p)) := by
  have : ∀ p, p < 12 → sizesV[p]? = some (vN (sizes p)) := by decide
  exact atI_nat (this p (by omega))
theorem get_mid {pre post : List Nat} {x : Nat} : (pre ++ x :: post)[pre.length]? = some x := by simp
theorem cut_args {pre args post : List Nat} {x : Nat} : (((pre ++ x :: (args ++ post)).map vN).drop (pre.length + 1)).take args.length = args.map vN := by
  rw [← List.map_drop, ← List.map_take]
  congr 1
  rw [show pre ++ x :: (args ++ post) = (pre ++ [x]) ++ (args ++ post) by simp, show pre.length + 1 = (pre ++ [x]).length by simp, List.drop_left, List.take_left]
section
variable {P : Program} {w : World} {K : PySem.W.Frag} {mg : Str → Option Value} {base : Heap} {a : Ad}
def sp_taken_apart (P : Program) (w : World) (K : PySem.W.Frag) (a : Ad) : Sp := fun vs H Q _ => ∃ (l : Addr) (cs : List CallN), vs = [.ref l] ∧ SqL K H l ((cs.flatMap CallN.flat).map vN) ∧ (∀ c ∈ cs, c.ok) ∧ cs.length ≤ 1000 ∧
  ∀ H' r, Same H H' → H r = none → LA (fun H' t c => CallF H H' t c) H' r cs → Q (.ref r) H'
theorem ok_taken_apart (F : Fn K "taken_apart" "taken_apart" s_taken_apart a.f_taken_apart) (T : Txt K mg a)  : Pr P w K mg base CX0 1 a.f_taken_apart ["calls"] (sp_taken_apart P w K a) := by
  obtain ⟨fd, F⟩ := F
  refine ⟨fd, F.ok sc_taken_apart (fun vs H Q E h => ?_) (fun cdv A outer s H vs Q E hr h => ?_), F.binds (ps := ["calls"]) fun _ _ _ _ _ _ us hl => match us, hl with | [_], _ => rfl, F.kp⟩
  · obtain ⟨l, cs, rfl, _⟩ := h
    rfl
  · obtain ⟨l, cs, rfl, hl, hok, hcl, q⟩ := h
    refine ⟨_, (pss_cons (ps_set (i := 1) sc_taken_apart.nd rfl (Or.inl rfl) (pe_lst pa_nil))
      (pss_cons (ps_set (i := 2) sc_taken_apart.nd rfl (Or.inl rfl) pe_int)
      (pss_cons (ps_while PassesOwn.never (pt_cmpR op_lt (pv 2) (pe_callB call_len_seq (by rfl) T.n_len PySem.boot_len (pa_cons (pv 0) pa_nil)) (nomark _)) (pss_cons (ps_set (i := 3) sc_taken_apart.nd rfl (Or.inl rfl) (pe_ix ix_list (pv 0) (pv 2) (fun _ _ => rfl)))
      (pss_cons (ps_set (i := 4) sc_taken_apart.nd rfl (Or.inl rfl) (pe_op op_add (pe_op op_add (pv 2) pe_int) (pe_ix ix_tup (pe_glob (v := .ref a.r_SIZES) rfl T.r_SIZES rfl) (pv 3) (fun _ _ => rfl))))
      (pss_cons (ps_set (i := 5) sc_taken_apart.nd rfl (Or.inl rfl) (pe_slice sl_list (pv 0) (po_some (pe_op op_add (pv 2) pe_int)) (po_some (pv 4))))
      (pss_cons (ps_if (pt_cmpR op_in_seq (pv 3) (pe_glob (v := .ref a.r_WITH_LIST) rfl T.r_WITH_LIST rfl) rfl) (pss_cons (ps_set (i := 6) sc_taken_apart.nd rfl (Or.inl rfl) (pe_op op_add (pe_op op_add (pv 4) pe_int) (pe_ix ix_list (pv 0) (pv 4) (fun _ _ => rfl))))
      (pss_cons (ps_expr (pe_bm PySem.F.plainAttrs_list PySem.F.slot_list_append PySem.F.type_list_append mt_append (pv 5) (pa_cons (pe_slice sl_list (pv 0) (po_some (pe_op op_add (pv 4) pe_int)) (po_some (pv 6))) pa_nil)))
      (pss_one (ps_set (i := 4) sc_taken_apart.nd rfl (Or.inl rfl) (pv 6))))) pss_nil)
      (pss_cons (ps_expr (pe_bm PySem.F.plainAttrs_list PySem.F.slot_list_append PySem.F.type_list_append mt_append (pv 1) (pa_cons (pe_tup (pa_cons (pv 3) (pa_cons (pv 5) pa_nil))) pa_nil)))
      (pss_one (ps_set (i := 2) sc_taken_apart.nd rfl (Or.inl rfl) (pv 4)))))))))
      (pss_one (ps_ret (pv 1)))))), ?_⟩
    refine ⟨Nat.zero_le _, ?_⟩
    intro F hF
    have s0 : Same H (upd H F (.lst [])) := same_new hF
    refine ⟨fun m σ H' => ∃ (dn rest : List CallN) (v3 v4 v5 v6 : Option V), cs = dn ++ rest ∧ m = rest.length ∧ σ = [some (.ref l), some (.ref F), some (vN (dn.flatMap CallN.flat).length), v3, v4, v5, v6] ∧ Same H H' ∧ LA (fun H' t c => CallX H H' F t c) H' F dn,
      ⟨_, [], cs, none, none, none, none, rfl, rfl, rfl, s0, LA.nil upd_same⟩, ?_⟩
    rintro m σ H1 ⟨dn, rest, v3, v4, v5, v6, ecs, rfl, rfl, s1, ps, eF, hps, hpk⟩
    have hl1 := s1.seq hl
    obtain ⟨pre, hpre⟩ : ∃ pre, dn.flatMap CallN.flat = pre := ⟨_, rfl⟩
    have ens : cs.flatMap CallN.flat = pre ++ rest.flatMap CallN.flat := by rw [ecs, List.flatMap_append, hpre]
    rw [hpre]
    refine ⟨vN pre.length, rfl, .ref l, rfl, l, _, rfl, .inl hl1, (pre.length : Int), _, rfl, rfl, _, rfl, ite2 (fun c0 => ?_) (fun c0 => ?_)⟩
    rotate_left
    · have : rest = [] := by
        cases rest with
        | nil => rfl
        | cons c rest =>
          refine absurd (decide_eq_true ?_) c0
          rw [nums_len, ens, List.length_append, List.flatMap_cons, List.length_append]
          have : 0 < c.flat.length := by unfold CallN.flat; simp
          omega
      subst this
      rw [List.append_nil] at ecs
      exact ⟨.ref F, rfl, q H1 F s1 hF ⟨ps, eF, by rw [ecs]; exact hps, fun p hp => (hpk p hp).at⟩⟩
    obtain ⟨c, rest, rfl⟩ : ∃ c r, rest = c :: r := by
      cases rest with
      | nil =>
        have := of_decide_eq_true c0
        rw [nums_len, ens, List.length_append] at this
        simp at this
      | cons c r => exact ⟨c, r, rfl⟩
    obtain ⟨k1, k2, k3, k4⟩ := hok c (by rw [ecs]; exact List.mem_append_right _ List.mem_cons_self)
    have hpl : ps.length = dn.length := by rw [← hps, List.length_map]
    have hdl : dn.length < 1000 := by
      have := congrArg List.length ecs
      rw [List.length_append, List.length_cons] at this
      omega
    refine ⟨fun σ H' => ∃ (dn' rest' : List CallN) (v3 v4 v5 v6 : Option V), cs = dn' ++ rest' ∧ rest'.length < (c :: rest).length ∧ σ = [some (.ref l), some (.ref F), some (vN (dn'.flatMap CallN.flat).length), v3, v4, v5, v6] ∧ Same H H' ∧ LA (fun H' t c => CallX H H' F t c) H' F dn',
      fun σ H' ⟨dn', rest', v3, v4, v5, v6, h1, h2, h3, h4⟩ => ⟨_, h2, dn', rest', v3, v4, v5, v6, h1, rfl, h3, h4⟩, ?_⟩
    -- what follows at the end of a turn
    have fin : ∀ (H2 : Hp) (g t : Addr) (E : Nat) (v5 v6 : Option V), Same H1 H2 → GivenX H H2 F g c → H2 t = none → E = pre.length + c.flat.length → ∃ (dn' rest' : List CallN) (w3 w4 w5 w6 : Option V), cs = dn' ++ rest' ∧ rest'.length < (c :: rest).length ∧ [some (V.ref l), some (V.ref F), some (vN E), some (vN c.p), some (vN E), v5, v6] = [some (.ref l), some (.ref F), some (vN (dn'.flatMap CallN.flat).length), w3, w4, w5, w6] ∧
        Same H (upd (upd H2 t (.tup [vN c.p, .ref g])) F (.lst ((ps.map fun p => V.ref p.1) ++ [.ref t]))) ∧ LA (fun H' t c => CallX H H' F t c) (upd (upd H2 t (.tup [vN c.p, .ref g])) F (.lst ((ps.map fun p => V.ref p.1) ++ [.ref t]))) F dn' := fun H2 g t E v5 v6 s2 hg ht hE => by
      have eF2 := s2 _ _ eF
      have tF : t ≠ F := Ne.symm (ne_of_none eF2 ht)
      have sF : ∀ b o, b ≠ F → H2 b = some o → upd (upd H2 t (.tup [vN c.p, .ref g])) F (.lst ((ps.map fun p => V.ref p.1) ++ [.ref t])) b = some o := fun b o nb hb => by
        rw [upd_ne nb, upd_ne (ne_of_none hb ht)]
        exact hb
      refine ⟨dn ++ [c], rest, some (vN c.p), some (vN E), v5, v6, by rw [ecs]; simp, by simp, ?_, same_upd_of ((s1.trans s2).trans (same_new ht)) hF, ps ++ [(t, c)], by rw [upd_same, List.map_append]; rfl, by rw [List.map_append, hps]; rfl, fun p hp => ?_⟩
      · rw [List.flatMap_append, hpre, List.flatMap_singleton, List.length_append, ← hE]
      · rcases List.mem_append.mp hp with z | z
        · exact (hpk p z).keep fun b o nb hb => sF b o nb (s2 _ _ hb)
        · rw [List.mem_singleton.mp z]
          exact ⟨g, tF, by rw [upd_ne tF, upd_same], hg.keep sF⟩
    -- call, end, given
    obtain ⟨post, hpost⟩ : ∃ post, rest.flatMap CallN.flat = post := ⟨_, rfl⟩
    obtain ⟨tail, htail⟩ : ∃ tail, tail = (match c.lst with
      | none => []
      | some l => l.length :: l) := ⟨_, rfl⟩
    have eflat : c.flat = c.p :: (c.args ++ tail) := by
      rw [htail]
      unfold CallN.flat
      cases c.lst <;> simp
    have ens2 : cs.flatMap CallN.flat = pre ++ c.p :: (c.args ++ (tail ++ post)) := by
      rw [ens, List.flatMap_cons, hpost, eflat]
      simp
    rw [ens2] at hl1
    have hcall : ((pre ++ c.p :: (c.args ++ (tail ++ post))).map vN)[pre.length]? = some (vN c.p) := by
      rw [List.getElem?_map, get_mid]
      rfl
    refine ⟨.ref l, rfl, vN pre.length, rfl, l, _, (pre.length : Int), vN c.p, rfl, rfl, hl1, atI_nat hcall, ?_⟩
    refine ⟨vN pre.length, rfl, (pre.length : Int), 1, rfl, rfl, vN c.p, rfl, a.r_SIZES, sizesV, (c.p : Int), vN (sizes c.p), rfl, rfl, .inr T.w_SIZES, sizes_at k2, ((pre.length + 1 : Nat) : Int), ((sizes c.p : Nat) : Int), rfl, rfl, ?_⟩
    obtain ⟨E0, hE0⟩ : ∃ E0, E0 = pre.length + 1 + c.args.length := ⟨_, rfl⟩
    have eE : (fun i j : Int => V.int (i + j)) ((pre.length + 1 : Nat) : Int) ((sizes c.p : Nat) : Int) = vN E0 := by
      rw [hE0, k3]
      rfl
    rw [eE]
    have ecut : cutV ((pre ++ c.p :: (c.args ++ (tail ++ post))).map vN) (some ((pre.length + 1 : Nat) : Int)) (some ((E0 : Nat) : Int)) = c.args.map vN := by
      rw [cut_mid, hE0, Nat.add_sub_cancel_left, cut_args]
    refine ⟨.ref l, rfl, vN pre.length, rfl, (pre.length : Int), 1, rfl, rfl, ((pre.length + 1 : Nat) : Int), rfl, vN E0, rfl, (E0 : Int), rfl, l, _, rfl, hl1, fun g hg => ?_⟩
    rw [ecut]
    have s2 : Same H1 (upd H1 g (.lst (c.args.map vN))) := same_new hg
    have eg : upd H1 g (.lst (c.args.map vN)) g = some (.lst (c.args.map vN)) := upd_same
    have gF : g ≠ F := Ne.symm (ne_of_none eF hg)
    generalize upd H1 g (.lst (c.args.map vN)) = H2 at s2 eg ⊢
    have hl2 := s2.seq hl1
    have ein : inV (vN c.p) [.int 1, .int 2] = decide (c.p ∈ [1, 2]) := inV_nums c.p [1, 2]
    have heq : ∀ {x : Nat}, c.p ∈ [1, 2] ↔ c.p = 1 ∨ c.p = 2 := by simp
    refine ⟨vN c.p, rfl, a.r_WITH_LIST, [.int 1, .int 2], rfl, .inr (.inr T.w_WITH_LIST), rfl, rfl, _, rfl, ?_⟩
    rw [if_neg Bool.false_ne_true, ein]
    cases el : c.lst with
    | none =>
      rw [el] at htail k4
      have hn : ¬ c.p ∈ [1, 2] := fun z => by
        have := k4.mpr (heq (x := 0).mp z)
        cases this
      rw [decide_eq_false hn]
      refine iteF ?_
      have hE : E0 = pre.length + c.flat.length := by
        rw [eflat, htail, hE0]
        simp
        omega
      have hg2 : GivenX H H2 F g c := by
        unfold GivenX
        rw [el]
        exact ⟨⟨gF, none_of_same s1 hg⟩, eg⟩
      refine ⟨.ref F, rfl, tyL (s2 _ _ eF), vN c.p, rfl, .ref g, rfl, line_le (by show 2 ≤ _; decide), ?_⟩
      intro t ht
      refine ⟨F, _, _, rfl, rfl, same_new ht _ _ (s2 _ _ eF), line_lt (by rw [List.length_map]; omega), ?_⟩
      exact ⟨vN E0, rfl, fin H2 g t E0 _ _ s2 hg2 ht hE⟩
    | some l0 =>
      rw [el] at htail k4
      have hp : c.p ∈ [1, 2] := heq (x := 0).mpr (k4.mp rfl)
      rw [decide_eq_true hp]
      refine iteT ?_
      subst htail
      have hE1 : E0 = (pre ++ c.p :: c.args).length := by
        rw [hE0]
        simp
        omega
      have elist : pre ++ c.p :: (c.args ++ (l0.length :: l0 ++ post)) = (pre ++ c.p :: c.args) ++ l0.length :: (l0 ++ post) := by simp
      rw [elist] at hl1 hl2
      have hcnt : (((pre ++ c.p :: c.args) ++ l0.length :: (l0 ++ post)).map vN)[E0]? = some (vN l0.length) := by
        rw [hE1, List.getElem?_map, get_mid]
        rfl
      -- behind = end + 1 + calls[end]
      refine ⟨vN E0, rfl, (E0 : Int), 1, rfl, rfl, .ref l, rfl, vN E0, rfl, l, _, (E0 : Int), vN l0.length, rfl, rfl, hl2, atI_nat hcnt, ((E0 + 1 : Nat) : Int), ((l0.length : Nat) : Int), rfl, rfl, ?_⟩
      have eB : (fun i j : Int => V.int (i + j)) ((E0 + 1 : Nat) : Int) ((l0.length : Nat) : Int) = vN (E0 + 1 + l0.length) := rfl
      rw [eB]
      -- given.append(calls[end + 1:behind])
      have ecut2 : cutV (((pre ++ c.p :: c.args) ++ l0.length :: (l0 ++ post)).map vN) (some ((E0 + 1 : Nat) : Int)) (some ((E0 + 1 + l0.length : Nat) : Int)) = l0.map vN := by
        rw [cut_mid, Nat.add_sub_cancel_left, hE1, cut_args]
      refine ⟨.ref g, rfl, tyL eg, .ref l, rfl, vN E0, rfl, (E0 : Int), 1, rfl, rfl, ((E0 + 1 : Nat) : Int), rfl, vN (E0 + 1 + l0.length), rfl, ((E0 + 1 + l0.length : Nat) : Int), rfl, l, _, rfl, hl2, fun q1 hq1 => ?_⟩
      rw [ecut2]
      have s3 : Same H2 (upd H2 q1 (.lst (l0.map vN))) := same_new hq1
      have eq1 : upd H2 q1 (.lst (l0.map vN)) q1 = some (.lst (l0.map vN)) := upd_same
      have qF : q1 ≠ F := Ne.symm (ne_of_none (s2 _ _ eF) hq1)
      have qg : q1 ≠ g := Ne.symm (ne_of_none eg hq1)
      generalize upd H2 q1 (.lst (l0.map vN)) = H3 at s3 eq1 ⊢
      have hal : c.args.length ≤ 3 := by
        rw [k3]
        rcases k4.mp rfl with z | z <;> rw [z] <;> decide
      refine ⟨g, _, .ref q1, rfl, rfl, s3 _ _ eg, line_lt (by rw [List.length_map]; omega), ?_⟩
      have s13 : Same H1 (upd H3 g (.lst (c.args.map vN ++ [.ref q1]))) := same_upd_of (s2.trans s3) hg
      have eg4 : upd H3 g (.lst (c.args.map vN ++ [.ref q1])) g = some (.lst (c.args.map vN ++ [.ref q1])) := upd_same
      have eq4 : upd H3 g (.lst (c.args.map vN ++ [.ref q1])) q1 = some (.lst (l0.map vN)) := by rw [upd_ne qg]; exact eq1
      generalize upd H3 g (.lst (c.args.map vN ++ [.ref q1])) = H4 at s13 eg4 eq4 ⊢
      have hE : E0 + 1 + l0.length = pre.length + c.flat.length := by
        rw [eflat, hE0]
        simp
        omega
      have hg4 : GivenX H H4 F g c := by
        unfold GivenX
        rw [el]
        exact ⟨⟨gF, none_of_same s1 hg⟩, q1, ⟨qF, none_of_same (s1.trans s2) hq1⟩, eg4, eq4⟩
      refine ⟨vN (E0 + 1 + l0.length), rfl, ?_⟩
      refine ⟨.ref F, rfl, tyL (s13 _ _ eF), vN c.p, rfl, .ref g, rfl, line_le (by show 2 ≤ _; decide), ?_⟩
      intro t ht
      refine ⟨F, _, _, rfl, rfl, same_new ht _ _ (s13 _ _ eF), line_lt (by rw [List.length_map]; omega), ?_⟩
      exact ⟨vN (E0 + 1 + l0.length), rfl, fin H4 g t (E0 + 1 + l0.length) _ _ s13 hg4 ht hE⟩
end
end Gw
/-! # Walks: a call is led to its deed -/
namespace Gw
open PySem PySem.Spec PyProof.Rows L2 Gr
open Nt (Sign Rule Grammar Tree)
open Gs (HM CallN sizes Tidy deedA editA moveA undoA redoA treeA wordsA nodeA atA markA marksA)
section
variable {P : Program} {w : World} {K : PySem.W.Frag} {mg : Str → Option Value} {base : Heap} {a : Ad}
theorem held {k j : Nat} {f : Addr} {ps : List Str} {sp : Sp} (h : Pr P w K mg base (L2.CX P w) j f ps sp) (hk : j ≤ k) : HeldX P w K mg base (L2.CX P w) k f sp := by
  obtain ⟨fd, F, B, Kp⟩ := h
  exact ⟨fd, ps, F.mono hk, Kp, B⟩
def kvNONE (a : Ad) : List (L2.Key × V) := [(.inl 4, .ref a.f_undo), (.inl 5, .ref a.f_redo), (.inl 6, .ref a.f_tree), (.inl 7, .ref a.f_words), (.inl 11, .ref a.f_marks)]
def kvONE (a : Ad) : List (L2.Key × V) := [(.inl 8, .ref a.f_node)]
def kvTWO (a : Ad) : List (L2.Key × V) := [(.inl 9, .ref a.f_at), (.inl 10, .ref a.f_mark)]
def kvTHREE (a : Ad) : List (L2.Key × V) := [(.inl 2, .ref a.f_edit), (.inl 3, .ref a.f_move)]
def sp_told_of (P : Program) (w : World) (K : PySem.W.Frag) (a : Ad) : Sp := fun vs H Q E => ∃ (p nm mk g : Addr) (m : HM) (c : CallN), vs = [.ref p, vN c.p, .ref g] ∧ c.ok ∧ c.p ≠ 1 ∧ GivenAt H g c ∧ (∀ l, c.lst = some l → l.length ≤ 1024) ∧ HouseAt P w a H p nm mk m ∧ Gs.HM.Fit m ∧ Tidy m ∧ Deed P w a p nm mk H Q E (deedA m c)
theorem ok_told_of (F : Fn K "told_of" "told_of" s_told_of a.f_told_of) (T : Txt K mg a) (h_edit : Pr P w K mg base (L2.CX P w) 11 a.f_edit ["house", "i", "n", "words"] (sp_edit P w K a)) (h_move : Pr P w K mg base (L2.CX P w) 11 a.f_move ["house", "i", "n", "to"] (sp_move P w K a)) (h_undo : Pr P w K mg base (L2.CX P w) 10 a.f_undo ["house"] (sp_undo P w K a)) (h_redo : Pr P w K mg base (L2.CX P w) 10 a.f_redo ["house"] (sp_redo P w K a)) (h_tree : Pr P w K mg base (L2.CX P w) 4 a.f_tree ["house"] (sp_tree P w K a)) (h_words : Pr P w K mg base (L2.CX P w) 1 a.f_words ["house"] (sp_words P w K a)) (h_node : Pr P w K mg base (L2.CX P w) 5 a.f_node ["house", "name"] (sp_node P w K a)) (h_at : Pr P w K mg base (L2.CX P w) 4 a.f_at ["house", "i", "j"] (sp_at P w K a)) (h_mark : Pr P w K mg base (L2.CX P w) 5 a.f_mark ["house", "name", "v"] (sp_mark P w K a)) (h_marks : Pr P w K mg base (L2.CX P w) 2 a.f_marks ["house"] (sp_marks P w K a))  : Pr P w K mg base (L2.CX P w) 12 a.f_told_of ["house", "call", "given"] (sp_told_of P w K a) := by
  obtain ⟨fd, F⟩ := F
  refine ⟨fd, F.okX sc_told_of (fun vs H Q E h => ?_) (fun cdv A outer s H vs Q E hr h => ?_), F.binds (ps := ["house", "call", "given"]) fun _ _ _ _ _ _ us hl => match us, hl with | [_, _, _], _ => rfl, F.kp⟩
  · obtain ⟨p, nm, mk, g, m, c, rfl, _⟩ := h
    rfl
  · obtain ⟨p, nm, mk, g, m, c, rfl, ⟨k1, k2, k3, k4⟩, n1, hg, hll, hH, fit, td, q⟩ := h
    have hrx : Room 11 _ := hr
    refine ⟨_, (pss_cons (ps_if (pt_cmp (pc_win (pv 1) (pe_glob (v := .ref a.r_BY_NONE) rfl T.r_BY_NONE rfl))) (pss_cons (ps_set (i := 3) sc_told_of.nd rfl (Or.inl rfl) (pe_wget (pe_glob (v := .ref a.r_BY_NONE) rfl T.r_BY_NONE rfl) (pv 1) (fun _ _ => rfl)))
      (pss_one (ps_ret (pe_callX (i := 3) hrx rfl (Or.inl rfl) (passes_call (takes_of rfl rfl rfl rfl) (fun _ _ _ _ h => h)) (pa_cons (pv 0) pa_nil))))) pss_nil)
      (pss_cons (ps_if (pt_cmp (pc_win (pv 1) (pe_glob (v := .ref a.r_BY_ONE) rfl T.r_BY_ONE rfl))) (pss_cons (ps_set (i := 3) sc_told_of.nd rfl (Or.inl rfl) (pe_wget (pe_glob (v := .ref a.r_BY_ONE) rfl T.r_BY_ONE rfl) (pv 1) (fun _ _ => rfl)))
      (pss_one (ps_ret (pe_callX (i := 3) hrx rfl (Or.inl rfl) (passes_call (takes_of rfl rfl rfl rfl) (fun _ _ _ _ h => h)) (pa_cons (pv 0) (pa_cons (pe_ix ix_list (pv 2) pe_int (fun _ _ => rfl)) pa_nil)))))) pss_nil)
      (pss_cons (ps_if (pt_cmp (pc_win (pv 1) (pe_glob (v := .ref a.r_BY_TWO) rfl T.r_BY_TWO rfl))) (pss_cons (ps_set (i := 3) sc_told_of.nd rfl (Or.inl rfl) (pe_wget (pe_glob (v := .ref a.r_BY_TWO) rfl T.r_BY_TWO rfl) (pv 1) (fun _ _ => rfl)))
      (pss_one (ps_ret (pe_callX (i := 3) hrx rfl (Or.inl rfl) (passes_call (takes_of rfl rfl rfl rfl) (fun _ _ _ _ h => h)) (pa_cons (pv 0) (pa_cons (pe_ix ix_list (pv 2) pe_int (fun _ _ => rfl)) (pa_cons (pe_ix ix_list (pv 2) pe_int (fun _ _ => rfl)) pa_nil))))))) pss_nil)
      (pss_cons (ps_set (i := 3) sc_told_of.nd rfl (Or.inl rfl) (pe_wget (pe_glob (v := .ref a.r_BY_THREE) rfl T.r_BY_THREE rfl) (pv 1) (fun _ _ => rfl)))
      (pss_one (ps_ret (pe_callX (i := 3) hrx rfl (Or.inl rfl) (passes_call (takes_of rfl rfl rfl rfl) (fun _ _ _ _ h => h)) (pa_cons (pv 0) (pa_cons (pe_ix ix_list (pv 2) pe_int (fun _ _ => rfl)) (pa_cons (pe_ix ix_list (pv 2) pe_int (fun _ _ => rfl)) (pa_cons (pe_ix ix_list (pv 2) pe_int (fun _ _ => rfl)) pa_nil))))))))))), ?_⟩
    obtain ⟨cp, args, lst⟩ := c
    have hc : cp = 2 ∨ cp = 3 ∨ cp = 4 ∨ cp = 5 ∨ cp = 6 ∨ cp = 7 ∨ cp = 8 ∨ cp = 9 ∨ cp = 10 ∨ cp = 11 := by
      have k1 : 1 ≤ cp := k1
      have k2 : cp ≤ 11 := k2
      have n1 : cp ≠ 1 := n1
      omega
    have k3 : args.length = sizes cp := k3
    have k4 : lst.isSome = true ↔ cp = 1 ∨ cp = 2 := k4
    rcases hc with rfl | rfl | rfl | rfl | rfl | rfl | rfl | rfl | rfl | rfl
    · obtain ⟨l0, rfl⟩ : ∃ l0, lst = some l0 := Option.isSome_iff_exists.mp (k4.mpr (Or.inr rfl))
      obtain ⟨x, y, rfl⟩ : ∃ x y, args = [x, y] := by
        match args, k3 with
        | [x, y], _ => exact ⟨x, y, rfl⟩
      obtain ⟨q1, hg1, hq1⟩ : ∃ q : Addr, H g = some (HO.lst ([x, y].map vN ++ [V.ref q])) ∧ NumsL H q l0 := hg
      have hq : Deed P w a p nm mk H Q E (editA m x y l0) := q
      have h24 := hll l0 rfl
      refine ⟨vN 2, rfl, a.r_BY_NONE, kvNONE a, Sum.inl ((2 : Nat) : Int), rfl, rfl, T.d_BY_NONE P w, _, rfl, ifE (fun cc => ?_) fun cc => ?_⟩
      · cases cc
      refine ⟨vN 2, rfl, a.r_BY_ONE, kvONE a, Sum.inl ((2 : Nat) : Int), rfl, rfl, T.d_BY_ONE P w, _, rfl, ifE (fun cc => ?_) fun cc => ?_⟩
      · cases cc
      refine ⟨vN 2, rfl, a.r_BY_TWO, kvTWO a, Sum.inl ((2 : Nat) : Int), rfl, rfl, T.d_BY_TWO P w, _, rfl, ifE (fun cc => ?_) fun cc => ?_⟩
      · cases cc
      refine ⟨vN 2, rfl, a.r_BY_THREE, kvTHREE a, Sum.inl ((2 : Nat) : Int), .ref a.f_edit, rfl, rfl, T.d_BY_THREE P w, rfl, ?_⟩
      exact ⟨a.f_edit, sp_edit P w K a, rfl, held h_edit (by decide), .ref p, rfl, .ref g, rfl, g, _, 0, vN x, rfl, rfl, sqL hg1, atI_nat (j := 0) rfl, .ref g, rfl, g, _, 1, vN y, rfl, rfl, sqL hg1, atI_nat (j := 1) rfl, .ref g, rfl, g, _, 2, .ref q1, rfl, rfl, sqL hg1, atI_nat (j := 2) rfl, p, nm, mk, q1, m, x, y, l0, rfl, hH, fit, hq1, h24, hq⟩
    · have hl : lst = none := by
        cases lst with
        | none => rfl
        | some l0 =>
          have := k4.mp rfl
          omega
      subst hl
      obtain ⟨x, y, z, rfl⟩ : ∃ x y z, args = [x, y, z] := by
        match args, k3 with
        | [x, y, z], _ => exact ⟨x, y, z, rfl⟩
      have hg1 : H g = some (.lst ([x, y, z].map vN)) := hg
      have hq : Deed P w a p nm mk H Q E (moveA m x y z) := q
      refine ⟨vN 3, rfl, a.r_BY_NONE, kvNONE a, Sum.inl ((3 : Nat) : Int), rfl, rfl, T.d_BY_NONE P w, _, rfl, ifE (fun cc => ?_) fun cc => ?_⟩
      · cases cc
      refine ⟨vN 3, rfl, a.r_BY_ONE, kvONE a, Sum.inl ((3 : Nat) : Int), rfl, rfl, T.d_BY_ONE P w, _, rfl, ifE (fun cc => ?_) fun cc => ?_⟩
      · cases cc
      refine ⟨vN 3, rfl, a.r_BY_TWO, kvTWO a, Sum.inl ((3 : Nat) : Int), rfl, rfl, T.d_BY_TWO P w, _, rfl, ifE (fun cc => ?_) fun cc => ?_⟩
      · cases cc
      refine ⟨vN 3, rfl, a.r_BY_THREE, kvTHREE a, Sum.inl ((3 : Nat) : Int), .ref a.f_move, rfl, rfl, T.d_BY_THREE P w, rfl, ?_⟩
      exact ⟨a.f_move, sp_move P w K a, rfl, held h_move (by decide), .ref p, rfl, .ref g, rfl, g, _, 0, vN x, rfl, rfl, sqL hg1, atI_nat (j := 0) rfl, .ref g, rfl, g, _, 1, vN y, rfl, rfl, sqL hg1, atI_nat (j := 1) rfl, .ref g, rfl, g, _, 2, vN z, rfl, rfl, sqL hg1, atI_nat (j := 2) rfl, p, nm, mk, m, x, y, z, rfl, hH, fit, hq⟩
    · have hl : lst = none := by
        cases lst with
        | none => rfl
        | some l0 =>
          have := k4.mp rfl
          omega
      subst hl
      obtain rfl : args = [] := List.eq_nil_of_length_eq_zero k3
      have hg1 : H g = some (.lst ([].map vN)) := hg
      have hq : Deed P w a p nm mk H Q E (undoA m) := q
      refine ⟨vN 4, rfl, a.r_BY_NONE, kvNONE a, Sum.inl ((4 : Nat) : Int), rfl, rfl, T.d_BY_NONE P w, _, rfl, ifE (fun cc => ?_) fun cc => ?_⟩
      rotate_left
      · cases cc
      refine ⟨vN 4, rfl, a.r_BY_NONE, kvNONE a, Sum.inl ((4 : Nat) : Int), .ref a.f_undo, rfl, rfl, T.d_BY_NONE P w, rfl, ?_⟩
      exact ⟨a.f_undo, sp_undo P w K a, rfl, held h_undo (by decide), .ref p, rfl, p, nm, mk, m, rfl, hH, fit, hq⟩
    · have hl : lst = none := by
        cases lst with
        | none => rfl
        | some l0 =>
          have := k4.mp rfl
          omega
      subst hl
      obtain rfl : args = [] := List.eq_nil_of_length_eq_zero k3
      have hg1 : H g = some (.lst ([].map vN)) := hg
      have hq : Deed P w a p nm mk H Q E (redoA m) := q
      refine ⟨vN 5, rfl, a.r_BY_NONE, kvNONE a, Sum.inl ((5 : Nat) : Int), rfl, rfl, T.d_BY_NONE P w, _, rfl, ifE (fun cc => ?_) fun cc => ?_⟩
      rotate_left
      · cases cc
      refine ⟨vN 5, rfl, a.r_BY_NONE, kvNONE a, Sum.inl ((5 : Nat) : Int), .ref a.f_redo, rfl, rfl, T.d_BY_NONE P w, rfl, ?_⟩
      exact ⟨a.f_redo, sp_redo P w K a, rfl, held h_redo (by decide), .ref p, rfl, p, nm, mk, m, rfl, hH, fit, hq⟩
    · have hl : lst = none := by
        cases lst with
        | none => rfl
        | some l0 =>
          have := k4.mp rfl
          omega
      subst hl
      obtain rfl : args = [] := List.eq_nil_of_length_eq_zero k3
      have hg1 : H g = some (.lst ([].map vN)) := hg
      have hq : Deed P w a p nm mk H Q E (treeA m) := q
      refine ⟨vN 6, rfl, a.r_BY_NONE, kvNONE a, Sum.inl ((6 : Nat) : Int), rfl, rfl, T.d_BY_NONE P w, _, rfl, ifE (fun cc => ?_) fun cc => ?_⟩
      rotate_left
      · cases cc
      refine ⟨vN 6, rfl, a.r_BY_NONE, kvNONE a, Sum.inl ((6 : Nat) : Int), .ref a.f_tree, rfl, rfl, T.d_BY_NONE P w, rfl, ?_⟩
      exact ⟨a.f_tree, sp_tree P w K a, rfl, held h_tree (by decide), .ref p, rfl, p, nm, mk, m, rfl, hH, fit, (fun T e => (td.some T e).1), hq⟩
    · have hl : lst = none := by
        cases lst with
        | none => rfl
        | some l0 =>
          have := k4.mp rfl
          omega
      subst hl
      obtain rfl : args = [] := List.eq_nil_of_length_eq_zero k3
      have hg1 : H g = some (.lst ([].map vN)) := hg
      have hq : Deed P w a p nm mk H Q E (wordsA m) := q
      refine ⟨vN 7, rfl, a.r_BY_NONE, kvNONE a, Sum.inl ((7 : Nat) : Int), rfl, rfl, T.d_BY_NONE P w, _, rfl, ifE (fun cc => ?_) fun cc => ?_⟩
      rotate_left
      · cases cc
      refine ⟨vN 7, rfl, a.r_BY_NONE, kvNONE a, Sum.inl ((7 : Nat) : Int), .ref a.f_words, rfl, rfl, T.d_BY_NONE P w, rfl, ?_⟩
      exact ⟨a.f_words, sp_words P w K a, rfl, held h_words (by decide), .ref p, rfl, p, nm, mk, m, rfl, hH, fit, hq⟩
    · have hl : lst = none := by
        cases lst with
        | none => rfl
        | some l0 =>
          have := k4.mp rfl
          omega
      subst hl
      obtain ⟨x, rfl⟩ : ∃ x, args = [x] := List.length_eq_one_iff.mp k3
      have hg1 : H g = some (.lst ([x].map vN)) := hg
      have hq : Deed P w a p nm mk H Q E (nodeA m x) := q
      refine ⟨vN 8, rfl, a.r_BY_NONE, kvNONE a, Sum.inl ((8 : Nat) : Int), rfl, rfl, T.d_BY_NONE P w, _, rfl, ifE (fun cc => ?_) fun cc => ?_⟩
      · cases cc
      refine ⟨vN 8, rfl, a.r_BY_ONE, kvONE a, Sum.inl ((8 : Nat) : Int), rfl, rfl, T.d_BY_ONE P w, _, rfl, ifE (fun cc => ?_) fun cc => ?_⟩
      rotate_left
      · cases cc
      refine ⟨vN 8, rfl, a.r_BY_ONE, kvONE a, Sum.inl ((8 : Nat) : Int), .ref a.f_node, rfl, rfl, T.d_BY_ONE P w, rfl, ?_⟩
      exact ⟨a.f_node, sp_node P w K a, rfl, held h_node (by decide), .ref p, rfl, .ref g, rfl, g, _, 0, vN x, rfl, rfl, sqL hg1, atI_nat (j := 0) rfl, p, nm, mk, m, x, rfl, hH, fit, td, hq⟩
    · have hl : lst = none := by
        cases lst with
        | none => rfl
        | some l0 =>
          have := k4.mp rfl
          omega
      subst hl
      obtain ⟨x, y, rfl⟩ : ∃ x y, args = [x, y] := by
        match args, k3 with
        | [x, y], _ => exact ⟨x, y, rfl⟩
      have hg1 : H g = some (.lst ([x, y].map vN)) := hg
      have hq : Deed P w a p nm mk H Q E (atA m x y) := q
      refine ⟨vN 9, rfl, a.r_BY_NONE, kvNONE a, Sum.inl ((9 : Nat) : Int), rfl, rfl, T.d_BY_NONE P w, _, rfl, ifE (fun cc => ?_) fun cc => ?_⟩
      · cases cc
      refine ⟨vN 9, rfl, a.r_BY_ONE, kvONE a, Sum.inl ((9 : Nat) : Int), rfl, rfl, T.d_BY_ONE P w, _, rfl, ifE (fun cc => ?_) fun cc => ?_⟩
      · cases cc
      refine ⟨vN 9, rfl, a.r_BY_TWO, kvTWO a, Sum.inl ((9 : Nat) : Int), rfl, rfl, T.d_BY_TWO P w, _, rfl, ifE (fun cc => ?_) fun cc => ?_⟩
      rotate_left
      · cases cc
      refine ⟨vN 9, rfl, a.r_BY_TWO, kvTWO a, Sum.inl ((9 : Nat) : Int), .ref a.f_at, rfl, rfl, T.d_BY_TWO P w, rfl, ?_⟩
      exact ⟨a.f_at, sp_at P w K a, rfl, held h_at (by decide), .ref p, rfl, .ref g, rfl, g, _, 0, vN x, rfl, rfl, sqL hg1, atI_nat (j := 0) rfl, .ref g, rfl, g, _, 1, vN y, rfl, rfl, sqL hg1, atI_nat (j := 1) rfl, p, nm, mk, m, x, y, rfl, hH, fit, td, hq⟩
    · have hl : lst = none := by
        cases lst with
        | none => rfl
        | some l0 =>
          have := k4.mp rfl
          omega
      subst hl
      obtain ⟨x, y, rfl⟩ : ∃ x y, args = [x, y] := by
        match args, k3 with
        | [x, y], _ => exact ⟨x, y, rfl⟩
      have hg1 : H g = some (.lst ([x, y].map vN)) := hg
      have hq : Deed P w a p nm mk H Q E (markA m x y) := q
      refine ⟨vN 10, rfl, a.r_BY_NONE, kvNONE a, Sum.inl ((10 : Nat) : Int), rfl, rfl, T.d_BY_NONE P w, _, rfl, ifE (fun cc => ?_) fun cc => ?_⟩
      · cases cc
      refine ⟨vN 10, rfl, a.r_BY_ONE, kvONE a, Sum.inl ((10 : Nat) : Int), rfl, rfl, T.d_BY_ONE P w, _, rfl, ifE (fun cc => ?_) fun cc => ?_⟩
      · cases cc
      refine ⟨vN 10, rfl, a.r_BY_TWO, kvTWO a, Sum.inl ((10 : Nat) : Int), rfl, rfl, T.d_BY_TWO P w, _, rfl, ifE (fun cc => ?_) fun cc => ?_⟩
      rotate_left
      · cases cc
      refine ⟨vN 10, rfl, a.r_BY_TWO, kvTWO a, Sum.inl ((10 : Nat) : Int), .ref a.f_mark, rfl, rfl, T.d_BY_TWO P w, rfl, ?_⟩
      exact ⟨a.f_mark, sp_mark P w K a, rfl, held h_mark (by decide), .ref p, rfl, .ref g, rfl, g, _, 0, vN x, rfl, rfl, sqL hg1, atI_nat (j := 0) rfl, .ref g, rfl, g, _, 1, vN y, rfl, rfl, sqL hg1, atI_nat (j := 1) rfl, p, nm, mk, m, x, y, rfl, hH, fit, hq⟩
    · have hl : lst = none := by
        cases lst with
        | none => rfl
        | some l0 =>
          have := k4.mp rfl
          omega
      subst hl
      obtain rfl : args = [] := List.eq_nil_of_length_eq_zero k3
      have hg1 : H g = some (.lst ([].map vN)) := hg
      have hq : Deed P w a p nm mk H Q E (marksA m) := q
      refine ⟨vN 11, rfl, a.r_BY_NONE, kvNONE a, Sum.inl ((11 : Nat) : Int), rfl, rfl, T.d_BY_NONE P w, _, rfl, ifE (fun cc => ?_) fun cc => ?_⟩
      rotate_left
      · cases cc
      refine ⟨vN 11, rfl, a.r_BY_NONE, kvNONE a, Sum.inl ((11 : Nat) : Int), .ref a.f_marks, rfl, rfl, T.d_BY_NONE P w, rfl, ?_⟩
      exact ⟨a.f_marks, sp_marks P w K a, rfl, held h_marks (by decide), .ref p, rfl, p, nm, mk, m, rfl, hH, fit, td, hq⟩
end
end Gw
/-! # Walks: the keeper; all answers -/
namespace Gw
open PySem PySem.Spec PyProof.Rows L2 Gr
open Nt (Sign Rule Grammar Tree)
open Gs (HM CallN sizes Tidy deedA stepA resOf runA toldA answersA beginA)
/-- o.m(e, ..) within a try: what it raises is wished for at the slots as they stand -/
def tMethS (C : Addr) (m : Str) (sp : Sp) (E : L2.St → XK) (ta : TE) (t : TA) : TE := fun σ H Q => ta σ H fun x H1 => ∃ a dx fs, x = .ref a ∧ H1 a = some (.ins C dx fs) ∧ fs.lookup m = none ∧ t σ H1 fun vs H2 => sp (x :: vs) H2 Q (E σ)
theorem pe_methS {X : Cx} {CX : CXT} {k : Nat} {f C : Addr} {fd : FuncData} {ps : List Str} {sp : Sp} {E : L2.St → XK} {m : Str} {pos apos : Pos} {e o : Expr} {es : List Expr} {ta : TE} {t : TA} {pl : Sem Bool} (he : PE X o ta) (c : Cls X.K C) (hm : Meth X.K C m f)
    (F : FnOk X.prog X.w X.K X.mg X.base CX k f fd ps sp) (hr : Room k X.A) (hb : Binds X.K fd ps []) (hx : ∀ σ, PassesAt CX X σ (E σ)) (ha : PA X (e :: es) t)
    (hst : starEach (e :: es) X.env = (false, eval e X.env) :: starEach es X.env := by rfl) (hpl : (backTo pos (starEach es X.env)).any (·.1) = false := by rfl)
    (ht : eval (.Call (.Attribute o m apos) (e :: es) [] pos) X.env = (do
      let ov ← eval o X.env
      standAt apos.atName
      let (f, first) ← holding [ov] (getMethod ov m pl)
      callWith pos f first (backTo pos (starEach (e :: es) X.env)) (backToKw pos (keywordEach [] X.env))) := by rfl) :
    PE X (.Call (.Attribute o m apos) (e :: es) [] pos) (tMethS C m sp E ta t) := by
  refine ⟨fun pins s σ H Q I h => ?_⟩
  refine PySem.W.methodCall_KW (pl := pl) (thn (he.run pins s σ H _ I h) fun u s1 ⟨x, H1, I1, rx, a, dx, fs, ex, ea, l, q⟩ => ?_) ht
  subst ex
  obtain rfl : u = Value.ref a := rx
  refine getmeth_ok I1 ea c hm l ?_
  refine PySem.W.callWith_K (first := [.ref a]) (h₀ := X.base) I.ok.mod.kin hm.kp (thn (ha.run pos pins s1 σ H1 _ I1 q) fun us s2 ⟨vs, H2, I2, r, q2⟩ => ⟨I2.kIn, ?_⟩) hst hpl
  exact run_fnS (us := .ref a :: us) (vs := .ref a :: vs) F hr hb (hx σ) I2 (.cons rfl r) q2
section
variable {P : Program} {w : World} {K : PySem.W.Frag} {mg : Str → Option Value} {base : Heap} {a : Ad}
def KeepAt (a : Ad) (H : Hp) (kp p : Addr) : Prop := ∃ dx, H kp = some (.ins a.c_Keeper dx [("house", .ref p)])
/-- a keeper is no part of a house -/
theorem HouseAt.keepO {H H' : Hp} {kp p nm mk : Addr} {o : HO} {m : HM} (hk : H kp = some o) (n1 : ∀ xs, o ≠ .lst xs) (n2 : ∀ xs, o ≠ .tup xs) (n3 : ∀ q, o ≠ .ext q) (n4 : ∀ kv, o ≠ .dK kv) (n5 : ∀ C dx fs, o = .ins C dx fs → fs.length ≤ 1) (k : ∀ b o, b ≠ kp → H b = some o → H' b = some o) (h : HouseAt P w a H p nm mk m) : HouseAt P w a H' p nm mk m := by
  obtain ⟨dp, F, hp, enm, emr, hin⟩ := h
  have ne : ∀ b C' d' fs', H b = some (.ins C' d' fs') → 2 ≤ fs'.length → b ≠ kp := fun b C' d' fs' hb hl z => by
    rw [z, hk] at hb
    have := n5 _ _ _ (Option.some.inj hb)
    omega
  have nt : ∀ b xs, H b = some (.tup xs) → H' b = some (.tup xs) := fun b xs hb => k _ _ (fun z => by rw [z, hk] at hb; exact n2 _ (Option.some.inj hb)) hb
  have nl : ∀ b xs, H b = some (.lst xs) → H' b = some (.lst xs) := fun b xs hb => k _ _ (fun z => by rw [z, hk] at hb; exact n1 _ (Option.some.inj hb)) hb
  have tx : ∀ b t, TextAt H b t → TextAt H' b t := fun b t h => by
    obtain ⟨ps, h1, h2, h3⟩ := h
    exact ⟨ps, nl _ _ h1, h2, fun q hq => nt _ _ (h3 q hq)⟩
  have txs : ∀ b t, TextsAt H b t → TextsAt H' b t := fun b t h => by
    obtain ⟨ps, h1, h2, h3⟩ := h
    exact ⟨ps, nl _ _ h1, h2, fun q hq => tx _ _ (h3 q hq)⟩
  obtain ⟨gl, ⟨dg, hg⟩, gs, hr1, hr2, hr3⟩ := hin.gram
  refine ⟨dp, F, k _ _ (ne _ _ _ _ hp (by show 2 ≤ 9; decide)) hp, enm, emr, ⟨gl, ⟨dg, k _ _ (ne _ _ _ _ hg (by show 2 ≤ 3; decide)) hg⟩, gs, nl _ _ hr1, hr2, fun x hx => KeyAt.mono (hr3 x hx) nt⟩, tx _ _ hin.text, hin.next, hin.names.mono (fun o z => k _ _ (fun y => ?_) z) nt, k _ _ (fun y => ?_) hin.marks, txs _ _ hin.elder, txs _ _ hin.later, ?_, nl _ _ hin.order⟩
  · obtain ⟨xs, e, _⟩ := hin.names
    rw [y, hk] at e
    exact n3 _ (Option.some.inj e)
  · have e := hin.marks
    rw [y, hk] at e
    exact n4 _ (Option.some.inj e)
  · have ht := hin.tree
    cases e : m.tree with
    | none => rw [e] at ht; exact ht
    | some T =>
      rw [e] at ht
      obtain ⟨b, h1, d', l, n, h2, h3, ns, g1, g2, g3⟩ := ht
      exact ⟨b, h1, d', l, n, k _ _ (ne _ _ _ _ h2 (by show 2 ≤ 2; decide)) h2, nl _ _ h3, ns, nl _ _ g1, g2, fun q hq => nt _ _ (g3 q hq)⟩
theorem HouseAt.keepK {H H' : Hp} {kp C dx p nm mk : Addr} {fs : List (Str × V)} {m : HM} (hk : H kp = some (.ins C dx fs)) (hf : fs.length ≤ 1) (k : ∀ b o, b ≠ kp → H b = some o → H' b = some o) (h : HouseAt P w a H p nm mk m) : HouseAt P w a H' p nm mk m :=
  h.keepO hk (fun _ z => by cases z) (fun _ z => by cases z) (fun _ z => by cases z) (fun _ z => by cases z) (fun _ _ _ z => by injection z with _ _ z; rw [← z]; exact hf) k
/-! ### Keeper.__init__ -/
def sp_Keeper_init (P : Program) (w : World) (K : PySem.W.Frag) (a : Ad) : Sp := fun vs H Q _ => ∃ (kp dx : Addr), vs = [.ref kp] ∧ H kp = some (.ins a.c_Keeper dx []) ∧
  ∀ H' p nm mk, KeepAt a H' kp p → HouseAt P w a H' p nm mk (HM.fresh ⟨1, 1, []⟩) → (∀ b o, b ≠ kp → H b = some o → H' b = some o) → Q .non H'
theorem ok_Keeper_init (F : Fn K "__init__" "Keeper.__init__" s_Keeper_init a.f_Keeper_init) (T : Txt K mg a) (h_first_house : Pr P w K mg base CX0 3 a.f_first_house [] (sp_first_house P w K a)) : Pr P w K mg base CX0 4 a.f_Keeper_init ["self"] (sp_Keeper_init P w K a) := by
  obtain ⟨fd, F⟩ := F
  obtain ⟨fd_first_house, G_first_house, B_first_house, K_first_house⟩ := h_first_house
  refine ⟨fd, F.ok sc_Keeper_init (fun vs H Q E h => ?_) (fun cdv A outer s H vs Q E hr h => ?_), F.binds (ps := ["self"]) fun _ _ _ _ _ _ us hl => match us, hl with | [_], _ => rfl, F.kp⟩
  · obtain ⟨kp, dx, rfl, _⟩ := h
    rfl
  · obtain ⟨kp, dx, rfl, hk, q⟩ := h
    refine ⟨_, (pss_one (ps_fld (pv 0) (pe_call0 G_first_house (hr.mono (by decide)) (by rfl) T.g_first_house K_first_house B_first_house .nil pass0) rfl)), ?_⟩
    refine ⟨rfl, fun H1 p nm mk s1 hH hp hn hm => ?_⟩
    refine ⟨_, rfl, kp, _, dx, [], rfl, s1 _ _ hk, T.c_Keeper, T.na_Keeper_house, (by decide), ?_⟩
    have kk := keeps (H := H1) (p := kp) (x := .ins a.c_Keeper dx (putF "house" (V.ref p) []))
    exact q _ p nm mk ⟨dx, upd_same⟩ (hH.keepK (s1 _ _ hk) (Nat.zero_le _) kk) fun b o nb hb => kk _ _ nb (s1 _ _ hb)
/-! ### Keeper.answer -/
/-- all stands but objects and dicts -/
def FrLT (H H' : Hp) : Prop := ∀ b o, H b = some o → (∀ C dx fs, o ≠ .ins C dx fs) → (∀ q, o ≠ .ext q) → (∀ kv, o ≠ .dK kv) → H' b = some o
theorem FrLT.of {H H' : Hp} (s : Same H H') : FrLT H H' := fun _ _ h _ _ _ => s _ _ h
theorem FrLT.trans {H H1 H2 : Hp} (h : FrLT H H1) (h' : FrLT H1 H2) : FrLT H H2 := fun b o z n1 n2 n3 => h' b o (h b o z n1 n2 n3) n1 n2 n3
def sp_Keeper_answer (P : Program) (w : World) (K : PySem.W.Frag) (a : Ad) : Sp := fun vs H Q E => ∃ (kp p nm mk g : Addr) (m : HM) (c : CallN), vs = [.ref kp, vN c.p, .ref g] ∧ KeepAt a H kp p ∧ HouseAt P w a H p nm mk m ∧ Gs.HM.Fit m ∧ Tidy m ∧ c.ok ∧ GivenAt H g c ∧ (∀ l, c.lst = some l → l.length ≤ 1024) ∧
  (∀ z, deedA m c = .inl z → ExN a E H z) ∧ ∀ r, deedA m c = .inr r → ∀ H' b p' nm' mk', KeepAt a H' kp p' → HouseAt P w a H' p' nm' mk' r.1 → NumsL H' b r.2 → H b = none → FrLT H H' → Q (.ref b) H'
theorem ok_Keeper_answer (F : Fn K "answer" "Keeper.answer" s_Keeper_answer a.f_Keeper_answer) (T : Txt K mg a) (h_told_of : Pr P w K mg base (L2.CX P w) 12 a.f_told_of ["house", "call", "given"] (sp_told_of P w K a)) (h_begin : Pr P w K mg base (L2.CX P w) 4 a.f_begin ["words", "parts", "told"] (sp_begin P w K a)) : Pr P w K mg base (L2.CX P w) 13 a.f_Keeper_answer ["self", "call", "given"] (sp_Keeper_answer P w K a) := by
  obtain ⟨fd, F⟩ := F
  obtain ⟨fd_told_of, G_told_of, B_told_of, K_told_of⟩ := h_told_of
  obtain ⟨fd_begin, G_begin, B_begin, K_begin⟩ := h_begin
  refine ⟨fd, F.okX sc_Keeper_answer (fun vs H Q E h => ?_) (fun cdv A outer s H vs Q E hr h => ?_), F.binds (ps := ["self", "call", "given"]) fun _ _ _ _ _ _ us hl => match us, hl with | [_, _, _], _ => rfl, F.kp⟩
  · obtain ⟨kp, p, nm, mk, g, m, c, rfl, _⟩ := h
    rfl
  · obtain ⟨kp, p, nm, mk, g, m, c, rfl, ⟨dk, hk⟩, hH, fit, td, hok, hg, hll, x1, x2⟩ := h
    refine ⟨_, (pss_cons (ps_if (pt_cmpR op_eq (pv 1) (pe_glob (v := .int (1)) rfl T.i_BEGIN ⟨_, rfl⟩) (nomark _)) (pss_cons (ps_fld (pv 0) (pe_call G_begin (hr.mono (by decide)) (by rfl) T.g_begin K_begin B_begin .nil (passes_call (takes_of rfl rfl rfl rfl) (fun _ _ _ _ h => h)) (pa_cons (pe_ix ix_list (pv 2) pe_int (fun _ _ => rfl)) (pa_cons (pe_ix ix_list (pv 2) pe_int (fun _ _ => rfl)) (pa_cons (pe_ix ix_list (pv 2) pe_int (fun _ _ => rfl)) pa_nil)))) rfl)
      (pss_one (ps_ret (pe_lst (pa_cons pe_int pa_nil))))) pss_nil)
      (pss_one (ps_ret (pe_call G_told_of (hr.mono (by decide)) (by rfl) T.g_told_of K_told_of B_told_of .nil (passes_call (takes_of rfl rfl rfl rfl) (fun _ _ _ _ h => h)) (pa_cons (pe_fld (pv 0) rfl) (pa_cons (pv 1) (pa_cons (pv 2) pa_nil))))))), ?_⟩
    refine ⟨vN c.p, rfl, rfl, _, rfl, ite2 (fun cc => ?_) (fun cc => ?_)⟩
    · obtain ⟨cp, args, lst⟩ := c
      have h1 : cp = 1 := by
        have : (cp : Int) = 1 := V.int.inj (of_decide_eq_true cc)
        omega
      subst h1
      obtain ⟨_, _, k3, k4⟩ := hok
      obtain ⟨l0, rfl⟩ : ∃ l0, lst = some l0 := Option.isSome_iff_exists.mp (k4.mpr (Or.inl rfl))
      obtain ⟨x, y, rfl⟩ : ∃ x y, args = [x, y] := by
        match args, k3 with
        | [x, y], _ => exact ⟨x, y, rfl⟩
      obtain ⟨q1, hg1, hq1⟩ : ∃ q : Addr, H g = some (HO.lst ([x, y].map vN ++ [V.ref q])) ∧ NumsL H q l0 := hg
      have ed : deedA m ⟨1, [x, y], some l0⟩ = beginA x y l0 := rfl
      rw [ed] at x1 x2
      have hlen := hll l0 rfl
      refine ⟨.ref g, rfl, g, _, 0, vN x, rfl, rfl, sqL hg1, atI_nat (j := 0) rfl, .ref g, rfl, g, _, 1, vN y, rfl, rfl, sqL hg1, atI_nat (j := 1) rfl, .ref g, rfl, g, _, 2, .ref q1, rfl, rfl, sqL hg1, atI_nat (j := 2) rfl, q1, x, y, l0, rfl, sqL hq1, hlen, fun c0 => x1 (-1) ?_, fun c0 c1 => x1 (-3) ?_, fun rs c0 c1 => ⟨fun c2 => x1 (-3) ?_, fun c2 c3 => x1 (-4) ?_, fun c2 c3 H1 hp' nm' mk' s1 hH' n1 n2 n3 => ?_⟩⟩
      · exact Gs.beginA_counts c0
      · exact Gs.beginA_none c0 c1
      · exact Gs.beginA_rules c0 c1 c2
      · exact Gs.beginA_sound c0 c1 c2 c3
      · have q := x2 (HM.fresh (Gs.gramOf x y rs), [0]) (Gs.beginA_ok c0 c1 c2 c3)
        refine ⟨.ref kp, rfl, kp, _, dk, _, rfl, s1 _ _ hk, T.c_Keeper, T.na_Keeper_house, (by show 1 < 1000; decide), ?_⟩
        have kk := keeps (H := H1) (p := kp) (x := .ins a.c_Keeper dk (putF "house" (V.ref hp') [("house", V.ref p)]))
        have ek : upd H1 kp (.ins a.c_Keeper dk (putF "house" (V.ref hp') [("house", V.ref p)])) kp = some (.ins a.c_Keeper dk [("house", V.ref hp')]) := upd_same
        have hH2 := hH'.keepK (s1 _ _ hk) (Nat.le_refl 1) kk
        have dom : ∀ b, upd H1 kp (.ins a.c_Keeper dk (putF "house" (V.ref hp') [("house", V.ref p)])) b = none → H b = none := fun b hb => by
          by_cases cb : b = kp
          · rw [cb, ek] at hb
            cases hb
          · rw [upd_ne cb] at hb
            exact none_of_same s1 hb
        have fr : FrLT H (upd H1 kp (.ins a.c_Keeper dk (putF "house" (V.ref hp') [("house", V.ref p)]))) := fun b o hb n1 _ _ => kk _ _ (fun z => by rw [z, hk] at hb; exact n1 _ _ _ (Option.some.inj hb).symm) (s1 _ _ hb)
        generalize upd H1 kp (.ins a.c_Keeper dk (putF "house" (V.ref hp') [("house", V.ref p)])) = H2 at kk ek hH2 dom fr ⊢
        refine ⟨line_le (by show 1 ≤ _; decide), ?_⟩
        intro b hb
        have s3 : Same H2 (upd H2 b (.lst [.int 0])) := same_new hb
        exact q _ b hp' nm' mk' ⟨dk, s3 _ _ ek⟩ (hH2.mono s3) upd_same (dom b hb) (fr.trans (FrLT.of s3))
    · have h1 : c.p ≠ 1 := fun z => cc (decide_eq_true (by rw [z]; rfl))
      refine ⟨.ref kp, rfl, kp, _, _, _, .ref p, rfl, hk, T.c_Keeper, T.na_Keeper_house, rfl, vN c.p, rfl, .ref g, rfl, p, nm, mk, g, m, c, rfl, hok, h1, hg, hll, hH, fit, td, ?_⟩
      have hH' := hH
      obtain ⟨dp, F, hp, enm, emr, hin⟩ := hH'
      cases e : deedA m c with
      | inl z => exact x1 z e
      | inr r =>
        intro H2 b hH2 k2 hb2 hnb
        have notS : ∀ b o, H b = some o → (∀ q, o ≠ .ext q) → (∀ kv, o ≠ .dK kv) → b ≠ p → ¬ SH p nm mk b := fun b o hb n2 n3 n1 z => by
          rcases z with z | z | z
          · exact n1 z
          · obtain ⟨xs, e, _⟩ := hin.names
            rw [z, ← enm, e] at hb
            exact n2 _ (Option.some.inj hb).symm
          · have e := hin.marks
            rw [z, ← emr, e] at hb
            exact n3 _ (Option.some.inj hb).symm
        have kpp : kp ≠ p := fun z => by
          rw [z, hp] at hk
          injection hk with hk
          injection hk with _ _ hk
          have := congrArg List.length hk
          cases this
        exact x2 r e H2 b p nm mk ⟨dk, k2.kp _ _ hk (notS _ _ hk (fun _ z => by cases z) (fun _ z => by cases z) kpp)⟩ hH2 hb2 hnb fun b o hb n1 n2 n3 => k2.kp _ _ hb (notS _ _ hb n2 n3 fun z => by rw [z, hp] at hb; exact n1 _ _ _ (Option.some.inj hb).symm)
end
end Gw
/-! # Walks: all answers -/
namespace Gw
open PySem PySem.Spec PyProof.Rows L2 Gr
open Nt (Sign Rule Grammar Tree)
open Gs (HM CallN sizes Tidy deedA stepA resOf runA toldA answersA)
/-- the house behind some calls -/
noncomputable def stateA (m : HM) (cs : List CallN) : HM := cs.foldl (fun m c => (stepA m c).1) m
theorem run_snoc : ∀ (cs : List CallN) (m : HM) (c : CallN), runA m (cs ++ [c]) = runA m cs ++ [(stepA (stateA m cs) c).2]
  | [], m, c => rfl
  | d :: cs, m, c => by
    show (stepA m d).2 :: runA (stepA m d).1 (cs ++ [c]) = (stepA m d).2 :: (runA (stepA m d).1 cs ++ [(stepA (stateA (stepA m d).1 cs) c).2])
    rw [run_snoc cs]
theorem state_snoc (cs : List CallN) (m : HM) (c : CallN) : stateA m (cs ++ [c]) = (stepA (stateA m cs) c).1 := by
  unfold stateA
  rw [List.foldl_append]
  rfl
theorem told_snoc (l : List (List Int)) (x : List Int) : toldA (l ++ [x]) = toldA l ++ ((x.length : Int) :: x) := by
  unfold toldA
  rw [List.flatMap_append, List.flatMap_singleton]
theorem run_take (cs : List CallN) (m : HM) : ∀ i, ∃ r, toldA (runA m cs) = toldA (runA m (cs.take i)) ++ r := fun i => by
  have : ∀ (l1 l2 : List CallN) (m : HM), runA m (l1 ++ l2) = runA m l1 ++ runA (stateA m l1) l2 := by
    intro l1
    induction l1 with
    | nil => intro l2 m; rfl
    | cons c l1 ih =>
      intro l2 m
      show (stepA m c).2 :: runA (stepA m c).1 (l1 ++ l2) = (stepA m c).2 :: (runA (stepA m c).1 l1 ++ runA (stateA (stepA m c).1 l1) l2)
      rw [ih]
  refine ⟨toldA (runA (stateA m (cs.take i)) (cs.drop i)), ?_⟩
  conv => lhs; rw [← List.take_append_drop i cs]
  rw [this]
  unfold toldA
  rw [List.flatMap_append]
section
variable {P : Program} {w : World} {K : PySem.W.Frag} {mg : Str → Option Value} {base : Heap} {a : Ad}
def m0 : HM := HM.fresh ⟨1, 1, []⟩
def sp_answers (P : Program) (w : World) (K : PySem.W.Frag) (a : Ad) : Sp := fun vs H Q _ => ∃ (l : Addr) (cs : List CallN), vs = [.ref l] ∧ SqL K H l ((cs.flatMap CallN.flat).map vN) ∧ (∀ c ∈ cs, c.ok) ∧ (∀ c ∈ cs, ∀ l, c.lst = some l → l.length ≤ 1024) ∧ cs.length ≤ 1000 ∧
  (∀ i, i ≤ cs.length → Gs.HM.Fit (stateA m0 (cs.take i)) ∧ Tidy (stateA m0 (cs.take i))) ∧ (answersA cs).length ≤ 15000000 ∧ ∀ H' r, H' r = some (.lst ((answersA cs).map V.int)) → Q (.ref r) H'
theorem ok_answers {fd : FuncData} (F : Fun K "answers" "answers" s_answers a.f_answers fd) (T : Txt K mg a) (xf : XfC K a.c_NotLet) (h_Keeper_init : Pr P w K mg base CX0 4 a.f_Keeper_init ["self"] (sp_Keeper_init P w K a)) (h_taken_apart : Pr P w K mg base CX0 1 a.f_taken_apart ["calls"] (sp_taken_apart P w K a)) (h_Keeper_answer : Pr P w K mg base (L2.CX P w) 13 a.f_Keeper_answer ["self", "call", "given"] (sp_Keeper_answer P w K a)) : FnOk P w K mg base CX0 14 a.f_answers fd ["calls"] (sp_answers P w K a) := by
  obtain ⟨fd_Keeper_init, G_Keeper_init, B_Keeper_init, K_Keeper_init⟩ := h_Keeper_init
  obtain ⟨fd_taken_apart, G_taken_apart, B_taken_apart, K_taken_apart⟩ := h_taken_apart
  obtain ⟨fd_Keeper_answer, G_Keeper_answer, B_Keeper_answer, K_Keeper_answer⟩ := h_Keeper_answer
  refine F.ok sc_answers (fun vs H Q E h => ?_) (fun cdv A outer s H vs Q E hr h => ?_)
  · obtain ⟨l, cs, rfl, _⟩ := h
    rfl
  · obtain ⟨l, cs, rfl, hl, hok, hll, hcl, hst, hal, q⟩ := h
    refine ⟨_, (pss_cons (ps_set (i := 1) sc_answers.nd rfl (Or.inl rfl) (pe_make0 T.mk_Keeper G_Keeper_init (hr.mono (by decide)) (by rfl) T.g_Keeper B_Keeper_init .nil pass0))
      (pss_cons (ps_set (i := 2) sc_answers.nd rfl (Or.inl rfl) (pe_lst pa_nil))
      (pss_cons (ps_for PassesOwn.never rfl (pi_list (pe_call G_taken_apart (hr.mono (by decide)) (by rfl) T.g_taken_apart K_taken_apart B_taken_apart .nil pass0 (pa_cons (pv 0) pa_nil))) (pg_tup (by rfl) (pgs_cons (pg_name (i := 3) sc_answers.nd rfl (Or.inl rfl)) (pgs_cons (pg_name (i := 4) sc_answers.nd rfl (Or.inl rfl)) pgs_nil))) (pss_cons (ps_lock (ps_try_as (i := 6) (tb := fun W => tAsg (tMethS a.c_Keeper "answer" (sp_Keeper_answer P w K a) (WE W) (tVar 1) (tCons (tVar 3) (tCons (tVar 4) tNil))) (gName 5)) (ts := fun e cls d => tAsg (tLst (tCons (tXf e cls d a.c_NotLet "number" (tVar 6)) tNil)) (gName 5)) (Wout := fun _ _ _ _ => False) rfl rfl sc_answers.nd rfl rfl ⟨rfl, by decide, Or.inl T.g_NotLet⟩ takes0 (fun W pn xe tk _ => pss_one (ps_set (i := 5) sc_answers.nd rfl (Or.inl rfl) (by exact (pe_methS (pv 1) T.c_Keeper T.m_Keeper_answer G_Keeper_answer (hr.mono (by decide)) B_Keeper_answer (fun σ => passAt tk σ) (by exact (pa_cons (pv 3) (pa_cons (pv 4) pa_nil))))))) (fun e oe cls d pn hz hf => pss_one (ps_set (i := 5) sc_answers.nd rfl (Or.inl rfl) (by exact (pe_lst (pa_cons (pe_xf xf T.no_number hz hf (pv 6)) pa_nil)))))))
      (pss_cons (ps_expr (pe_bm PySem.F.plainAttrs_list PySem.F.slot_list_append PySem.F.type_list_append mt_append (pv 2) (pa_cons (pe_callB call_len_seq (by rfl) T.n_len PySem.boot_len (pa_cons (pv 5) pa_nil)) pa_nil)))
      (pss_one (ps_expr (pe_bm PySem.F.plainAttrs_list PySem.F.slot_list_extend PySem.F.type_list_extend mt_extend (pv 2) (pa_cons (pv 5) pa_nil)))))))
      (pss_one (ps_ret (pv 2)))))), ?_⟩
    -- keeper = Keeper()
    intro kp dk hkp hdk ndk
    refine ⟨kp, dk, rfl, upd_same, fun H1 p0 nm0 mk0 hK1 hH1 kk1 => ⟨rfl, ?_⟩⟩
    have s1 : Same H H1 := fun b o hb => kk1 b o (ne_of_none hb hkp) (same_made hkp hdk _ _ hb)
    -- found = []
    refine ⟨Nat.zero_le _, ?_⟩
    intro F hF
    have s12 : Same H1 (upd H1 F (.lst [])) := same_new hF
    have eF2 : upd H1 F (.lst []) F = some (.lst []) := upd_same
    obtain ⟨H2, hH2⟩ : ∃ H2, H2 = upd H1 F (.lst []) := ⟨_, rfl⟩
    rw [← hH2] at s12 eF2 ⊢
    have hK2 : KeepAt a H2 kp p0 := hK1.imp fun _ z => s12 _ _ z
    have hHo2 := hH1.mono s12
    -- for call, given in taken_apart(calls)
    refine ⟨.ref l, rfl, l, cs, rfl, (s1.trans s12).seq hl, hok, hcl, fun H3 r s23 hr ⟨ps, er, hps, hpk⟩ => ⟨r, rfl, ⟨_, sqL er⟩, ?_⟩⟩
    have hpl : ps.length = cs.length := by rw [← hps, List.length_map]
    have F2 : H2 F ≠ none := fun z => by rw [eF2] at z; cases z
    have rF : r ≠ F := fun z => F2 (by rw [← z]; exact hr)
    have nlk : ∀ (o : Obj) (u : HO), (∀ xs, HO.frz o u ≠ .lst xs) ∧ (∀ xs, HO.frz o u ≠ .tup xs) ∧ (∀ q, HO.frz o u ≠ .ext q) ∧ (∀ kv, HO.frz o u ≠ .dK kv) ∧ (∀ C dx fs, HO.frz o u = .ins C dx fs → fs.length ≤ 1) := fun o u => ⟨(fun _ z => by cases z), (fun _ z => by cases z), (fun _ z => by cases z), (fun _ z => by cases z), (fun _ _ _ z => by cases z)⟩
    have kpF : kp ≠ F := by
      obtain ⟨dk', hk⟩ := hK1
      exact ne_of_none hk hF
    have F1none : H1 F = none := hF
    refine for_list (xs := ps.map fun p => V.ref p.1) (fun i σ H' => ∃ (p nm mk : Addr) (v3 v4 v5 v6 : Option V) (HL : Hp), σ = [some (.ref l), some (.ref kp), some (.ref F), v3, v4, v5, v6] ∧ H' = upd HL F (.lst ((toldA (runA m0 (cs.take i))).map V.int)) ∧ KeepAt a HL kp p ∧ (∀ o u, HouseAt P w a (upd HL F (.frz o u)) p nm mk (stateA m0 (cs.take i))) ∧
        HL r = some (.lst (ps.map fun p => V.ref p.1)) ∧ (∀ x ∈ ps, CallF H2 HL x.1 x.2) ∧ ∀ xs, HL F ≠ some (.tup xs))
      ⟨p0, nm0, mk0, none, none, none, none, H3, rfl, ?_, hK2.imp fun _ z => s23 _ _ z, fun o u => ?_, er, hpk, fun xs z => by rw [s23 _ _ eF2] at z; cases z⟩ (fun i σ H' _ ⟨_, _, _, _, _, _, _, HL, _, eH, _, _, h, _⟩ => sqL (by rw [eH, upd_ne rF]; exact h)) (fun i v σ H' hv ⟨p, nm, mk, v3, v4, v5, v6, HL, eσ, eH, hK, hHo, er', hpk', hFt⟩ => ?_) (fun σ H' ⟨p, nm, mk, v3, v4, v5, v6, HL, eσ, eH, hK, hHo, er', hpk', hFt⟩ => ?_)
    · -- F holds nothing as yet
      funext b
      by_cases c : b = F
      · rw [c, upd_same]
        exact s23 _ _ eF2
      · rw [upd_ne c]
    · -- the first house has no part of F
      have h1 : HouseAt P w a (upd H1 F (.frz o u)) p0 nm0 mk0 m0 := hH1.mono (same_new F1none)
      refine h1.keepO upd_same (nlk o u).1 (nlk o u).2.1 (nlk o u).2.2.1 (nlk o u).2.2.2.1 (nlk o u).2.2.2.2 fun b x nb hb => ?_
      rw [upd_ne nb] at hb
      rw [upd_ne nb]
      exact s23 _ _ (s12 _ _ hb)
    · subst eσ
      subst eH
      obtain ⟨⟨t, c⟩, hx, rfl⟩ := get_map hv
      have hcx : cs[i]? = some c := by rw [← hps, List.getElem?_map, hx]; rfl
      have hil : i < cs.length := (List.getElem?_eq_some_iff.mp hcx).1
      have hcm : c ∈ cs := List.mem_of_getElem? hcx
      obtain ⟨g, htg, hgf⟩ := hpk' (t, c) (List.mem_of_getElem? hx)
      obtain ⟨fit, td⟩ := hst i (by omega)
      have etake := take_one hcx
      have est : stateA m0 (cs.take (i + 1)) = (stepA (stateA m0 (cs.take i)) c).1 := by rw [etake, state_snoc]
      have eto : toldA (runA m0 (cs.take (i + 1))) = toldA (runA m0 (cs.take i)) ++ (((stepA (stateA m0 (cs.take i)) c).2.length : Int) :: (stepA (stateA m0 (cs.take i)) c).2) := by rw [etake, run_snoc, told_snoc]
      have hlen : (toldA (runA m0 (cs.take i))).length + ((stepA (stateA m0 (cs.take i)) c).2.length + 1) ≤ 15000000 := by
        obtain ⟨rr, hrr⟩ := run_take cs m0 (i + 1)
        have : (answersA cs).length = (toldA (runA m0 (cs.take (i + 1)))).length + rr.length := by
          show (toldA (runA m0 cs)).length = _
          rw [hrr, List.length_append]
        rw [eto, List.length_append, List.length_cons] at this
        omega
      rw [est, eto]
      generalize stateA m0 (cs.take i) = m at hHo fit td hlen ⊢
      generalize toldA (runA m0 (cs.take i)) = told at hlen ⊢
      have tF : t ≠ F := fun z => hFt _ (by rw [← z]; exact htg)
      have newF : ∀ b, H2 b = none → b ≠ F := fun b hb z => F2 (by rw [← z]; exact hb)
      refine ⟨t, _, rfl, sqT (by rw [upd_ne tF]; exact htg), rfl, vN c.p, _, rfl, .ref g, _, rfl, rfl, ?_⟩
      -- found is locked while the call is answered
      refine ⟨F, _, upd_same, trivial, fun od => ?_⟩
      rw [upd_upd]
      obtain ⟨HK, hHK⟩ : ∃ HK, HK = upd HL F (.frz od (.lst (told.map V.int))) := ⟨_, rfl⟩
      have eFK : HK F = some (.frz od (.lst (told.map V.int))) := by rw [hHK, upd_same]
      have kK : ∀ b o, b ≠ F → HL b = some o → HK b = some o := fun b o nb hb => by rw [hHK, upd_ne nb]; exact hb
      have hHK0 := hHo od (.lst (told.map V.int))
      rw [← hHK] at hHK0 ⊢
      have hKK : KeepAt a HK kp p := hK.imp fun _ z => kK _ _ kpF z
      have hgK : GivenAt HK g c := (hgf.keep (F := F) (H' := HK) fun b hb xs h => kK _ _ (newF b hb) h).at
      have erK := kK _ _ rF er'
      have hpkK : ∀ x ∈ ps, CallF H2 HK x.1 x.2 := fun x hx => (hpk' x hx).keep (F := F) (fun b hb xs h => kK _ _ (newF b hb) h) fun b xs h => kK _ _ (fun z => hFt _ (by rw [← z]; exact h)) h
      -- what follows
      have fin : ∀ (H4 : Hp) (b p' nm' mk' : Addr) (w6 : Option V), H4 F = some (.frz od (.lst (told.map V.int))) → KeepAt a H4 kp p' → HouseAt P w a H4 p' nm' mk' (stepA m c).1 → H4 b = some (.lst ((stepA m c).2.map V.int)) → H4 r = some (.lst (ps.map fun p => V.ref p.1)) → (∀ x ∈ ps, CallF H2 H4 x.1 x.2) →
          ∃ (p nm mk : Addr) (v3 v4 v5 v6 : Option V) (HL : Hp), [some (V.ref l), some (.ref kp), some (.ref F), some (vN c.p), some (.ref g), some (.ref b), w6] = [some (V.ref l), some (.ref kp), some (.ref F), v3, v4, v5, v6] ∧
            upd (upd (upd H4 F (.lst (told.map V.int))) F (.lst (told.map V.int ++ [.int ((((stepA m c).2.map V.int).length : Nat))]))) F (.lst (told.map V.int ++ [.int ((((stepA m c).2.map V.int).length : Nat))] ++ (stepA m c).2.map V.int)) = upd HL F (.lst ((told ++ (((stepA m c).2.length : Int) :: (stepA m c).2)).map V.int)) ∧
            KeepAt a HL kp p ∧ (∀ o u, HouseAt P w a (upd HL F (.frz o u)) p nm mk (stepA m c).1) ∧ HL r = some (.lst (ps.map fun p => V.ref p.1)) ∧ (∀ x ∈ ps, CallF H2 HL x.1 x.2) ∧ ∀ xs, HL F ≠ some (.tup xs) := fun H4 b p' nm' mk' w6 f4 k4 h4 b4 r4 c4 => by
        refine ⟨p', nm', mk', _, _, _, _, H4, rfl, ?_, k4, fun o u => ?_, r4, c4, fun xs z => by rw [f4] at z; cases z⟩
        · rw [upd_upd, upd_upd]
          congr 2
          rw [List.length_map, List.map_append, List.append_assoc]
          rfl
        · refine h4.keepO f4 (nlk _ _).1 (nlk _ _).2.1 (nlk _ _).2.2.1 (nlk _ _).2.2.2.1 (nlk _ _).2.2.2.2 fun b x nb hb => ?_
          rw [upd_ne nb]
          exact hb
      have l4 : told.length + 1 + (stepA m c).2.length ≤ 15000000 := by omega
      have keep4 : ∀ H4, FrLT HK H4 → H4 F = some (.frz od (.lst (told.map V.int))) ∧ H4 r = some (.lst (ps.map fun p => V.ref p.1)) ∧ ∀ x ∈ ps, CallF H2 H4 x.1 x.2 := fun H4 fr => by
        have fl : ∀ b xs, HK b = some (.lst xs) → H4 b = some (.lst xs) := fun b xs h => fr _ _ h (fun _ _ _ z => by cases z) (fun _ z => by cases z) fun _ z => by cases z
        have ft : ∀ b xs, HK b = some (.tup xs) → H4 b = some (.tup xs) := fun b xs h => fr _ _ h (fun _ _ _ z => by cases z) (fun _ z => by cases z) fun _ z => by cases z
        exact ⟨fr _ _ eFK (fun _ _ _ z => by cases z) (fun _ z => by cases z) (fun _ z => by cases z), fl _ _ erK, fun x hx => (hpkK x hx).keep (F := F) (fun b _ xs h => fl b xs h) ft⟩
      have hsz1 : (told.map V.int).length < sizeLine := line_lt (by rw [List.length_map]; omega)
      have hsz2 : ∀ v : V, (told.map V.int ++ [v]).length + ((stepA m c).2.map V.int).length ≤ sizeLine := fun v => line_le (by rw [List.length_append, List.length_map, List.length_map]; show told.length + 1 + _ ≤ _; omega)
      obtain ⟨dkp, ekp⟩ := hKK
      refine ⟨.ref kp, rfl, kp, dkp, _, rfl, ekp, rfl, vN c.p, rfl, .ref g, rfl, kp, p, nm, mk, g, m, c, rfl, ⟨dkp, ekp⟩, hHK0, fit, td, hok c hcm, hgK, hll c hcm, fun z hz d H4 s4 hd => ?_, fun res hres H4 b p' nm' mk' k4 h4 b4 hnb fr => ?_⟩
      · -- the call isn't let
        have es : stepA m c = (m, [z]) := by
          unfold stepA
          rw [hz]
          rfl
        refine ⟨true, T.e_NotLet, fun _ e he => ?_, fun q => Bool.noConfusion q⟩
        refine ⟨.ref e, rfl, rfl, rfl, d, _, .int z, rfl, hd, rfl, line_le (by show 1 ≤ _; decide), ?_⟩
        intro b hb
        have s5 : Same H4 (upd H4 b (.lst [.int z])) := same_new hb
        have b5 : upd H4 b (.lst [.int z]) b = some (.lst ((stepA m c).2.map V.int)) := by rw [upd_same, es]; rfl
        obtain ⟨H5, hH5⟩ : ∃ H5, H5 = upd H4 b (.lst [.int z]) := ⟨_, rfl⟩
        rw [← hH5] at s5 b5
        have s45 := s4.trans s5
        obtain ⟨f5, r5, c5⟩ := keep4 H5 (FrLT.of s45)
        have nb : b ≠ F := fun y => by
          rw [y, f5] at b5
          cases b5
        have eb : upd H5 F (.lst (told.map V.int)) b = some (.lst ((stepA m c).2.map V.int)) := by rw [upd_ne nb]; exact b5
        show (upd H4 b (.lst [.int z])) F = _ ∧ _
        rw [← hH5]
        refine ⟨f5, ?_⟩
        refine ⟨.ref F, rfl, tyL upd_same, .ref b, rfl, b, _, rfl, .inl (sqL eb), F, _, _, rfl, rfl, upd_same, hsz1, ?_⟩
        refine ⟨.ref F, rfl, tyL upd_same, .ref b, rfl, F, b, _, _, rfl, rfl, upd_same, by rw [upd_ne nb]; exact eb, hsz2 _, ?_⟩
        exact fin H5 b p nm mk none f5 ⟨dkp, s45 _ _ ekp⟩ (by rw [es]; exact hHK0.mono s45) b5 r5 c5
      · have es : stepA m c = (res.1, res.2.map fun n : Nat => (n : Int)) := by
          unfold stepA
          rw [hres]
          rfl
        obtain ⟨f5, r5, c5⟩ := keep4 H4 fr
        have b5 : H4 b = some (.lst ((stepA m c).2.map V.int)) := by
          rw [es]
          show H4 b = some (.lst ((res.2.map fun n : Nat => (n : Int)).map V.int))
          rw [ints_vN]
          exact b4
        have nb : b ≠ F := fun y => by
          rw [y, f5] at b5
          cases b5
        have eb : upd H4 F (.lst (told.map V.int)) b = some (.lst ((stepA m c).2.map V.int)) := by rw [upd_ne nb]; exact b5
        refine ⟨f5, ?_⟩
        refine ⟨.ref F, rfl, tyL upd_same, .ref b, rfl, b, _, rfl, .inl (sqL eb), F, _, _, rfl, rfl, upd_same, hsz1, ?_⟩
        refine ⟨.ref F, rfl, tyL upd_same, .ref b, rfl, F, b, _, _, rfl, rfl, upd_same, by rw [upd_ne nb]; exact eb, hsz2 _, ?_⟩
        exact fin H4 b p' nm' mk' v6 f5 k4 (by rw [es]; exact h4) b5 r5 c5
    · subst eσ
      subst eH
      rw [List.length_map, hpl, List.take_length]
      exact ⟨_, rfl, q _ F upd_same⟩
end
end Gw
/-! # What the top has written; every promise kept -/
namespace Gw
open PySem PySem.Spec PyProof.Rows L2 Gr
/-- an error of the class at S is what «except S» names -/
theorem exm_self {K : PySem.W.Frag} {S : Addr} (h1 : PySem.W.subIn K (.ref S) (.type "BaseException") = some true) (h2 : PySem.W.isClsIn K S = true) (h3 : PySem.W.typeIn K (.ref S) = some (.type "type")) (h4 : PySem.W.subIn K (.ref S) (.ref S) = some true) :
    PySem.W.exmOne K (.ref S) (.ref S) = some true := by
  have e1 : (PySem.W.subIn K (.ref S) (.type "BaseException") == some true) = true := by rw [h1] <;> rfl
  have e2 : ((PySem.W.clsIn K S).isSome && PySem.W.typeIn K (.ref S) == some (.type "type")) = true := by
    have h2' : (PySem.W.clsIn K S).isSome = true := h2
    rw [h2', h3] <;> rfl
  show (if (PySem.W.subIn K (.ref S) (.type "BaseException") == some true) = true then (if ((PySem.W.clsIn K S).isSome && PySem.W.typeIn K (.ref S) == some (.type "type")) = true then PySem.W.subIn K (.ref S) (.ref S) else none) else none) = some true
  rw [if_pos e1, if_pos e2]
  exact h4
/-- a written dict of whole numbers, to defs -/
abbrev Ent := Int × Int × Tok × Addr
def entOf (e : Ent) : DictEntry := ⟨e.1, .int e.2.1 e.2.2.1, .ref e.2.2.2⟩
theorem wd_pairs (P : Program) (w : World) : ∀ l : List Ent, PySem.Pairs (mixKind P w) (l.map entOf) (l.map fun e => ((.inl e.2.1 : Key), Value.ref e.2.2.2))
  | [] => .nil
  | e :: l => .cons (keyIs_int e.2.1 e.2.2.1) rfl (wd_pairs P w l)
theorem wd_kv : ∀ l : List Ent, KV (l.map fun e => ((.inl e.2.1 : Key), V.ref e.2.2.2)) (l.map fun e => ((.inl e.2.1 : Key), Value.ref e.2.2.2))
  | [] => .nil
  | e :: l => .cons ⟨rfl, rfl⟩ (wd_kv l)
theorem wd_of {K : PySem.W.Frag} {r : Addr} (l : List Ent) {ep : Nat} (h : K.lookup r = some ⟨.type "dict", none, .dict (l.map entOf).toArray ep, #[]⟩) (hs : (r == sysModules) = false) (hh : ∀ e ∈ l, e.1 = hashInt e.2.1) (hn : (l.map fun e => e.2.1).Nodup) (P : Program) (w : World) :
    WD P w K r (l.map fun e => ((.inl e.2.1 : Key), V.ref e.2.2.2)) := by
  refine ⟨hs, l.map fun e => ((.inl e.2.1 : Key), Value.ref e.2.2.2), wd_kv l, fun hp X => ⟨_, (l.map entOf).toArray, ep, X _ _ h, ⟨rfl, rfl, rfl⟩, rfl, fun e he => ?_, wd_pairs P w l, ?_⟩⟩
  · have he : e ∈ l.map entOf := List.mem_toArray.mp he
    obtain ⟨x, hx, rfl⟩ := List.mem_map.mp he
    exact ⟨.inl x.2.1, keyIs_int x.2.1 x.2.2.1, hh x hx⟩
  · rw [List.map_map]
    have e : (l.map ((fun x : Key × Value => x.1) ∘ fun e : Ent => ((.inl e.2.1 : Key), Value.ref e.2.2.2))) = (l.map fun e => e.2.1).map fun z => (.inl z : Key) := by
      rw [List.map_map]
      rfl
    rw [e]
    exact List.Pairwise.map _ (fun a b hab q => hab (Sum.inl.inj q)) hn
/-- answers's promise, with the written part alone -/
def spFin (K : PySem.W.Frag) : Sp := fun vs H Q _ => ∃ (l : Addr) (cs : List Gs.CallN), vs = [.ref l] ∧ SqL K H l ((cs.flatMap Gs.CallN.flat).map vN) ∧ (∀ c ∈ cs, c.ok) ∧ (∀ c ∈ cs, ∀ l, c.lst = some l → l.length ≤ 1024) ∧ cs.length ≤ 1000 ∧
  (∀ i, i ≤ cs.length → Gs.HM.Fit (stateA m0 (cs.take i)) ∧ Gs.Tidy (stateA m0 (cs.take i))) ∧ (Gs.answersA cs).length ≤ 15000000 ∧ ∀ H' r, H' r = some (.lst ((Gs.answersA cs).map V.int)) → Q (.ref r) H'
theorem all_mk {P : Program} {w : World} {K : PySem.W.Frag} {h : Heap} {mg : Str → Option Value} {fa : Addr} (X : K.In h) (G : h.Ns mainGlobals mg) (hfa : mg "answers" = some (.ref fa))
    {c_Grammar c_Ends c_Tree c_House c_NotLet c_Keeper f_Grammar_init f_is_part f_are_counts f_is_sign f_rules_told f_are_rules f_led_alone f_is_sound f_Ends_init f_Ends_of_sign f_Ends_behind f_Ends_grow f_Ends_fill_rests f_Ends_fill f_places_in f_has f_first_rule f_cuts f_Tree_init f_first_tree f_read f_House_init f_House_key_of f_House_take f_House_change f_House_step f_House_edit f_House_move f_House_undo f_House_redo f_House_has_had f_House_place_of f_House_set_mark f_House_is_full_for f_stretch_told f_NotLet_init f_want f_first_house f_begin f_edit f_move f_undo f_redo f_tree f_words f_want_name f_node f_at f_mark f_marks f_taken_apart f_told_of f_Keeper_init f_Keeper_answer f_answers r_BY_NONE r_BY_ONE r_BY_THREE r_BY_TWO r_SIZES r_WITH_LIST : Addr}
    {t_BEGIN t_MOST_MARK t_MOST_MARKS t_MOST_PARTS t_MOST_RULES t_MOST_SIGNS t_MOST_TEXT t_MOST_UNDO t_MOST_WORDS t_NONE_SUCH t_NOT_AS_TOLD t_NOT_SOUND t_NOT_THERE t_PART t_TOO_MANY w_SIZES_0 w_SIZES_1 w_SIZES_2 w_SIZES_3 w_SIZES_4 w_SIZES_5 w_SIZES_6 w_SIZES_7 w_SIZES_8 w_SIZES_9 w_SIZES_10 w_SIZES_11 w_WITH_LIST_0 w_WITH_LIST_1 w_BY_NONE_0 w_BY_NONE_1 w_BY_NONE_2 w_BY_NONE_3 w_BY_NONE_4 w_BY_ONE_0 w_BY_TWO_0 w_BY_TWO_1 w_BY_THREE_0 w_BY_THREE_1 : Tok}
    {oc_Grammar_init kV_Grammar_init dc_Grammar_init pm_Grammar_init cd_Grammar_init ct_Grammar_init oc_is_part kV_is_part dc_is_part pm_is_part cd_is_part ct_is_part oc_are_counts kV_are_counts dc_are_counts pm_are_counts cd_are_counts ct_are_counts oc_is_sign kV_is_sign dc_is_sign pm_is_sign cd_is_sign ct_is_sign oc_rules_told kV_rules_told dc_rules_told pm_rules_told cd_rules_told ct_rules_told oc_are_rules kV_are_rules dc_are_rules pm_are_rules cd_are_rules ct_are_rules oc_led_alone kV_led_alone dc_led_alone pm_led_alone cd_led_alone ct_led_alone oc_is_sound kV_is_sound dc_is_sound pm_is_sound cd_is_sound ct_is_sound oc_Ends_init kV_Ends_init dc_Ends_init pm_Ends_init cd_Ends_init ct_Ends_init oc_Ends_of_sign kV_Ends_of_sign dc_Ends_of_sign pm_Ends_of_sign cd_Ends_of_sign ct_Ends_of_sign oc_Ends_behind kV_Ends_behind dc_Ends_behind pm_Ends_behind cd_Ends_behind ct_Ends_behind oc_Ends_grow kV_Ends_grow dc_Ends_grow pm_Ends_grow cd_Ends_grow ct_Ends_grow oc_Ends_fill_rests kV_Ends_fill_rests dc_Ends_fill_rests pm_Ends_fill_rests cd_Ends_fill_rests ct_Ends_fill_rests oc_Ends_fill kV_Ends_fill dc_Ends_fill pm_Ends_fill cd_Ends_fill ct_Ends_fill oc_places_in kV_places_in dc_places_in pm_places_in cd_places_in ct_places_in oc_has kV_has dc_has pm_has cd_has ct_has oc_first_rule kV_first_rule dc_first_rule pm_first_rule cd_first_rule ct_first_rule oc_cuts kV_cuts dc_cuts pm_cuts cd_cuts ct_cuts oc_Tree_init kV_Tree_init dc_Tree_init pm_Tree_init cd_Tree_init ct_Tree_init oc_first_tree kV_first_tree dc_first_tree pm_first_tree cd_first_tree ct_first_tree oc_read kV_read dc_read pm_read cd_read ct_read oc_House_init kV_House_init dc_House_init pm_House_init cd_House_init ct_House_init oc_House_key_of kV_House_key_of dc_House_key_of pm_House_key_of cd_House_key_of ct_House_key_of oc_House_take kV_House_take dc_House_take pm_House_take cd_House_take ct_House_take oc_House_change kV_House_change dc_House_change pm_House_change cd_House_change ct_House_change oc_House_step kV_House_step dc_House_step pm_House_step cd_House_step ct_House_step oc_House_edit kV_House_edit dc_House_edit pm_House_edit cd_House_edit ct_House_edit oc_House_move kV_House_move dc_House_move pm_House_move cd_House_move ct_House_move oc_House_undo kV_House_undo dc_House_undo pm_House_undo cd_House_undo ct_House_undo oc_House_redo kV_House_redo dc_House_redo pm_House_redo cd_House_redo ct_House_redo oc_House_has_had kV_House_has_had dc_House_has_had pm_House_has_had cd_House_has_had ct_House_has_had oc_House_place_of kV_House_place_of dc_House_place_of pm_House_place_of cd_House_place_of ct_House_place_of oc_House_set_mark kV_House_set_mark dc_House_set_mark pm_House_set_mark cd_House_set_mark ct_House_set_mark oc_House_is_full_for kV_House_is_full_for dc_House_is_full_for pm_House_is_full_for cd_House_is_full_for ct_House_is_full_for oc_stretch_told kV_stretch_told dc_stretch_told pm_stretch_told cd_stretch_told ct_stretch_told oc_NotLet_init kV_NotLet_init dc_NotLet_init pm_NotLet_init cd_NotLet_init ct_NotLet_init oc_want kV_want dc_want pm_want cd_want ct_want oc_first_house kV_first_house dc_first_house pm_first_house cd_first_house ct_first_house oc_begin kV_begin dc_begin pm_begin cd_begin ct_begin oc_edit kV_edit dc_edit pm_edit cd_edit ct_edit oc_move kV_move dc_move pm_move cd_move ct_move oc_undo kV_undo dc_undo pm_undo cd_undo ct_undo oc_redo kV_redo dc_redo pm_redo cd_redo ct_redo oc_tree kV_tree dc_tree pm_tree cd_tree ct_tree oc_words kV_words dc_words pm_words cd_words ct_words oc_want_name kV_want_name dc_want_name pm_want_name cd_want_name ct_want_name oc_node kV_node dc_node pm_node cd_node ct_node oc_at kV_at dc_at pm_at cd_at ct_at oc_mark kV_mark dc_mark pm_mark cd_mark ct_mark oc_marks kV_marks dc_marks pm_marks cd_marks ct_marks oc_taken_apart kV_taken_apart dc_taken_apart pm_taken_apart cd_taken_apart ct_taken_apart oc_told_of kV_told_of dc_told_of pm_told_of cd_told_of ct_told_of oc_Keeper_init kV_Keeper_init dc_Keeper_init pm_Keeper_init cd_Keeper_init ct_Keeper_init oc_Keeper_answer kV_Keeper_answer dc_Keeper_answer pm_Keeper_answer cd_Keeper_answer ct_Keeper_answer oc_answers kV_answers dc_answers pm_answers cd_answers ct_answers : Value}
    {od_Grammar_init an_Grammar_init od_is_part an_is_part od_are_counts an_are_counts od_is_sign an_is_sign od_rules_told an_rules_told od_are_rules an_are_rules od_led_alone an_led_alone od_is_sound an_is_sound od_Ends_init an_Ends_init od_Ends_of_sign an_Ends_of_sign od_Ends_behind an_Ends_behind od_Ends_grow an_Ends_grow od_Ends_fill_rests an_Ends_fill_rests od_Ends_fill an_Ends_fill od_places_in an_places_in od_has an_has od_first_rule an_first_rule od_cuts an_cuts od_Tree_init an_Tree_init od_first_tree an_first_tree od_read an_read od_House_init an_House_init od_House_key_of an_House_key_of od_House_take an_House_take od_House_change an_House_change od_House_step an_House_step od_House_edit an_House_edit od_House_move an_House_move od_House_undo an_House_undo od_House_redo an_House_redo od_House_has_had an_House_has_had od_House_place_of an_House_place_of od_House_set_mark an_House_set_mark od_House_is_full_for an_House_is_full_for od_stretch_told an_stretch_told od_NotLet_init an_NotLet_init od_want an_want od_first_house an_first_house od_begin an_begin od_edit an_edit od_move an_move od_undo an_undo od_redo an_redo od_tree an_tree od_words an_words od_want_name an_want_name od_node an_node od_at an_at od_mark an_mark od_marks an_marks od_taken_apart an_taken_apart od_told_of an_told_of od_Keeper_init an_Keeper_init od_Keeper_answer an_Keeper_answer od_answers an_answers od_SIZES od_WITH_LIST : Option Addr}
    {sl_Grammar_init sl_is_part sl_are_counts sl_is_sign sl_rules_told sl_are_rules sl_led_alone sl_is_sound sl_Ends_init sl_Ends_of_sign sl_Ends_behind sl_Ends_grow sl_Ends_fill_rests sl_Ends_fill sl_places_in sl_has sl_first_rule sl_cuts sl_Tree_init sl_first_tree sl_read sl_House_init sl_House_key_of sl_House_take sl_House_change sl_House_step sl_House_edit sl_House_move sl_House_undo sl_House_redo sl_House_has_had sl_House_place_of sl_House_set_mark sl_House_is_full_for sl_stretch_told sl_NotLet_init sl_want sl_first_house sl_begin sl_edit sl_move sl_undo sl_redo sl_tree sl_words sl_want_name sl_node sl_at sl_mark sl_marks sl_taken_apart sl_told_of sl_Keeper_init sl_Keeper_answer sl_answers sl_SIZES sl_WITH_LIST : Array (Option Value)}
    {h_BY_NONE_0 h_BY_NONE_1 h_BY_NONE_2 h_BY_NONE_3 h_BY_NONE_4 h_BY_ONE_0 h_BY_TWO_0 h_BY_TWO_1 h_BY_THREE_0 h_BY_THREE_1 : Int}
    {n_SIZES n_WITH_LIST e_BY_NONE e_BY_ONE e_BY_TWO e_BY_THREE : Nat}
    {nm_ q_ : Str} {N_ : Addr} {bs_ sub_ : List Value} {sn_ : List Str} {ab_ : Bool} {col_ : Option Bool} {dd_ : Option Addr} {m0_ m1_ m2_ m3_ m5_ : Option Value}
    (n_len : PySem.W.nsIn K mainGlobals "len" = some none)
    (n_range : PySem.W.nsIn K mainGlobals "range" = some none)
    (n_enumerate : PySem.W.nsIn K mainGlobals "enumerate" = some none)
    (n_tuple : PySem.W.nsIn K mainGlobals "tuple" = some none)
    (n_set : PySem.W.nsIn K mainGlobals "set" = some none)
    (n_all : PySem.W.nsIn K mainGlobals "all" = some none)
    (n_sorted : PySem.W.nsIn K mainGlobals "sorted" = some none)
    (n_ValueError : PySem.W.nsIn K mainGlobals "ValueError" = some none)
    (i_BEGIN : PySem.W.nsIn K mainGlobals "BEGIN" = some (some (.int (1) t_BEGIN)))
    (i_MOST_MARK : PySem.W.nsIn K mainGlobals "MOST_MARK" = some (some (.int (1000000000000000000) t_MOST_MARK)))
    (i_MOST_MARKS : PySem.W.nsIn K mainGlobals "MOST_MARKS" = some (some (.int (64) t_MOST_MARKS)))
    (i_MOST_PARTS : PySem.W.nsIn K mainGlobals "MOST_PARTS" = some (some (.int (32) t_MOST_PARTS)))
    (i_MOST_RULES : PySem.W.nsIn K mainGlobals "MOST_RULES" = some (some (.int (64) t_MOST_RULES)))
    (i_MOST_SIGNS : PySem.W.nsIn K mainGlobals "MOST_SIGNS" = some (some (.int (8) t_MOST_SIGNS)))
    (i_MOST_TEXT : PySem.W.nsIn K mainGlobals "MOST_TEXT" = some (some (.int (24) t_MOST_TEXT)))
    (i_MOST_UNDO : PySem.W.nsIn K mainGlobals "MOST_UNDO" = some (some (.int (64) t_MOST_UNDO)))
    (i_MOST_WORDS : PySem.W.nsIn K mainGlobals "MOST_WORDS" = some (some (.int (64) t_MOST_WORDS)))
    (i_NONE_SUCH : PySem.W.nsIn K mainGlobals "NONE_SUCH" = some (some (.int (-2) t_NONE_SUCH)))
    (i_NOT_AS_TOLD : PySem.W.nsIn K mainGlobals "NOT_AS_TOLD" = some (some (.int (-1) t_NOT_AS_TOLD)))
    (i_NOT_SOUND : PySem.W.nsIn K mainGlobals "NOT_SOUND" = some (some (.int (-4) t_NOT_SOUND)))
    (i_NOT_THERE : PySem.W.nsIn K mainGlobals "NOT_THERE" = some (some (.int (-3) t_NOT_THERE)))
    (i_PART : PySem.W.nsIn K mainGlobals "PART" = some (some (.int (64) t_PART)))
    (i_TOO_MANY : PySem.W.nsIn K mainGlobals "TOO_MANY" = some (some (.int (-5) t_TOO_MANY)))
    (r_BY_NONE_ : PySem.W.nsIn K mainGlobals "BY_NONE" = some (some (.ref r_BY_NONE)))
    (r_BY_ONE_ : PySem.W.nsIn K mainGlobals "BY_ONE" = some (some (.ref r_BY_ONE)))
    (r_BY_THREE_ : PySem.W.nsIn K mainGlobals "BY_THREE" = some (some (.ref r_BY_THREE)))
    (r_BY_TWO_ : PySem.W.nsIn K mainGlobals "BY_TWO" = some (some (.ref r_BY_TWO)))
    (r_SIZES_ : PySem.W.nsIn K mainGlobals "SIZES" = some (some (.ref r_SIZES)))
    (r_WITH_LIST_ : PySem.W.nsIn K mainGlobals "WITH_LIST" = some (some (.ref r_WITH_LIST)))
    (a_Grammar : PySem.W.nsIn K mainGlobals "Grammar" = some (some (.ref c_Grammar)))
    (a_Ends : PySem.W.nsIn K mainGlobals "Ends" = some (some (.ref c_Ends)))
    (a_Tree : PySem.W.nsIn K mainGlobals "Tree" = some (some (.ref c_Tree)))
    (a_House : PySem.W.nsIn K mainGlobals "House" = some (some (.ref c_House)))
    (a_NotLet : PySem.W.nsIn K mainGlobals "NotLet" = some (some (.ref c_NotLet)))
    (a_Keeper : PySem.W.nsIn K mainGlobals "Keeper" = some (some (.ref c_Keeper)))
    (g_Grammar_init : PySem.W.findIn K (.ref c_Grammar) "__init__" = some (some (.ref f_Grammar_init)))
    (i_Grammar_init : PySem.W.isFn K (.ref f_Grammar_init) = true)
    (l_Grammar_init : K.lookup f_Grammar_init = some ⟨oc_Grammar_init, od_Grammar_init, .func (PySem.W.fnOf "__init__" "Grammar.__init__" (defArgs s_Grammar_init) (defBody s_Grammar_init) (defScope s_Grammar_init) .none kV_Grammar_init dc_Grammar_init pm_Grammar_init an_Grammar_init cd_Grammar_init ct_Grammar_init), sl_Grammar_init⟩)
    (co_Grammar_init : PySem.W.codeIn K cd_Grammar_init "Grammar.__init__" = true)
    (k_Grammar_init : PySem.W.keepIn K (.ref f_Grammar_init) = true)
    (g_is_part : PySem.W.nsIn K mainGlobals "is_part" = some (some (.ref f_is_part)))
    (l_is_part : K.lookup f_is_part = some ⟨oc_is_part, od_is_part, .func (PySem.W.fnOf "is_part" "is_part" (defArgs s_is_part) (defBody s_is_part) (defScope s_is_part) .none kV_is_part dc_is_part pm_is_part an_is_part cd_is_part ct_is_part), sl_is_part⟩)
    (co_is_part : PySem.W.codeIn K cd_is_part "is_part" = true)
    (k_is_part : PySem.W.keepIn K (.ref f_is_part) = true)
    (g_are_counts : PySem.W.nsIn K mainGlobals "are_counts" = some (some (.ref f_are_counts)))
    (l_are_counts : K.lookup f_are_counts = some ⟨oc_are_counts, od_are_counts, .func (PySem.W.fnOf "are_counts" "are_counts" (defArgs s_are_counts) (defBody s_are_counts) (defScope s_are_counts) .none kV_are_counts dc_are_counts pm_are_counts an_are_counts cd_are_counts ct_are_counts), sl_are_counts⟩)
    (co_are_counts : PySem.W.codeIn K cd_are_counts "are_counts" = true)
    (k_are_counts : PySem.W.keepIn K (.ref f_are_counts) = true)
    (g_is_sign : PySem.W.nsIn K mainGlobals "is_sign" = some (some (.ref f_is_sign)))
    (l_is_sign : K.lookup f_is_sign = some ⟨oc_is_sign, od_is_sign, .func (PySem.W.fnOf "is_sign" "is_sign" (defArgs s_is_sign) (defBody s_is_sign) (defScope s_is_sign) .none kV_is_sign dc_is_sign pm_is_sign an_is_sign cd_is_sign ct_is_sign), sl_is_sign⟩)
    (co_is_sign : PySem.W.codeIn K cd_is_sign "is_sign" = true)
    (k_is_sign : PySem.W.keepIn K (.ref f_is_sign) = true)
    (g_rules_told : PySem.W.nsIn K mainGlobals "rules_told" = some (some (.ref f_rules_told)))
    (l_rules_told : K.lookup f_rules_told = some ⟨oc_rules_told, od_rules_told, .func (PySem.W.fnOf "rules_told" "rules_told" (defArgs s_rules_told) (defBody s_rules_told) (defScope s_rules_told) .none kV_rules_told dc_rules_told pm_rules_told an_rules_told cd_rules_told ct_rules_told), sl_rules_told⟩)
    (co_rules_told : PySem.W.codeIn K cd_rules_told "rules_told" = true)
    (k_rules_told : PySem.W.keepIn K (.ref f_rules_told) = true)
    (g_are_rules : PySem.W.nsIn K mainGlobals "are_rules" = some (some (.ref f_are_rules)))
    (l_are_rules : K.lookup f_are_rules = some ⟨oc_are_rules, od_are_rules, .func (PySem.W.fnOf "are_rules" "are_rules" (defArgs s_are_rules) (defBody s_are_rules) (defScope s_are_rules) .none kV_are_rules dc_are_rules pm_are_rules an_are_rules cd_are_rules ct_are_rules), sl_are_rules⟩)
    (co_are_rules : PySem.W.codeIn K cd_are_rules "are_rules" = true)
    (k_are_rules : PySem.W.keepIn K (.ref f_are_rules) = true)
    (g_led_alone : PySem.W.nsIn K mainGlobals "led_alone" = some (some (.ref f_led_alone)))
    (l_led_alone : K.lookup f_led_alone = some ⟨oc_led_alone, od_led_alone, .func (PySem.W.fnOf "led_alone" "led_alone" (defArgs s_led_alone) (defBody s_led_alone) (defScope s_led_alone) .none kV_led_alone dc_led_alone pm_led_alone an_led_alone cd_led_alone ct_led_alone), sl_led_alone⟩)
    (co_led_alone : PySem.W.codeIn K cd_led_alone "led_alone" = true)
    (k_led_alone : PySem.W.keepIn K (.ref f_led_alone) = true)
    (g_is_sound : PySem.W.nsIn K mainGlobals "is_sound" = some (some (.ref f_is_sound)))
    (l_is_sound : K.lookup f_is_sound = some ⟨oc_is_sound, od_is_sound, .func (PySem.W.fnOf "is_sound" "is_sound" (defArgs s_is_sound) (defBody s_is_sound) (defScope s_is_sound) .none kV_is_sound dc_is_sound pm_is_sound an_is_sound cd_is_sound ct_is_sound), sl_is_sound⟩)
    (co_is_sound : PySem.W.codeIn K cd_is_sound "is_sound" = true)
    (k_is_sound : PySem.W.keepIn K (.ref f_is_sound) = true)
    (g_Ends_init : PySem.W.findIn K (.ref c_Ends) "__init__" = some (some (.ref f_Ends_init)))
    (i_Ends_init : PySem.W.isFn K (.ref f_Ends_init) = true)
    (l_Ends_init : K.lookup f_Ends_init = some ⟨oc_Ends_init, od_Ends_init, .func (PySem.W.fnOf "__init__" "Ends.__init__" (defArgs s_Ends_init) (defBody s_Ends_init) (defScope s_Ends_init) .none kV_Ends_init dc_Ends_init pm_Ends_init an_Ends_init cd_Ends_init ct_Ends_init), sl_Ends_init⟩)
    (co_Ends_init : PySem.W.codeIn K cd_Ends_init "Ends.__init__" = true)
    (k_Ends_init : PySem.W.keepIn K (.ref f_Ends_init) = true)
    (g_Ends_of_sign : PySem.W.findIn K (.ref c_Ends) "of_sign" = some (some (.ref f_Ends_of_sign)))
    (i_Ends_of_sign : PySem.W.isFn K (.ref f_Ends_of_sign) = true)
    (l_Ends_of_sign : K.lookup f_Ends_of_sign = some ⟨oc_Ends_of_sign, od_Ends_of_sign, .func (PySem.W.fnOf "of_sign" "Ends.of_sign" (defArgs s_Ends_of_sign) (defBody s_Ends_of_sign) (defScope s_Ends_of_sign) .none kV_Ends_of_sign dc_Ends_of_sign pm_Ends_of_sign an_Ends_of_sign cd_Ends_of_sign ct_Ends_of_sign), sl_Ends_of_sign⟩)
    (co_Ends_of_sign : PySem.W.codeIn K cd_Ends_of_sign "Ends.of_sign" = true)
    (k_Ends_of_sign : PySem.W.keepIn K (.ref f_Ends_of_sign) = true)
    (g_Ends_behind : PySem.W.findIn K (.ref c_Ends) "behind" = some (some (.ref f_Ends_behind)))
    (i_Ends_behind : PySem.W.isFn K (.ref f_Ends_behind) = true)
    (l_Ends_behind : K.lookup f_Ends_behind = some ⟨oc_Ends_behind, od_Ends_behind, .func (PySem.W.fnOf "behind" "Ends.behind" (defArgs s_Ends_behind) (defBody s_Ends_behind) (defScope s_Ends_behind) .none kV_Ends_behind dc_Ends_behind pm_Ends_behind an_Ends_behind cd_Ends_behind ct_Ends_behind), sl_Ends_behind⟩)
    (co_Ends_behind : PySem.W.codeIn K cd_Ends_behind "Ends.behind" = true)
    (k_Ends_behind : PySem.W.keepIn K (.ref f_Ends_behind) = true)
    (g_Ends_grow : PySem.W.findIn K (.ref c_Ends) "grow" = some (some (.ref f_Ends_grow)))
    (i_Ends_grow : PySem.W.isFn K (.ref f_Ends_grow) = true)
    (l_Ends_grow : K.lookup f_Ends_grow = some ⟨oc_Ends_grow, od_Ends_grow, .func (PySem.W.fnOf "grow" "Ends.grow" (defArgs s_Ends_grow) (defBody s_Ends_grow) (defScope s_Ends_grow) .none kV_Ends_grow dc_Ends_grow pm_Ends_grow an_Ends_grow cd_Ends_grow ct_Ends_grow), sl_Ends_grow⟩)
    (co_Ends_grow : PySem.W.codeIn K cd_Ends_grow "Ends.grow" = true)
    (k_Ends_grow : PySem.W.keepIn K (.ref f_Ends_grow) = true)
    (g_Ends_fill_rests : PySem.W.findIn K (.ref c_Ends) "fill_rests" = some (some (.ref f_Ends_fill_rests)))
    (i_Ends_fill_rests : PySem.W.isFn K (.ref f_Ends_fill_rests) = true)
    (l_Ends_fill_rests : K.lookup f_Ends_fill_rests = some ⟨oc_Ends_fill_rests, od_Ends_fill_rests, .func (PySem.W.fnOf "fill_rests" "Ends.fill_rests" (defArgs s_Ends_fill_rests) (defBody s_Ends_fill_rests) (defScope s_Ends_fill_rests) .none kV_Ends_fill_rests dc_Ends_fill_rests pm_Ends_fill_rests an_Ends_fill_rests cd_Ends_fill_rests ct_Ends_fill_rests), sl_Ends_fill_rests⟩)
    (co_Ends_fill_rests : PySem.W.codeIn K cd_Ends_fill_rests "Ends.fill_rests" = true)
    (k_Ends_fill_rests : PySem.W.keepIn K (.ref f_Ends_fill_rests) = true)
    (g_Ends_fill : PySem.W.findIn K (.ref c_Ends) "fill" = some (some (.ref f_Ends_fill)))
    (i_Ends_fill : PySem.W.isFn K (.ref f_Ends_fill) = true)
    (l_Ends_fill : K.lookup f_Ends_fill = some ⟨oc_Ends_fill, od_Ends_fill, .func (PySem.W.fnOf "fill" "Ends.fill" (defArgs s_Ends_fill) (defBody s_Ends_fill) (defScope s_Ends_fill) .none kV_Ends_fill dc_Ends_fill pm_Ends_fill an_Ends_fill cd_Ends_fill ct_Ends_fill), sl_Ends_fill⟩)
    (co_Ends_fill : PySem.W.codeIn K cd_Ends_fill "Ends.fill" = true)
    (k_Ends_fill : PySem.W.keepIn K (.ref f_Ends_fill) = true)
    (g_places_in : PySem.W.nsIn K mainGlobals "places_in" = some (some (.ref f_places_in)))
    (l_places_in : K.lookup f_places_in = some ⟨oc_places_in, od_places_in, .func (PySem.W.fnOf "places_in" "places_in" (defArgs s_places_in) (defBody s_places_in) (defScope s_places_in) .none kV_places_in dc_places_in pm_places_in an_places_in cd_places_in ct_places_in), sl_places_in⟩)
    (co_places_in : PySem.W.codeIn K cd_places_in "places_in" = true)
    (k_places_in : PySem.W.keepIn K (.ref f_places_in) = true)
    (g_has : PySem.W.nsIn K mainGlobals "has" = some (some (.ref f_has)))
    (l_has : K.lookup f_has = some ⟨oc_has, od_has, .func (PySem.W.fnOf "has" "has" (defArgs s_has) (defBody s_has) (defScope s_has) .none kV_has dc_has pm_has an_has cd_has ct_has), sl_has⟩)
    (co_has : PySem.W.codeIn K cd_has "has" = true)
    (k_has : PySem.W.keepIn K (.ref f_has) = true)
    (g_first_rule : PySem.W.nsIn K mainGlobals "first_rule" = some (some (.ref f_first_rule)))
    (l_first_rule : K.lookup f_first_rule = some ⟨oc_first_rule, od_first_rule, .func (PySem.W.fnOf "first_rule" "first_rule" (defArgs s_first_rule) (defBody s_first_rule) (defScope s_first_rule) .none kV_first_rule dc_first_rule pm_first_rule an_first_rule cd_first_rule ct_first_rule), sl_first_rule⟩)
    (co_first_rule : PySem.W.codeIn K cd_first_rule "first_rule" = true)
    (k_first_rule : PySem.W.keepIn K (.ref f_first_rule) = true)
    (g_cuts : PySem.W.nsIn K mainGlobals "cuts" = some (some (.ref f_cuts)))
    (l_cuts : K.lookup f_cuts = some ⟨oc_cuts, od_cuts, .func (PySem.W.fnOf "cuts" "cuts" (defArgs s_cuts) (defBody s_cuts) (defScope s_cuts) .none kV_cuts dc_cuts pm_cuts an_cuts cd_cuts ct_cuts), sl_cuts⟩)
    (co_cuts : PySem.W.codeIn K cd_cuts "cuts" = true)
    (k_cuts : PySem.W.keepIn K (.ref f_cuts) = true)
    (g_Tree_init : PySem.W.findIn K (.ref c_Tree) "__init__" = some (some (.ref f_Tree_init)))
    (i_Tree_init : PySem.W.isFn K (.ref f_Tree_init) = true)
    (l_Tree_init : K.lookup f_Tree_init = some ⟨oc_Tree_init, od_Tree_init, .func (PySem.W.fnOf "__init__" "Tree.__init__" (defArgs s_Tree_init) (defBody s_Tree_init) (defScope s_Tree_init) .none kV_Tree_init dc_Tree_init pm_Tree_init an_Tree_init cd_Tree_init ct_Tree_init), sl_Tree_init⟩)
    (co_Tree_init : PySem.W.codeIn K cd_Tree_init "Tree.__init__" = true)
    (k_Tree_init : PySem.W.keepIn K (.ref f_Tree_init) = true)
    (g_first_tree : PySem.W.nsIn K mainGlobals "first_tree" = some (some (.ref f_first_tree)))
    (l_first_tree : K.lookup f_first_tree = some ⟨oc_first_tree, od_first_tree, .func (PySem.W.fnOf "first_tree" "first_tree" (defArgs s_first_tree) (defBody s_first_tree) (defScope s_first_tree) .none kV_first_tree dc_first_tree pm_first_tree an_first_tree cd_first_tree ct_first_tree), sl_first_tree⟩)
    (co_first_tree : PySem.W.codeIn K cd_first_tree "first_tree" = true)
    (k_first_tree : PySem.W.keepIn K (.ref f_first_tree) = true)
    (g_read : PySem.W.nsIn K mainGlobals "read" = some (some (.ref f_read)))
    (l_read : K.lookup f_read = some ⟨oc_read, od_read, .func (PySem.W.fnOf "read" "read" (defArgs s_read) (defBody s_read) (defScope s_read) .none kV_read dc_read pm_read an_read cd_read ct_read), sl_read⟩)
    (co_read : PySem.W.codeIn K cd_read "read" = true)
    (k_read : PySem.W.keepIn K (.ref f_read) = true)
    (g_House_init : PySem.W.findIn K (.ref c_House) "__init__" = some (some (.ref f_House_init)))
    (i_House_init : PySem.W.isFn K (.ref f_House_init) = true)
    (l_House_init : K.lookup f_House_init = some ⟨oc_House_init, od_House_init, .func (PySem.W.fnOf "__init__" "House.__init__" (defArgs s_House_init) (defBody s_House_init) (defScope s_House_init) .none kV_House_init dc_House_init pm_House_init an_House_init cd_House_init ct_House_init), sl_House_init⟩)
    (co_House_init : PySem.W.codeIn K cd_House_init "House.__init__" = true)
    (k_House_init : PySem.W.keepIn K (.ref f_House_init) = true)
    (g_House_key_of : PySem.W.findIn K (.ref c_House) "key_of" = some (some (.ref f_House_key_of)))
    (i_House_key_of : PySem.W.isFn K (.ref f_House_key_of) = true)
    (l_House_key_of : K.lookup f_House_key_of = some ⟨oc_House_key_of, od_House_key_of, .func (PySem.W.fnOf "key_of" "House.key_of" (defArgs s_House_key_of) (defBody s_House_key_of) (defScope s_House_key_of) .none kV_House_key_of dc_House_key_of pm_House_key_of an_House_key_of cd_House_key_of ct_House_key_of), sl_House_key_of⟩)
    (co_House_key_of : PySem.W.codeIn K cd_House_key_of "House.key_of" = true)
    (k_House_key_of : PySem.W.keepIn K (.ref f_House_key_of) = true)
    (g_House_take : PySem.W.findIn K (.ref c_House) "take" = some (some (.ref f_House_take)))
    (i_House_take : PySem.W.isFn K (.ref f_House_take) = true)
    (l_House_take : K.lookup f_House_take = some ⟨oc_House_take, od_House_take, .func (PySem.W.fnOf "take" "House.take" (defArgs s_House_take) (defBody s_House_take) (defScope s_House_take) .none kV_House_take dc_House_take pm_House_take an_House_take cd_House_take ct_House_take), sl_House_take⟩)
    (co_House_take : PySem.W.codeIn K cd_House_take "House.take" = true)
    (k_House_take : PySem.W.keepIn K (.ref f_House_take) = true)
    (g_House_change : PySem.W.findIn K (.ref c_House) "change" = some (some (.ref f_House_change)))
    (i_House_change : PySem.W.isFn K (.ref f_House_change) = true)
    (l_House_change : K.lookup f_House_change = some ⟨oc_House_change, od_House_change, .func (PySem.W.fnOf "change" "House.change" (defArgs s_House_change) (defBody s_House_change) (defScope s_House_change) .none kV_House_change dc_House_change pm_House_change an_House_change cd_House_change ct_House_change), sl_House_change⟩)
    (co_House_change : PySem.W.codeIn K cd_House_change "House.change" = true)
    (k_House_change : PySem.W.keepIn K (.ref f_House_change) = true)
    (g_House_step : PySem.W.findIn K (.ref c_House) "step" = some (some (.ref f_House_step)))
    (i_House_step : PySem.W.isFn K (.ref f_House_step) = true)
    (l_House_step : K.lookup f_House_step = some ⟨oc_House_step, od_House_step, .func (PySem.W.fnOf "step" "House.step" (defArgs s_House_step) (defBody s_House_step) (defScope s_House_step) .none kV_House_step dc_House_step pm_House_step an_House_step cd_House_step ct_House_step), sl_House_step⟩)
    (co_House_step : PySem.W.codeIn K cd_House_step "House.step" = true)
    (k_House_step : PySem.W.keepIn K (.ref f_House_step) = true)
    (g_House_edit : PySem.W.findIn K (.ref c_House) "edit" = some (some (.ref f_House_edit)))
    (i_House_edit : PySem.W.isFn K (.ref f_House_edit) = true)
    (l_House_edit : K.lookup f_House_edit = some ⟨oc_House_edit, od_House_edit, .func (PySem.W.fnOf "edit" "House.edit" (defArgs s_House_edit) (defBody s_House_edit) (defScope s_House_edit) .none kV_House_edit dc_House_edit pm_House_edit an_House_edit cd_House_edit ct_House_edit), sl_House_edit⟩)
    (co_House_edit : PySem.W.codeIn K cd_House_edit "House.edit" = true)
    (k_House_edit : PySem.W.keepIn K (.ref f_House_edit) = true)
    (g_House_move : PySem.W.findIn K (.ref c_House) "move" = some (some (.ref f_House_move)))
    (i_House_move : PySem.W.isFn K (.ref f_House_move) = true)
    (l_House_move : K.lookup f_House_move = some ⟨oc_House_move, od_House_move, .func (PySem.W.fnOf "move" "House.move" (defArgs s_House_move) (defBody s_House_move) (defScope s_House_move) .none kV_House_move dc_House_move pm_House_move an_House_move cd_House_move ct_House_move), sl_House_move⟩)
    (co_House_move : PySem.W.codeIn K cd_House_move "House.move" = true)
    (k_House_move : PySem.W.keepIn K (.ref f_House_move) = true)
    (g_House_undo : PySem.W.findIn K (.ref c_House) "undo" = some (some (.ref f_House_undo)))
    (i_House_undo : PySem.W.isFn K (.ref f_House_undo) = true)
    (l_House_undo : K.lookup f_House_undo = some ⟨oc_House_undo, od_House_undo, .func (PySem.W.fnOf "undo" "House.undo" (defArgs s_House_undo) (defBody s_House_undo) (defScope s_House_undo) .none kV_House_undo dc_House_undo pm_House_undo an_House_undo cd_House_undo ct_House_undo), sl_House_undo⟩)
    (co_House_undo : PySem.W.codeIn K cd_House_undo "House.undo" = true)
    (k_House_undo : PySem.W.keepIn K (.ref f_House_undo) = true)
    (g_House_redo : PySem.W.findIn K (.ref c_House) "redo" = some (some (.ref f_House_redo)))
    (i_House_redo : PySem.W.isFn K (.ref f_House_redo) = true)
    (l_House_redo : K.lookup f_House_redo = some ⟨oc_House_redo, od_House_redo, .func (PySem.W.fnOf "redo" "House.redo" (defArgs s_House_redo) (defBody s_House_redo) (defScope s_House_redo) .none kV_House_redo dc_House_redo pm_House_redo an_House_redo cd_House_redo ct_House_redo), sl_House_redo⟩)
    (co_House_redo : PySem.W.codeIn K cd_House_redo "House.redo" = true)
    (k_House_redo : PySem.W.keepIn K (.ref f_House_redo) = true)
    (g_House_has_had : PySem.W.findIn K (.ref c_House) "has_had" = some (some (.ref f_House_has_had)))
    (i_House_has_had : PySem.W.isFn K (.ref f_House_has_had) = true)
    (l_House_has_had : K.lookup f_House_has_had = some ⟨oc_House_has_had, od_House_has_had, .func (PySem.W.fnOf "has_had" "House.has_had" (defArgs s_House_has_had) (defBody s_House_has_had) (defScope s_House_has_had) .none kV_House_has_had dc_House_has_had pm_House_has_had an_House_has_had cd_House_has_had ct_House_has_had), sl_House_has_had⟩)
    (co_House_has_had : PySem.W.codeIn K cd_House_has_had "House.has_had" = true)
    (k_House_has_had : PySem.W.keepIn K (.ref f_House_has_had) = true)
    (g_House_place_of : PySem.W.findIn K (.ref c_House) "place_of" = some (some (.ref f_House_place_of)))
    (i_House_place_of : PySem.W.isFn K (.ref f_House_place_of) = true)
    (l_House_place_of : K.lookup f_House_place_of = some ⟨oc_House_place_of, od_House_place_of, .func (PySem.W.fnOf "place_of" "House.place_of" (defArgs s_House_place_of) (defBody s_House_place_of) (defScope s_House_place_of) .none kV_House_place_of dc_House_place_of pm_House_place_of an_House_place_of cd_House_place_of ct_House_place_of), sl_House_place_of⟩)
    (co_House_place_of : PySem.W.codeIn K cd_House_place_of "House.place_of" = true)
    (k_House_place_of : PySem.W.keepIn K (.ref f_House_place_of) = true)
    (g_House_set_mark : PySem.W.findIn K (.ref c_House) "set_mark" = some (some (.ref f_House_set_mark)))
    (i_House_set_mark : PySem.W.isFn K (.ref f_House_set_mark) = true)
    (l_House_set_mark : K.lookup f_House_set_mark = some ⟨oc_House_set_mark, od_House_set_mark, .func (PySem.W.fnOf "set_mark" "House.set_mark" (defArgs s_House_set_mark) (defBody s_House_set_mark) (defScope s_House_set_mark) .none kV_House_set_mark dc_House_set_mark pm_House_set_mark an_House_set_mark cd_House_set_mark ct_House_set_mark), sl_House_set_mark⟩)
    (co_House_set_mark : PySem.W.codeIn K cd_House_set_mark "House.set_mark" = true)
    (k_House_set_mark : PySem.W.keepIn K (.ref f_House_set_mark) = true)
    (g_House_is_full_for : PySem.W.findIn K (.ref c_House) "is_full_for" = some (some (.ref f_House_is_full_for)))
    (i_House_is_full_for : PySem.W.isFn K (.ref f_House_is_full_for) = true)
    (l_House_is_full_for : K.lookup f_House_is_full_for = some ⟨oc_House_is_full_for, od_House_is_full_for, .func (PySem.W.fnOf "is_full_for" "House.is_full_for" (defArgs s_House_is_full_for) (defBody s_House_is_full_for) (defScope s_House_is_full_for) .none kV_House_is_full_for dc_House_is_full_for pm_House_is_full_for an_House_is_full_for cd_House_is_full_for ct_House_is_full_for), sl_House_is_full_for⟩)
    (co_House_is_full_for : PySem.W.codeIn K cd_House_is_full_for "House.is_full_for" = true)
    (k_House_is_full_for : PySem.W.keepIn K (.ref f_House_is_full_for) = true)
    (g_stretch_told : PySem.W.nsIn K mainGlobals "stretch_told" = some (some (.ref f_stretch_told)))
    (l_stretch_told : K.lookup f_stretch_told = some ⟨oc_stretch_told, od_stretch_told, .func (PySem.W.fnOf "stretch_told" "stretch_told" (defArgs s_stretch_told) (defBody s_stretch_told) (defScope s_stretch_told) .none kV_stretch_told dc_stretch_told pm_stretch_told an_stretch_told cd_stretch_told ct_stretch_told), sl_stretch_told⟩)
    (co_stretch_told : PySem.W.codeIn K cd_stretch_told "stretch_told" = true)
    (k_stretch_told : PySem.W.keepIn K (.ref f_stretch_told) = true)
    (g_NotLet_init : PySem.W.findIn K (.ref c_NotLet) "__init__" = some (some (.ref f_NotLet_init)))
    (l_NotLet_init : K.lookup f_NotLet_init = some ⟨oc_NotLet_init, od_NotLet_init, .func (PySem.W.fnOf "__init__" "NotLet.__init__" (defArgs s_NotLet_init) (defBody s_NotLet_init) (defScope s_NotLet_init) .none kV_NotLet_init dc_NotLet_init pm_NotLet_init an_NotLet_init cd_NotLet_init ct_NotLet_init), sl_NotLet_init⟩)
    (co_NotLet_init : PySem.W.codeIn K cd_NotLet_init "NotLet.__init__" = true)
    (k_NotLet_init : PySem.W.keepIn K (.ref f_NotLet_init) = true)
    (g_want : PySem.W.nsIn K mainGlobals "want" = some (some (.ref f_want)))
    (l_want : K.lookup f_want = some ⟨oc_want, od_want, .func (PySem.W.fnOf "want" "want" (defArgs s_want) (defBody s_want) (defScope s_want) .none kV_want dc_want pm_want an_want cd_want ct_want), sl_want⟩)
    (co_want : PySem.W.codeIn K cd_want "want" = true)
    (k_want : PySem.W.keepIn K (.ref f_want) = true)
    (g_first_house : PySem.W.nsIn K mainGlobals "first_house" = some (some (.ref f_first_house)))
    (l_first_house : K.lookup f_first_house = some ⟨oc_first_house, od_first_house, .func (PySem.W.fnOf "first_house" "first_house" (defArgs s_first_house) (defBody s_first_house) (defScope s_first_house) .none kV_first_house dc_first_house pm_first_house an_first_house cd_first_house ct_first_house), sl_first_house⟩)
    (co_first_house : PySem.W.codeIn K cd_first_house "first_house" = true)
    (k_first_house : PySem.W.keepIn K (.ref f_first_house) = true)
    (g_begin : PySem.W.nsIn K mainGlobals "begin" = some (some (.ref f_begin)))
    (l_begin : K.lookup f_begin = some ⟨oc_begin, od_begin, .func (PySem.W.fnOf "begin" "begin" (defArgs s_begin) (defBody s_begin) (defScope s_begin) .none kV_begin dc_begin pm_begin an_begin cd_begin ct_begin), sl_begin⟩)
    (co_begin : PySem.W.codeIn K cd_begin "begin" = true)
    (k_begin : PySem.W.keepIn K (.ref f_begin) = true)
    (g_edit : PySem.W.nsIn K mainGlobals "edit" = some (some (.ref f_edit)))
    (l_edit : K.lookup f_edit = some ⟨oc_edit, od_edit, .func (PySem.W.fnOf "edit" "edit" (defArgs s_edit) (defBody s_edit) (defScope s_edit) .none kV_edit dc_edit pm_edit an_edit cd_edit ct_edit), sl_edit⟩)
    (co_edit : PySem.W.codeIn K cd_edit "edit" = true)
    (k_edit : PySem.W.keepIn K (.ref f_edit) = true)
    (g_move : PySem.W.nsIn K mainGlobals "move" = some (some (.ref f_move)))
    (l_move : K.lookup f_move = some ⟨oc_move, od_move, .func (PySem.W.fnOf "move" "move" (defArgs s_move) (defBody s_move) (defScope s_move) .none kV_move dc_move pm_move an_move cd_move ct_move), sl_move⟩)
    (co_move : PySem.W.codeIn K cd_move "move" = true)
    (k_move : PySem.W.keepIn K (.ref f_move) = true)
    (g_undo : PySem.W.nsIn K mainGlobals "undo" = some (some (.ref f_undo)))
    (l_undo : K.lookup f_undo = some ⟨oc_undo, od_undo, .func (PySem.W.fnOf "undo" "undo" (defArgs s_undo) (defBody s_undo) (defScope s_undo) .none kV_undo dc_undo pm_undo an_undo cd_undo ct_undo), sl_undo⟩)
    (co_undo : PySem.W.codeIn K cd_undo "undo" = true)
    (k_undo : PySem.W.keepIn K (.ref f_undo) = true)
    (g_redo : PySem.W.nsIn K mainGlobals "redo" = some (some (.ref f_redo)))
    (l_redo : K.lookup f_redo = some ⟨oc_redo, od_redo, .func (PySem.W.fnOf "redo" "redo" (defArgs s_redo) (defBody s_redo) (defScope s_redo) .none kV_redo dc_redo pm_redo an_redo cd_redo ct_redo), sl_redo⟩)
    (co_redo : PySem.W.codeIn K cd_redo "redo" = true)
    (k_redo : PySem.W.keepIn K (.ref f_redo) = true)
    (g_tree : PySem.W.nsIn K mainGlobals "tree" = some (some (.ref f_tree)))
    (l_tree : K.lookup f_tree = some ⟨oc_tree, od_tree, .func (PySem.W.fnOf "tree" "tree" (defArgs s_tree) (defBody s_tree) (defScope s_tree) .none kV_tree dc_tree pm_tree an_tree cd_tree ct_tree), sl_tree⟩)
    (co_tree : PySem.W.codeIn K cd_tree "tree" = true)
    (k_tree : PySem.W.keepIn K (.ref f_tree) = true)
    (g_words : PySem.W.nsIn K mainGlobals "words" = some (some (.ref f_words)))
    (l_words : K.lookup f_words = some ⟨oc_words, od_words, .func (PySem.W.fnOf "words" "words" (defArgs s_words) (defBody s_words) (defScope s_words) .none kV_words dc_words pm_words an_words cd_words ct_words), sl_words⟩)
    (co_words : PySem.W.codeIn K cd_words "words" = true)
    (k_words : PySem.W.keepIn K (.ref f_words) = true)
    (g_want_name : PySem.W.nsIn K mainGlobals "want_name" = some (some (.ref f_want_name)))
    (l_want_name : K.lookup f_want_name = some ⟨oc_want_name, od_want_name, .func (PySem.W.fnOf "want_name" "want_name" (defArgs s_want_name) (defBody s_want_name) (defScope s_want_name) .none kV_want_name dc_want_name pm_want_name an_want_name cd_want_name ct_want_name), sl_want_name⟩)
    (co_want_name : PySem.W.codeIn K cd_want_name "want_name" = true)
    (k_want_name : PySem.W.keepIn K (.ref f_want_name) = true)
    (g_node : PySem.W.nsIn K mainGlobals "node" = some (some (.ref f_node)))
    (l_node : K.lookup f_node = some ⟨oc_node, od_node, .func (PySem.W.fnOf "node" "node" (defArgs s_node) (defBody s_node) (defScope s_node) .none kV_node dc_node pm_node an_node cd_node ct_node), sl_node⟩)
    (co_node : PySem.W.codeIn K cd_node "node" = true)
    (k_node : PySem.W.keepIn K (.ref f_node) = true)
    (g_at : PySem.W.nsIn K mainGlobals "at" = some (some (.ref f_at)))
    (l_at : K.lookup f_at = some ⟨oc_at, od_at, .func (PySem.W.fnOf "at" "at" (defArgs s_at) (defBody s_at) (defScope s_at) .none kV_at dc_at pm_at an_at cd_at ct_at), sl_at⟩)
    (co_at : PySem.W.codeIn K cd_at "at" = true)
    (k_at : PySem.W.keepIn K (.ref f_at) = true)
    (g_mark : PySem.W.nsIn K mainGlobals "mark" = some (some (.ref f_mark)))
    (l_mark : K.lookup f_mark = some ⟨oc_mark, od_mark, .func (PySem.W.fnOf "mark" "mark" (defArgs s_mark) (defBody s_mark) (defScope s_mark) .none kV_mark dc_mark pm_mark an_mark cd_mark ct_mark), sl_mark⟩)
    (co_mark : PySem.W.codeIn K cd_mark "mark" = true)
    (k_mark : PySem.W.keepIn K (.ref f_mark) = true)
    (g_marks : PySem.W.nsIn K mainGlobals "marks" = some (some (.ref f_marks)))
    (l_marks : K.lookup f_marks = some ⟨oc_marks, od_marks, .func (PySem.W.fnOf "marks" "marks" (defArgs s_marks) (defBody s_marks) (defScope s_marks) .none kV_marks dc_marks pm_marks an_marks cd_marks ct_marks), sl_marks⟩)
    (co_marks : PySem.W.codeIn K cd_marks "marks" = true)
    (k_marks : PySem.W.keepIn K (.ref f_marks) = true)
    (g_taken_apart : PySem.W.nsIn K mainGlobals "taken_apart" = some (some (.ref f_taken_apart)))
    (l_taken_apart : K.lookup f_taken_apart = some ⟨oc_taken_apart, od_taken_apart, .func (PySem.W.fnOf "taken_apart" "taken_apart" (defArgs s_taken_apart) (defBody s_taken_apart) (defScope s_taken_apart) .none kV_taken_apart dc_taken_apart pm_taken_apart an_taken_apart cd_taken_apart ct_taken_apart), sl_taken_apart⟩)
    (co_taken_apart : PySem.W.codeIn K cd_taken_apart "taken_apart" = true)
    (k_taken_apart : PySem.W.keepIn K (.ref f_taken_apart) = true)
    (g_told_of : PySem.W.nsIn K mainGlobals "told_of" = some (some (.ref f_told_of)))
    (l_told_of : K.lookup f_told_of = some ⟨oc_told_of, od_told_of, .func (PySem.W.fnOf "told_of" "told_of" (defArgs s_told_of) (defBody s_told_of) (defScope s_told_of) .none kV_told_of dc_told_of pm_told_of an_told_of cd_told_of ct_told_of), sl_told_of⟩)
    (co_told_of : PySem.W.codeIn K cd_told_of "told_of" = true)
    (k_told_of : PySem.W.keepIn K (.ref f_told_of) = true)
    (g_Keeper_init : PySem.W.findIn K (.ref c_Keeper) "__init__" = some (some (.ref f_Keeper_init)))
    (i_Keeper_init : PySem.W.isFn K (.ref f_Keeper_init) = true)
    (l_Keeper_init : K.lookup f_Keeper_init = some ⟨oc_Keeper_init, od_Keeper_init, .func (PySem.W.fnOf "__init__" "Keeper.__init__" (defArgs s_Keeper_init) (defBody s_Keeper_init) (defScope s_Keeper_init) .none kV_Keeper_init dc_Keeper_init pm_Keeper_init an_Keeper_init cd_Keeper_init ct_Keeper_init), sl_Keeper_init⟩)
    (co_Keeper_init : PySem.W.codeIn K cd_Keeper_init "Keeper.__init__" = true)
    (k_Keeper_init : PySem.W.keepIn K (.ref f_Keeper_init) = true)
    (g_Keeper_answer : PySem.W.findIn K (.ref c_Keeper) "answer" = some (some (.ref f_Keeper_answer)))
    (i_Keeper_answer : PySem.W.isFn K (.ref f_Keeper_answer) = true)
    (l_Keeper_answer : K.lookup f_Keeper_answer = some ⟨oc_Keeper_answer, od_Keeper_answer, .func (PySem.W.fnOf "answer" "Keeper.answer" (defArgs s_Keeper_answer) (defBody s_Keeper_answer) (defScope s_Keeper_answer) .none kV_Keeper_answer dc_Keeper_answer pm_Keeper_answer an_Keeper_answer cd_Keeper_answer ct_Keeper_answer), sl_Keeper_answer⟩)
    (co_Keeper_answer : PySem.W.codeIn K cd_Keeper_answer "Keeper.answer" = true)
    (k_Keeper_answer : PySem.W.keepIn K (.ref f_Keeper_answer) = true)
    (g_answers : PySem.W.nsIn K mainGlobals "answers" = some (some (.ref f_answers)))
    (l_answers : K.lookup f_answers = some ⟨oc_answers, od_answers, .func (PySem.W.fnOf "answers" "answers" (defArgs s_answers) (defBody s_answers) (defScope s_answers) .none kV_answers dc_answers pm_answers an_answers cd_answers ct_answers), sl_answers⟩)
    (co_answers : PySem.W.codeIn K cd_answers "answers" = true)
    (k_answers : PySem.W.keepIn K (.ref f_answers) = true)
    (pg_Grammar : PySem.W.plainGet K c_Grammar Str.empty = true)
    (hd_Grammar : PySem.W.hasDictIn K c_Grammar = true)
    (po_Grammar : PySem.W.plainOver K c_Grammar = true)
    (sa_Grammar : PySem.W.findIn K (.ref c_Grammar) "__setattr__" = some (some (.builtin "object.__setattr__")))
    (mk_Grammar : PySem.W.makesIn K c_Grammar = true)
    (kc_Grammar : PySem.W.keepIn K (.ref c_Grammar) = true)
    (na_Grammar_words : PySem.W.findIn K (.ref c_Grammar) "words" = some none)
    (na_Grammar_parts : PySem.W.findIn K (.ref c_Grammar) "parts" = some none)
    (na_Grammar_rules : PySem.W.findIn K (.ref c_Grammar) "rules" = some none)
    (pg_Ends : PySem.W.plainGet K c_Ends Str.empty = true)
    (hd_Ends : PySem.W.hasDictIn K c_Ends = true)
    (po_Ends : PySem.W.plainOver K c_Ends = true)
    (sa_Ends : PySem.W.findIn K (.ref c_Ends) "__setattr__" = some (some (.builtin "object.__setattr__")))
    (mk_Ends : PySem.W.makesIn K c_Ends = true)
    (kc_Ends : PySem.W.keepIn K (.ref c_Ends) = true)
    (na_Ends_grammar : PySem.W.findIn K (.ref c_Ends) "grammar" = some none)
    (na_Ends_text : PySem.W.findIn K (.ref c_Ends) "text" = some none)
    (na_Ends_of_parts : PySem.W.findIn K (.ref c_Ends) "of_parts" = some none)
    (na_Ends_of_rests : PySem.W.findIn K (.ref c_Ends) "of_rests" = some none)
    (pg_Tree : PySem.W.plainGet K c_Tree Str.empty = true)
    (hd_Tree : PySem.W.hasDictIn K c_Tree = true)
    (po_Tree : PySem.W.plainOver K c_Tree = true)
    (sa_Tree : PySem.W.findIn K (.ref c_Tree) "__setattr__" = some (some (.builtin "object.__setattr__")))
    (mk_Tree : PySem.W.makesIn K c_Tree = true)
    (kc_Tree : PySem.W.keepIn K (.ref c_Tree) = true)
    (na_Tree_listed : PySem.W.findIn K (.ref c_Tree) "listed" = some none)
    (na_Tree_nodes : PySem.W.findIn K (.ref c_Tree) "nodes" = some none)
    (pg_House : PySem.W.plainGet K c_House Str.empty = true)
    (hd_House : PySem.W.hasDictIn K c_House = true)
    (po_House : PySem.W.plainOver K c_House = true)
    (sa_House : PySem.W.findIn K (.ref c_House) "__setattr__" = some (some (.builtin "object.__setattr__")))
    (mk_House : PySem.W.makesIn K c_House = true)
    (kc_House : PySem.W.keepIn K (.ref c_House) = true)
    (na_House_grammar : PySem.W.findIn K (.ref c_House) "grammar" = some none)
    (na_House_text : PySem.W.findIn K (.ref c_House) "text" = some none)
    (na_House_next_word : PySem.W.findIn K (.ref c_House) "next_word" = some none)
    (na_House_names : PySem.W.findIn K (.ref c_House) "names" = some none)
    (na_House_marks : PySem.W.findIn K (.ref c_House) "marks" = some none)
    (na_House_elder : PySem.W.findIn K (.ref c_House) "elder" = some none)
    (na_House_later : PySem.W.findIn K (.ref c_House) "later" = some none)
    (na_House_tree : PySem.W.findIn K (.ref c_House) "tree" = some none)
    (na_House_order : PySem.W.findIn K (.ref c_House) "order" = some none)
    (pg_Keeper : PySem.W.plainGet K c_Keeper Str.empty = true)
    (hd_Keeper : PySem.W.hasDictIn K c_Keeper = true)
    (po_Keeper : PySem.W.plainOver K c_Keeper = true)
    (sa_Keeper : PySem.W.findIn K (.ref c_Keeper) "__setattr__" = some (some (.builtin "object.__setattr__")))
    (mk_Keeper : PySem.W.makesIn K c_Keeper = true)
    (kc_Keeper : PySem.W.keepIn K (.ref c_Keeper) = true)
    (na_Keeper_house : PySem.W.findIn K (.ref c_Keeper) "house" = some none)
    (xL : K.lookup c_NotLet = some (excClassObj nm_ q_ c_NotLet N_ bs_ [.type "ValueError", .type "Exception", .type "BaseException", .type "object"] true sn_ sub_ ab_ col_ dd_ m0_ m1_ m2_ m3_ m5_ "ValueError.__new__"))
    (saX : PySem.W.findIn K (.ref c_NotLet) "__setattr__" = some (some (.builtin "object.__setattr__")))
    (gaX : PySem.W.findIn K (.ref c_NotLet) "__getattribute__" = some (some (.builtin "BaseException.__getattribute__")))
    (ggX : PySem.W.findIn K (.ref c_NotLet) "__getattr__" = some none)
    (nnX : PySem.W.findIn K (.ref c_NotLet) "number" = some none)
    (tyX : PySem.W.typeIn K (.ref f_NotLet_init) = some (.type "function"))
    (kX : PySem.W.keepIn K (.ref c_NotLet) = true)
    (eX : PySem.W.subIn K (.ref c_NotLet) (.type "BaseException") = some true)
    (tX : PySem.W.typeIn K (.ref c_NotLet) = some (.type "type"))
    (hX : PySem.W.hasDictIn K c_NotLet = true)
    (iX : PySem.W.isClsIn K c_NotLet = true)
    (sX : PySem.W.subIn K (.ref c_NotLet) (.ref c_NotLet) = some true)
    (vX : PySem.W.findCls K (.type "ValueError") (.type "type") "__init__" = some (.val (.builtin "ValueError.__init__")))
    (w_SIZES : K.lookup r_SIZES = some ⟨.type "tuple", od_SIZES, .seq #[.int 0 w_SIZES_0, .int 2 w_SIZES_1, .int 2 w_SIZES_2, .int 3 w_SIZES_3, .int 0 w_SIZES_4, .int 0 w_SIZES_5, .int 0 w_SIZES_6, .int 0 w_SIZES_7, .int 1 w_SIZES_8, .int 2 w_SIZES_9, .int 2 w_SIZES_10, .int 0 w_SIZES_11] n_SIZES, sl_SIZES⟩)
    (w_WITH_LIST : K.lookup r_WITH_LIST = some ⟨.type "tuple", od_WITH_LIST, .seq #[.int 1 w_WITH_LIST_0, .int 2 w_WITH_LIST_1] n_WITH_LIST, sl_WITH_LIST⟩)
    (d_BY_NONE : K.lookup r_BY_NONE = some ⟨.type "dict", none, .dict #[⟨h_BY_NONE_0, .int 4 w_BY_NONE_0, .ref f_undo⟩, ⟨h_BY_NONE_1, .int 5 w_BY_NONE_1, .ref f_redo⟩, ⟨h_BY_NONE_2, .int 6 w_BY_NONE_2, .ref f_tree⟩, ⟨h_BY_NONE_3, .int 7 w_BY_NONE_3, .ref f_words⟩, ⟨h_BY_NONE_4, .int 11 w_BY_NONE_4, .ref f_marks⟩] e_BY_NONE, #[]⟩)
    (s_BY_NONE : (r_BY_NONE == sysModules) = false)
    (hh_BY_NONE : h_BY_NONE_0 = hashInt 4 ∧ h_BY_NONE_1 = hashInt 5 ∧ h_BY_NONE_2 = hashInt 6 ∧ h_BY_NONE_3 = hashInt 7 ∧ h_BY_NONE_4 = hashInt 11)
    (d_BY_ONE : K.lookup r_BY_ONE = some ⟨.type "dict", none, .dict #[⟨h_BY_ONE_0, .int 8 w_BY_ONE_0, .ref f_node⟩] e_BY_ONE, #[]⟩)
    (s_BY_ONE : (r_BY_ONE == sysModules) = false)
    (hh_BY_ONE : h_BY_ONE_0 = hashInt 8)
    (d_BY_TWO : K.lookup r_BY_TWO = some ⟨.type "dict", none, .dict #[⟨h_BY_TWO_0, .int 9 w_BY_TWO_0, .ref f_at⟩, ⟨h_BY_TWO_1, .int 10 w_BY_TWO_1, .ref f_mark⟩] e_BY_TWO, #[]⟩)
    (s_BY_TWO : (r_BY_TWO == sysModules) = false)
    (hh_BY_TWO : h_BY_TWO_0 = hashInt 9 ∧ h_BY_TWO_1 = hashInt 10)
    (d_BY_THREE : K.lookup r_BY_THREE = some ⟨.type "dict", none, .dict #[⟨h_BY_THREE_0, .int 2 w_BY_THREE_0, .ref f_edit⟩, ⟨h_BY_THREE_1, .int 3 w_BY_THREE_1, .ref f_move⟩] e_BY_THREE, #[]⟩)
    (s_BY_THREE : (r_BY_THREE == sysModules) = false)
    (hh_BY_THREE : h_BY_THREE_0 = hashInt 2 ∧ h_BY_THREE_1 = hashInt 3) :
    ∃ fd : FuncData, (∀ (s : Shared) (us : List Value), us.length = (["calls"] : List Str).length → BindsTo s fd ⟨us, []⟩ ((["calls"] : List Str).zip us)) ∧ ∀ base : Heap, K.In base → base.Ns mainGlobals mg → FnOk P w K mg base CX0 14 fa fd ["calls"] (spFin K) := by
  have ef : f_answers = fa := by
    have e := (PySem.W.mg_of X G g_answers).symm.trans hfa
    injection e with e
    injection e
  subst ef
  let a : Ad := { c_Grammar := c_Grammar, c_Ends := c_Ends, c_Tree := c_Tree, c_House := c_House, c_NotLet := c_NotLet, c_Keeper := c_Keeper, f_Grammar_init := f_Grammar_init, f_is_part := f_is_part, f_are_counts := f_are_counts, f_is_sign := f_is_sign, f_rules_told := f_rules_told, f_are_rules := f_are_rules, f_led_alone := f_led_alone, f_is_sound := f_is_sound, f_Ends_init := f_Ends_init, f_Ends_of_sign := f_Ends_of_sign, f_Ends_behind := f_Ends_behind, f_Ends_grow := f_Ends_grow, f_Ends_fill_rests := f_Ends_fill_rests, f_Ends_fill := f_Ends_fill, f_places_in := f_places_in, f_has := f_has, f_first_rule := f_first_rule, f_cuts := f_cuts, f_Tree_init := f_Tree_init, f_first_tree := f_first_tree, f_read := f_read, f_House_init := f_House_init, f_House_key_of := f_House_key_of, f_House_take := f_House_take, f_House_change := f_House_change, f_House_step := f_House_step, f_House_edit := f_House_edit, f_House_move := f_House_move, f_House_undo := f_House_undo, f_House_redo := f_House_redo, f_House_has_had := f_House_has_had, f_House_place_of := f_House_place_of, f_House_set_mark := f_House_set_mark, f_House_is_full_for := f_House_is_full_for, f_stretch_told := f_stretch_told, f_NotLet_init := f_NotLet_init, f_want := f_want, f_first_house := f_first_house, f_begin := f_begin, f_edit := f_edit, f_move := f_move, f_undo := f_undo, f_redo := f_redo, f_tree := f_tree, f_words := f_words, f_want_name := f_want_name, f_node := f_node, f_at := f_at, f_mark := f_mark, f_marks := f_marks, f_taken_apart := f_taken_apart, f_told_of := f_told_of, f_Keeper_init := f_Keeper_init, f_Keeper_answer := f_Keeper_answer, f_answers := f_answers, r_BY_NONE := r_BY_NONE, r_BY_ONE := r_BY_ONE, r_BY_THREE := r_BY_THREE, r_BY_TWO := r_BY_TWO, r_SIZES := r_SIZES, r_WITH_LIST := r_WITH_LIST, t_BEGIN := t_BEGIN, t_MOST_MARK := t_MOST_MARK, t_MOST_MARKS := t_MOST_MARKS, t_MOST_PARTS := t_MOST_PARTS, t_MOST_RULES := t_MOST_RULES, t_MOST_SIGNS := t_MOST_SIGNS, t_MOST_TEXT := t_MOST_TEXT, t_MOST_UNDO := t_MOST_UNDO, t_MOST_WORDS := t_MOST_WORDS, t_NONE_SUCH := t_NONE_SUCH, t_NOT_AS_TOLD := t_NOT_AS_TOLD, t_NOT_SOUND := t_NOT_SOUND, t_NOT_THERE := t_NOT_THERE, t_PART := t_PART, t_TOO_MANY := t_TOO_MANY }
  have hq_BY_NONE : ∀ e ∈ ([(h_BY_NONE_0, 4, w_BY_NONE_0, f_undo), (h_BY_NONE_1, 5, w_BY_NONE_1, f_redo), (h_BY_NONE_2, 6, w_BY_NONE_2, f_tree), (h_BY_NONE_3, 7, w_BY_NONE_3, f_words), (h_BY_NONE_4, 11, w_BY_NONE_4, f_marks)] : List Ent), e.1 = hashInt e.2.1 := by
    obtain ⟨q0, q1, q2, q3, q4⟩ := hh_BY_NONE
    intro e he
    simp only [List.mem_cons, List.not_mem_nil, or_false] at he
    rcases he with rfl | rfl | rfl | rfl | rfl
    · exact q0
    · exact q1
    · exact q2
    · exact q3
    · exact q4
  have hq_BY_ONE : ∀ e ∈ ([(h_BY_ONE_0, 8, w_BY_ONE_0, f_node)] : List Ent), e.1 = hashInt e.2.1 := by
    have q0 := hh_BY_ONE
    intro e he
    simp only [List.mem_cons, List.not_mem_nil, or_false] at he
    rcases he with rfl
    · exact q0
  have hq_BY_TWO : ∀ e ∈ ([(h_BY_TWO_0, 9, w_BY_TWO_0, f_at), (h_BY_TWO_1, 10, w_BY_TWO_1, f_mark)] : List Ent), e.1 = hashInt e.2.1 := by
    obtain ⟨q0, q1⟩ := hh_BY_TWO
    intro e he
    simp only [List.mem_cons, List.not_mem_nil, or_false] at he
    rcases he with rfl | rfl
    · exact q0
    · exact q1
  have hq_BY_THREE : ∀ e ∈ ([(h_BY_THREE_0, 2, w_BY_THREE_0, f_edit), (h_BY_THREE_1, 3, w_BY_THREE_1, f_move)] : List Ent), e.1 = hashInt e.2.1 := by
    obtain ⟨q0, q1⟩ := hh_BY_THREE
    intro e he
    simp only [List.mem_cons, List.not_mem_nil, or_false] at he
    rcases he with rfl | rfl
    · exact q0
    · exact q1
  have T : Txt K mg a :=
    { n_len := PySem.W.mg_none_of X G n_len,
      n_range := PySem.W.mg_none_of X G n_range,
      n_enumerate := PySem.W.mg_none_of X G n_enumerate,
      n_tuple := PySem.W.mg_none_of X G n_tuple,
      n_set := PySem.W.mg_none_of X G n_set,
      n_all := PySem.W.mg_none_of X G n_all,
      n_sorted := PySem.W.mg_none_of X G n_sorted,
      n_ValueError := PySem.W.mg_none_of X G n_ValueError,
      i_BEGIN := PySem.W.mg_of X G i_BEGIN,
      i_MOST_MARK := PySem.W.mg_of X G i_MOST_MARK,
      i_MOST_MARKS := PySem.W.mg_of X G i_MOST_MARKS,
      i_MOST_PARTS := PySem.W.mg_of X G i_MOST_PARTS,
      i_MOST_RULES := PySem.W.mg_of X G i_MOST_RULES,
      i_MOST_SIGNS := PySem.W.mg_of X G i_MOST_SIGNS,
      i_MOST_TEXT := PySem.W.mg_of X G i_MOST_TEXT,
      i_MOST_UNDO := PySem.W.mg_of X G i_MOST_UNDO,
      i_MOST_WORDS := PySem.W.mg_of X G i_MOST_WORDS,
      i_NONE_SUCH := PySem.W.mg_of X G i_NONE_SUCH,
      i_NOT_AS_TOLD := PySem.W.mg_of X G i_NOT_AS_TOLD,
      i_NOT_SOUND := PySem.W.mg_of X G i_NOT_SOUND,
      i_NOT_THERE := PySem.W.mg_of X G i_NOT_THERE,
      i_PART := PySem.W.mg_of X G i_PART,
      i_TOO_MANY := PySem.W.mg_of X G i_TOO_MANY,
      r_BY_NONE := PySem.W.mg_of X G r_BY_NONE_,
      r_BY_ONE := PySem.W.mg_of X G r_BY_ONE_,
      r_BY_THREE := PySem.W.mg_of X G r_BY_THREE_,
      r_BY_TWO := PySem.W.mg_of X G r_BY_TWO_,
      r_SIZES := PySem.W.mg_of X G r_SIZES_,
      r_WITH_LIST := PySem.W.mg_of X G r_WITH_LIST_,
      g_is_part := PySem.W.mg_of X G g_is_part,
      g_are_counts := PySem.W.mg_of X G g_are_counts,
      g_is_sign := PySem.W.mg_of X G g_is_sign,
      g_rules_told := PySem.W.mg_of X G g_rules_told,
      g_are_rules := PySem.W.mg_of X G g_are_rules,
      g_led_alone := PySem.W.mg_of X G g_led_alone,
      g_is_sound := PySem.W.mg_of X G g_is_sound,
      g_places_in := PySem.W.mg_of X G g_places_in,
      g_has := PySem.W.mg_of X G g_has,
      g_first_rule := PySem.W.mg_of X G g_first_rule,
      g_cuts := PySem.W.mg_of X G g_cuts,
      g_first_tree := PySem.W.mg_of X G g_first_tree,
      g_read := PySem.W.mg_of X G g_read,
      g_stretch_told := PySem.W.mg_of X G g_stretch_told,
      g_want := PySem.W.mg_of X G g_want,
      g_first_house := PySem.W.mg_of X G g_first_house,
      g_begin := PySem.W.mg_of X G g_begin,
      g_edit := PySem.W.mg_of X G g_edit,
      g_move := PySem.W.mg_of X G g_move,
      g_undo := PySem.W.mg_of X G g_undo,
      g_redo := PySem.W.mg_of X G g_redo,
      g_tree := PySem.W.mg_of X G g_tree,
      g_words := PySem.W.mg_of X G g_words,
      g_want_name := PySem.W.mg_of X G g_want_name,
      g_node := PySem.W.mg_of X G g_node,
      g_at := PySem.W.mg_of X G g_at,
      g_mark := PySem.W.mg_of X G g_mark,
      g_marks := PySem.W.mg_of X G g_marks,
      g_taken_apart := PySem.W.mg_of X G g_taken_apart,
      g_told_of := PySem.W.mg_of X G g_told_of,
      g_answers := PySem.W.mg_of X G g_answers,
      g_Grammar := PySem.W.mg_of X G a_Grammar,
      c_Grammar := ⟨pg_Grammar, hd_Grammar, po_Grammar, sa_Grammar⟩,
      mk_Grammar := ⟨mk_Grammar, g_Grammar_init, i_Grammar_init, kc_Grammar⟩,
      na_Grammar_words := na_Grammar_words,
      na_Grammar_parts := na_Grammar_parts,
      na_Grammar_rules := na_Grammar_rules,
      g_Ends := PySem.W.mg_of X G a_Ends,
      c_Ends := ⟨pg_Ends, hd_Ends, po_Ends, sa_Ends⟩,
      mk_Ends := ⟨mk_Ends, g_Ends_init, i_Ends_init, kc_Ends⟩,
      na_Ends_grammar := na_Ends_grammar,
      na_Ends_text := na_Ends_text,
      na_Ends_of_parts := na_Ends_of_parts,
      na_Ends_of_rests := na_Ends_of_rests,
      m_Ends_of_sign := ⟨g_Ends_of_sign, i_Ends_of_sign, k_Ends_of_sign⟩,
      m_Ends_behind := ⟨g_Ends_behind, i_Ends_behind, k_Ends_behind⟩,
      m_Ends_grow := ⟨g_Ends_grow, i_Ends_grow, k_Ends_grow⟩,
      m_Ends_fill_rests := ⟨g_Ends_fill_rests, i_Ends_fill_rests, k_Ends_fill_rests⟩,
      m_Ends_fill := ⟨g_Ends_fill, i_Ends_fill, k_Ends_fill⟩,
      g_Tree := PySem.W.mg_of X G a_Tree,
      c_Tree := ⟨pg_Tree, hd_Tree, po_Tree, sa_Tree⟩,
      mk_Tree := ⟨mk_Tree, g_Tree_init, i_Tree_init, kc_Tree⟩,
      na_Tree_listed := na_Tree_listed,
      na_Tree_nodes := na_Tree_nodes,
      g_House := PySem.W.mg_of X G a_House,
      c_House := ⟨pg_House, hd_House, po_House, sa_House⟩,
      mk_House := ⟨mk_House, g_House_init, i_House_init, kc_House⟩,
      na_House_grammar := na_House_grammar,
      na_House_text := na_House_text,
      na_House_next_word := na_House_next_word,
      na_House_names := na_House_names,
      na_House_marks := na_House_marks,
      na_House_elder := na_House_elder,
      na_House_later := na_House_later,
      na_House_tree := na_House_tree,
      na_House_order := na_House_order,
      m_House_key_of := ⟨g_House_key_of, i_House_key_of, k_House_key_of⟩,
      m_House_take := ⟨g_House_take, i_House_take, k_House_take⟩,
      m_House_change := ⟨g_House_change, i_House_change, k_House_change⟩,
      m_House_step := ⟨g_House_step, i_House_step, k_House_step⟩,
      m_House_edit := ⟨g_House_edit, i_House_edit, k_House_edit⟩,
      m_House_move := ⟨g_House_move, i_House_move, k_House_move⟩,
      m_House_undo := ⟨g_House_undo, i_House_undo, k_House_undo⟩,
      m_House_redo := ⟨g_House_redo, i_House_redo, k_House_redo⟩,
      m_House_has_had := ⟨g_House_has_had, i_House_has_had, k_House_has_had⟩,
      m_House_place_of := ⟨g_House_place_of, i_House_place_of, k_House_place_of⟩,
      m_House_set_mark := ⟨g_House_set_mark, i_House_set_mark, k_House_set_mark⟩,
      m_House_is_full_for := ⟨g_House_is_full_for, i_House_is_full_for, k_House_is_full_for⟩,
      g_NotLet := PySem.W.mg_of X G a_NotLet,
      g_Keeper := PySem.W.mg_of X G a_Keeper,
      c_Keeper := ⟨pg_Keeper, hd_Keeper, po_Keeper, sa_Keeper⟩,
      mk_Keeper := ⟨mk_Keeper, g_Keeper_init, i_Keeper_init, kc_Keeper⟩,
      na_Keeper_house := na_Keeper_house,
      m_Keeper_answer := ⟨g_Keeper_answer, i_Keeper_answer, k_Keeper_answer⟩,
      oex := ⟨⟨nm_, q_, N_, bs_, _, sn_, sub_, ab_, col_, dd_, m0_, m1_, m2_, m3_, m5_, xL, by decide +kernel⟩, saX, eX, tX, kX⟩,
      init_NotLet := g_NotLet_init,
      tf_NotLet := tyX,
      no_number := nnX,
      ve := vX,
      e_NotLet := exm_self eX iX tX sX,
      w_SIZES := ⟨_, _, _, w_SIZES, rfl, rfl, by show 12 ≤ sizeLine; decide, (.cons ⟨_, rfl⟩ (.cons ⟨_, rfl⟩ (.cons ⟨_, rfl⟩ (.cons ⟨_, rfl⟩ (.cons ⟨_, rfl⟩ (.cons ⟨_, rfl⟩ (.cons ⟨_, rfl⟩ (.cons ⟨_, rfl⟩ (.cons ⟨_, rfl⟩ (.cons ⟨_, rfl⟩ (.cons ⟨_, rfl⟩ (.cons ⟨_, rfl⟩ .nil))))))))))))⟩,
      w_WITH_LIST := ⟨_, _, _, w_WITH_LIST, rfl, rfl, by show 2 ≤ sizeLine; decide, (.cons ⟨_, rfl⟩ (.cons ⟨_, rfl⟩ .nil))⟩,
      d_BY_NONE := wd_of [(h_BY_NONE_0, 4, w_BY_NONE_0, f_undo), (h_BY_NONE_1, 5, w_BY_NONE_1, f_redo), (h_BY_NONE_2, 6, w_BY_NONE_2, f_tree), (h_BY_NONE_3, 7, w_BY_NONE_3, f_words), (h_BY_NONE_4, 11, w_BY_NONE_4, f_marks)] d_BY_NONE s_BY_NONE (hq_BY_NONE) (by show ([4, 5, 6, 7, 11] : List Int).Nodup; decide),
      d_BY_ONE := wd_of [(h_BY_ONE_0, 8, w_BY_ONE_0, f_node)] d_BY_ONE s_BY_ONE (hq_BY_ONE) (by show ([8] : List Int).Nodup; decide),
      d_BY_TWO := wd_of [(h_BY_TWO_0, 9, w_BY_TWO_0, f_at), (h_BY_TWO_1, 10, w_BY_TWO_1, f_mark)] d_BY_TWO s_BY_TWO (hq_BY_TWO) (by show ([9, 10] : List Int).Nodup; decide),
      d_BY_THREE := wd_of [(h_BY_THREE_0, 2, w_BY_THREE_0, f_edit), (h_BY_THREE_1, 3, w_BY_THREE_1, f_move)] d_BY_THREE s_BY_THREE (hq_BY_THREE) (by show ([2, 3] : List Int).Nodup; decide) }
  have xf : XfC K a.c_NotLet := ⟨gaX, ggX, eX, hX⟩
  have F_House_init := fun_mk (st := s_House_init) l_House_init co_House_init k_House_init
  have F_Grammar_init := fun_mk (st := s_Grammar_init) l_Grammar_init co_Grammar_init k_Grammar_init
  have F_first_house := fun_mk (st := s_first_house) l_first_house co_first_house k_first_house
  have F_Keeper_init := fun_mk (st := s_Keeper_init) l_Keeper_init co_Keeper_init k_Keeper_init
  have F_taken_apart := fun_mk (st := s_taken_apart) l_taken_apart co_taken_apart k_taken_apart
  have F_NotLet_init := fun_mk (st := s_NotLet_init) l_NotLet_init co_NotLet_init k_NotLet_init
  have F_want := fun_mk (st := s_want) l_want co_want k_want
  have F_Ends_init := fun_mk (st := s_Ends_init) l_Ends_init co_Ends_init k_Ends_init
  have F_is_part := fun_mk (st := s_is_part) l_is_part co_is_part k_is_part
  have F_Ends_of_sign := fun_mk (st := s_Ends_of_sign) l_Ends_of_sign co_Ends_of_sign k_Ends_of_sign
  have F_places_in := fun_mk (st := s_places_in) l_places_in co_places_in k_places_in
  have F_Ends_behind := fun_mk (st := s_Ends_behind) l_Ends_behind co_Ends_behind k_Ends_behind
  have F_Ends_grow := fun_mk (st := s_Ends_grow) l_Ends_grow co_Ends_grow k_Ends_grow
  have F_Ends_fill_rests := fun_mk (st := s_Ends_fill_rests) l_Ends_fill_rests co_Ends_fill_rests k_Ends_fill_rests
  have F_Ends_fill := fun_mk (st := s_Ends_fill) l_Ends_fill co_Ends_fill k_Ends_fill
  have F_Tree_init := fun_mk (st := s_Tree_init) l_Tree_init co_Tree_init k_Tree_init
  have F_has := fun_mk (st := s_has) l_has co_has k_has
  have F_first_rule := fun_mk (st := s_first_rule) l_first_rule co_first_rule k_first_rule
  have F_cuts := fun_mk (st := s_cuts) l_cuts co_cuts k_cuts
  have F_first_tree := fun_mk (st := s_first_tree) l_first_tree co_first_tree k_first_tree
  have F_read := fun_mk (st := s_read) l_read co_read k_read
  have F_House_key_of := fun_mk (st := s_House_key_of) l_House_key_of co_House_key_of k_House_key_of
  have F_House_take := fun_mk (st := s_House_take) l_House_take co_House_take k_House_take
  have F_House_change := fun_mk (st := s_House_change) l_House_change co_House_change k_House_change
  have F_House_step := fun_mk (st := s_House_step) l_House_step co_House_step k_House_step
  have F_House_edit := fun_mk (st := s_House_edit) l_House_edit co_House_edit k_House_edit
  have F_edit := fun_mk (st := s_edit) l_edit co_edit k_edit
  have F_House_move := fun_mk (st := s_House_move) l_House_move co_House_move k_House_move
  have F_move := fun_mk (st := s_move) l_move co_move k_move
  have F_House_undo := fun_mk (st := s_House_undo) l_House_undo co_House_undo k_House_undo
  have F_undo := fun_mk (st := s_undo) l_undo co_undo k_undo
  have F_House_redo := fun_mk (st := s_House_redo) l_House_redo co_House_redo k_House_redo
  have F_redo := fun_mk (st := s_redo) l_redo co_redo k_redo
  have F_tree := fun_mk (st := s_tree) l_tree co_tree k_tree
  have F_words := fun_mk (st := s_words) l_words co_words k_words
  have F_House_has_had := fun_mk (st := s_House_has_had) l_House_has_had co_House_has_had k_House_has_had
  have F_want_name := fun_mk (st := s_want_name) l_want_name co_want_name k_want_name
  have F_House_place_of := fun_mk (st := s_House_place_of) l_House_place_of co_House_place_of k_House_place_of
  have F_stretch_told := fun_mk (st := s_stretch_told) l_stretch_told co_stretch_told k_stretch_told
  have F_node := fun_mk (st := s_node) l_node co_node k_node
  have F_at := fun_mk (st := s_at) l_at co_at k_at
  have F_House_set_mark := fun_mk (st := s_House_set_mark) l_House_set_mark co_House_set_mark k_House_set_mark
  have F_House_is_full_for := fun_mk (st := s_House_is_full_for) l_House_is_full_for co_House_is_full_for k_House_is_full_for
  have F_mark := fun_mk (st := s_mark) l_mark co_mark k_mark
  have F_marks := fun_mk (st := s_marks) l_marks co_marks k_marks
  have F_told_of := fun_mk (st := s_told_of) l_told_of co_told_of k_told_of
  have F_rules_told := fun_mk (st := s_rules_told) l_rules_told co_rules_told k_rules_told
  have F_are_counts := fun_mk (st := s_are_counts) l_are_counts co_are_counts k_are_counts
  have F_led_alone := fun_mk (st := s_led_alone) l_led_alone co_led_alone k_led_alone
  have F_is_sound := fun_mk (st := s_is_sound) l_is_sound co_is_sound k_is_sound
  have F_is_sign := fun_mk (st := s_is_sign) l_is_sign co_is_sign k_is_sign
  have F_are_rules := fun_mk (st := s_are_rules) l_are_rules co_are_rules k_are_rules
  have F_begin := fun_mk (st := s_begin) l_begin co_begin k_begin
  have F_Keeper_answer := fun_mk (st := s_Keeper_answer) l_Keeper_answer co_Keeper_answer k_Keeper_answer
  have F_answers := fun_mk (st := s_answers) l_answers co_answers k_answers
  refine ⟨PySem.W.fnOf "answers" "answers" (defArgs s_answers) (defBody s_answers) (defScope s_answers) .none kV_answers dc_answers pm_answers an_answers cd_answers ct_answers, fun s us hu => match us, hu with | [_], _ => .of_eq rfl, fun base _ _ => ?_⟩
  have h_House_init := ok_House_init (P := P) (w := w) (base := base) (a := a) ⟨_, F_House_init⟩ T 
  have h_Grammar_init := ok_Grammar_init (P := P) (w := w) (base := base) (a := a) ⟨_, F_Grammar_init⟩ T 
  have h_first_house := ok_first_house (P := P) (w := w) (base := base) (a := a) ⟨_, F_first_house⟩ T h_House_init h_Grammar_init
  have h_Keeper_init := ok_Keeper_init (P := P) (w := w) (base := base) (a := a) ⟨_, F_Keeper_init⟩ T h_first_house
  have h_taken_apart := ok_taken_apart (P := P) (w := w) (base := base) (a := a) ⟨_, F_taken_apart⟩ T 
  have h_NotLet_init := ok_NotLet_init (P := P) (w := w) (base := base) (a := a) ⟨_, F_NotLet_init⟩ T 
  have h_want := ok_want (P := P) (w := w) (base := base) (a := a) ⟨_, F_want⟩ T h_NotLet_init
  have h_Ends_init := ok_Ends_init (P := P) (w := w) (base := base) (a := a) ⟨_, F_Ends_init⟩ T 
  have h_is_part := ok_is_part (P := P) (w := w) (base := base) (a := a) ⟨_, F_is_part⟩ T 
  have h_Ends_of_sign := ok_Ends_of_sign (P := P) (w := w) (base := base) (a := a) ⟨_, F_Ends_of_sign⟩ T h_is_part
  have h_places_in := ok_places_in (P := P) (w := w) (base := base) (a := a) ⟨_, F_places_in⟩ T 
  have h_Ends_behind := ok_Ends_behind (P := P) (w := w) (base := base) (a := a) ⟨_, F_Ends_behind⟩ T h_Ends_of_sign h_places_in
  have h_Ends_grow := ok_Ends_grow (P := P) (w := w) (base := base) (a := a) ⟨_, F_Ends_grow⟩ T h_Ends_behind
  have h_Ends_fill_rests := ok_Ends_fill_rests (P := P) (w := w) (base := base) (a := a) ⟨_, F_Ends_fill_rests⟩ T h_Ends_behind
  have h_Ends_fill := ok_Ends_fill (P := P) (w := w) (base := base) (a := a) ⟨_, F_Ends_fill⟩ T h_Ends_grow h_Ends_fill_rests
  have h_Tree_init := ok_Tree_init (P := P) (w := w) (base := base) (a := a) ⟨_, F_Tree_init⟩ T 
  have h_has := ok_has (P := P) (w := w) (base := base) (a := a) ⟨_, F_has⟩ T 
  have h_first_rule := ok_first_rule (P := P) (w := w) (base := base) (a := a) ⟨_, F_first_rule⟩ T h_has h_Ends_behind
  have h_cuts := ok_cuts (P := P) (w := w) (base := base) (a := a) ⟨_, F_cuts⟩ T h_places_in h_Ends_of_sign h_has
  have h_first_tree := ok_first_tree (P := P) (w := w) (base := base) (a := a) ⟨_, F_first_tree⟩ T h_Tree_init h_is_part h_has h_first_rule h_cuts
  have h_read := ok_read (P := P) (w := w) (base := base) (a := a) ⟨_, F_read⟩ T h_Ends_init h_Ends_fill h_first_tree
  have h_House_key_of := ok_House_key_of (P := P) (w := w) (base := base) (a := a) ⟨_, F_House_key_of⟩ T 
  have h_House_take := ok_House_take (P := P) (w := w) (base := base) (a := a) ⟨_, F_House_take⟩ T h_read h_House_key_of
  have h_House_change := ok_House_change (P := P) (w := w) (base := base) (a := a) ⟨_, F_House_change⟩ T h_House_take
  have h_House_step := ok_House_step (P := P) (w := w) (base := base) (a := a) ⟨_, F_House_step⟩ T h_House_change
  have h_House_edit := ok_House_edit (P := P) (w := w) (base := base) (a := a) ⟨_, F_House_edit⟩ T h_House_step
  have h_edit := ok_edit (P := P) (w := w) (base := base) (a := a) ⟨_, F_edit⟩ T h_want h_House_edit
  have h_House_move := ok_House_move (P := P) (w := w) (base := base) (a := a) ⟨_, F_House_move⟩ T h_House_step
  have h_move := ok_move (P := P) (w := w) (base := base) (a := a) ⟨_, F_move⟩ T h_want h_House_move
  have h_House_undo := ok_House_undo (P := P) (w := w) (base := base) (a := a) ⟨_, F_House_undo⟩ T h_House_change
  have h_undo := ok_undo (P := P) (w := w) (base := base) (a := a) ⟨_, F_undo⟩ T h_want h_House_undo
  have h_House_redo := ok_House_redo (P := P) (w := w) (base := base) (a := a) ⟨_, F_House_redo⟩ T h_House_change
  have h_redo := ok_redo (P := P) (w := w) (base := base) (a := a) ⟨_, F_redo⟩ T h_want h_House_redo
  have h_tree := ok_tree (P := P) (w := w) (base := base) (a := a) ⟨_, F_tree⟩ T h_want
  have h_words := ok_words (P := P) (w := w) (base := base) (a := a) ⟨_, F_words⟩ T 
  have h_House_has_had := ok_House_has_had (P := P) (w := w) (base := base) (a := a) ⟨_, F_House_has_had⟩ T 
  have h_want_name := ok_want_name (P := P) (w := w) (base := base) (a := a) ⟨_, F_want_name⟩ T h_want h_House_has_had
  have h_House_place_of := ok_House_place_of (P := P) (w := w) (base := base) (a := a) ⟨_, F_House_place_of⟩ T 
  have h_stretch_told := ok_stretch_told (P := P) (w := w) (base := base) (a := a) ⟨_, F_stretch_told⟩ T 
  have h_node := ok_node (P := P) (w := w) (base := base) (a := a) ⟨_, F_node⟩ T h_want_name h_House_place_of h_stretch_told
  have h_at := ok_at (P := P) (w := w) (base := base) (a := a) ⟨_, F_at⟩ T h_want
  have h_House_set_mark := ok_House_set_mark (P := P) (w := w) (base := base) (a := a) ⟨_, F_House_set_mark⟩ T 
  have h_House_is_full_for := ok_House_is_full_for (P := P) (w := w) (base := base) (a := a) ⟨_, F_House_is_full_for⟩ T 
  have h_mark := ok_mark (P := P) (w := w) (base := base) (a := a) ⟨_, F_mark⟩ T h_want h_want_name h_House_set_mark h_House_is_full_for
  have h_marks := ok_marks (P := P) (w := w) (base := base) (a := a) ⟨_, F_marks⟩ T h_stretch_told h_House_place_of
  have h_told_of := ok_told_of (P := P) (w := w) (base := base) (a := a) ⟨_, F_told_of⟩ T h_edit h_move h_undo h_redo h_tree h_words h_node h_at h_mark h_marks
  have h_rules_told := ok_rules_told (P := P) (w := w) (base := base) (a := a) ⟨_, F_rules_told⟩ T 
  have h_are_counts := ok_are_counts (P := P) (w := w) (base := base) (a := a) ⟨_, F_are_counts⟩ T 
  have h_led_alone := ok_led_alone (P := P) (w := w) (base := base) (a := a) ⟨_, F_led_alone⟩ T h_is_part
  have h_is_sound := ok_is_sound (P := P) (w := w) (base := base) (a := a) ⟨_, F_is_sound⟩ T h_led_alone
  have h_is_sign := ok_is_sign (P := P) (w := w) (base := base) (a := a) ⟨_, F_is_sign⟩ T h_is_part
  have h_are_rules := ok_are_rules (P := P) (w := w) (base := base) (a := a) ⟨_, F_are_rules⟩ T h_is_sign
  have h_begin := ok_begin (P := P) (w := w) (base := base) (a := a) ⟨_, F_begin⟩ T h_want h_rules_told h_House_init h_are_counts h_is_sound h_Grammar_init h_are_rules
  have h_Keeper_answer := ok_Keeper_answer (P := P) (w := w) (base := base) (a := a) ⟨_, F_Keeper_answer⟩ T h_told_of h_begin
  exact ok_answers (P := P) (w := w) (base := base) (a := a) F_answers T xf h_Keeper_init h_taken_apart h_Keeper_answer
/-- the request: a list of whole numbers that is asked -/
theorem fin_ask {K : PySem.W.Frag} {H : Hp} {p : Addr} {ns : List Int} {E : XK} {Q : VK} (hs : SqL K H p (ns.map V.int)) (hw : ∀ x ∈ ns, 0 ≤ x) (ha : PySq14.answers_asked ns = true) (hq : ∀ (H' : Hp) (r : Addr), H' r = some (.lst ((PySq14.answers ns).map V.int)) → Q (.ref r) H') : spFin K [.ref p] H Q E := by
  obtain ⟨m, rfl⟩ : ∃ m : List Nat, ns = Gs.asInts m := ⟨ns.map Int.toNat, by
    unfold Gs.asInts
    rw [List.map_map]
    exact ((List.map_congr_left fun x hx => Int.toNat_of_nonneg (hw x hx)).trans (List.map_id _)).symm⟩
  obtain ⟨cs, h1, h2, h3, h4, h5, h6⟩ := Gs.asked_is ha
  rw [h5] at hq
  refine ⟨p, cs, rfl, ?_, h2, h3, by omega, fun i _ => Gs.states_fit h2 h4 i, by omega, hq⟩
  rw [← h1]
  have e : m.map vN = (Gs.asInts m).map V.int := by
    unfold Gs.asInts
    rw [List.map_map]
    rfl
  rw [e]
  exact hs
end Gw
open PySem PySem.W PyProof.Rows
set_option maxRecDepth 100000 in
set_option maxHeartbeats 16000000 in
theorem PySem.Challenge.cw_regrown_s01_answers_holds : PySem.Challenge.rw_regrown_s01_answers.Holds := by
  w_on; k_headS; (case hw => exact ⟨[.list [.int 4]], by decide +kernel, by decide +kernel⟩)
  k_fillS
  refine L2.walk_specK (r := PySem.Challenge.rw_regrown_s01_answers) (k := 14) (CX := L2.CX0) (ps := ["calls"]) (sp := Gw.spFin) (by decide +kernel) rfl rfl ⟨rfl, by decide, by decide⟩ (fun w h Y => PySem.W.kIn_of Y) ?F ?S (fun _ _ _ _ z => z)
  case F =>
    intro w mg fa h Y KX G hmg
    refine' Gw.all_mk KX G hmg ?n_len ?n_range ?n_enumerate ?n_tuple ?n_set ?n_all ?n_sorted ?n_ValueError ?i_BEGIN ?i_MOST_MARK ?i_MOST_MARKS ?i_MOST_PARTS ?i_MOST_RULES ?i_MOST_SIGNS ?i_MOST_TEXT ?i_MOST_UNDO ?i_MOST_WORDS ?i_NONE_SUCH ?i_NOT_AS_TOLD ?i_NOT_SOUND ?i_NOT_THERE ?i_PART ?i_TOO_MANY ?r_BY_NONE_ ?r_BY_ONE_ ?r_BY_THREE_ ?r_BY_TWO_ ?r_SIZES_ ?r_WITH_LIST_ ?a_Grammar ?a_Ends ?a_Tree ?a_House ?a_NotLet ?a_Keeper ?g_Grammar_init ?i_Grammar_init ?l_Grammar_init ?co_Grammar_init ?k_Grammar_init ?g_is_part ?l_is_part ?co_is_part ?k_is_part ?g_are_counts ?l_are_counts ?co_are_counts ?k_are_counts ?g_is_sign ?l_is_sign ?co_is_sign ?k_is_sign ?g_rules_told ?l_rules_told ?co_rules_told ?k_rules_told ?g_are_rules ?l_are_rules ?co_are_rules ?k_are_rules ?g_led_alone ?l_led_alone ?co_led_alone ?k_led_alone ?g_is_sound ?l_is_sound ?co_is_sound ?k_is_sound ?g_Ends_init ?i_Ends_init ?l_Ends_init ?co_Ends_init ?k_Ends_init ?g_Ends_of_sign ?i_Ends_of_sign ?l_Ends_of_sign ?co_Ends_of_sign ?k_Ends_of_sign ?g_Ends_behind ?i_Ends_behind ?l_Ends_behind ?co_Ends_behind ?k_Ends_behind ?g_Ends_grow ?i_Ends_grow ?l_Ends_grow ?co_Ends_grow ?k_Ends_grow ?g_Ends_fill_rests ?i_Ends_fill_rests ?l_Ends_fill_rests ?co_Ends_fill_rests ?k_Ends_fill_rests ?g_Ends_fill ?i_Ends_fill ?l_Ends_fill ?co_Ends_fill ?k_Ends_fill ?g_places_in ?l_places_in ?co_places_in ?k_places_in ?g_has ?l_has ?co_has ?k_has ?g_first_rule ?l_first_rule ?co_first_rule ?k_first_rule ?g_cuts ?l_cuts ?co_cuts ?k_cuts ?g_Tree_init ?i_Tree_init ?l_Tree_init ?co_Tree_init ?k_Tree_init ?g_first_tree ?l_first_tree ?co_first_tree ?k_first_tree ?g_read ?l_read ?co_read ?k_read ?g_House_init ?i_House_init ?l_House_init ?co_House_init ?k_House_init ?g_House_key_of ?i_House_key_of ?l_House_key_of ?co_House_key_of ?k_House_key_of ?g_House_take ?i_House_take ?l_House_take ?co_House_take ?k_House_take ?g_House_change ?i_House_change ?l_House_change ?co_House_change ?k_House_change ?g_House_step ?i_House_step ?l_House_step ?co_House_step ?k_House_step ?g_House_edit ?i_House_edit ?l_House_edit ?co_House_edit ?k_House_edit ?g_House_move ?i_House_move ?l_House_move ?co_House_move ?k_House_move ?g_House_undo ?i_House_undo ?l_House_undo ?co_House_undo ?k_House_undo ?g_House_redo ?i_House_redo ?l_House_redo ?co_House_redo ?k_House_redo ?g_House_has_had ?i_House_has_had ?l_House_has_had ?co_House_has_had ?k_House_has_had ?g_House_place_of ?i_House_place_of ?l_House_place_of ?co_House_place_of ?k_House_place_of ?g_House_set_mark ?i_House_set_mark ?l_House_set_mark ?co_House_set_mark ?k_House_set_mark ?g_House_is_full_for ?i_House_is_full_for ?l_House_is_full_for ?co_House_is_full_for ?k_House_is_full_for ?g_stretch_told ?l_stretch_told ?co_stretch_told ?k_stretch_told ?g_NotLet_init ?l_NotLet_init ?co_NotLet_init ?k_NotLet_init ?g_want ?l_want ?co_want ?k_want ?g_first_house ?l_first_house ?co_first_house ?k_first_house ?g_begin ?l_begin ?co_begin ?k_begin ?g_edit ?l_edit ?co_edit ?k_edit ?g_move ?l_move ?co_move ?k_move ?g_undo ?l_undo ?co_undo ?k_undo ?g_redo ?l_redo ?co_redo ?k_redo ?g_tree ?l_tree ?co_tree ?k_tree ?g_words ?l_words ?co_words ?k_words ?g_want_name ?l_want_name ?co_want_name ?k_want_name ?g_node ?l_node ?co_node ?k_node ?g_at ?l_at ?co_at ?k_at ?g_mark ?l_mark ?co_mark ?k_mark ?g_marks ?l_marks ?co_marks ?k_marks ?g_taken_apart ?l_taken_apart ?co_taken_apart ?k_taken_apart ?g_told_of ?l_told_of ?co_told_of ?k_told_of ?g_Keeper_init ?i_Keeper_init ?l_Keeper_init ?co_Keeper_init ?k_Keeper_init ?g_Keeper_answer ?i_Keeper_answer ?l_Keeper_answer ?co_Keeper_answer ?k_Keeper_answer ?g_answers ?l_answers ?co_answers ?k_answers ?pg_Grammar ?hd_Grammar ?po_Grammar ?sa_Grammar ?mk_Grammar ?kc_Grammar ?na_Grammar_words ?na_Grammar_parts ?na_Grammar_rules ?pg_Ends ?hd_Ends ?po_Ends ?sa_Ends ?mk_Ends ?kc_Ends ?na_Ends_grammar ?na_Ends_text ?na_Ends_of_parts ?na_Ends_of_rests ?pg_Tree ?hd_Tree ?po_Tree ?sa_Tree ?mk_Tree ?kc_Tree ?na_Tree_listed ?na_Tree_nodes ?pg_House ?hd_House ?po_House ?sa_House ?mk_House ?kc_House ?na_House_grammar ?na_House_text ?na_House_next_word ?na_House_names ?na_House_marks ?na_House_elder ?na_House_later ?na_House_tree ?na_House_order ?pg_Keeper ?hd_Keeper ?po_Keeper ?sa_Keeper ?mk_Keeper ?kc_Keeper ?na_Keeper_house ?xL ?saX ?gaX ?ggX ?nnX ?tyX ?kX ?eX ?tX ?hX ?iX ?sX ?vX ?w_SIZES ?w_WITH_LIST ?d_BY_NONE ?s_BY_NONE ?hh_BY_NONE ?d_BY_ONE ?s_BY_ONE ?hh_BY_ONE ?d_BY_TWO ?s_BY_TWO ?hh_BY_TWO ?d_BY_THREE ?s_BY_THREE ?hh_BY_THREE
    (case n_len => k_is)
    (case n_range => k_is)
    (case n_enumerate => k_is)
    (case n_tuple => k_is)
    (case n_set => k_is)
    (case n_all => k_is)
    (case n_sorted => k_is)
    (case n_ValueError => k_is)
    (case i_BEGIN => k_is)
    (case i_MOST_MARK => k_is)
    (case i_MOST_MARKS => k_is)
    (case i_MOST_PARTS => k_is)
    (case i_MOST_RULES => k_is)
    (case i_MOST_SIGNS => k_is)
    (case i_MOST_TEXT => k_is)
    (case i_MOST_UNDO => k_is)
    (case i_MOST_WORDS => k_is)
    (case i_NONE_SUCH => k_is)
    (case i_NOT_AS_TOLD => k_is)
    (case i_NOT_SOUND => k_is)
    (case i_NOT_THERE => k_is)
    (case i_PART => k_is)
    (case i_TOO_MANY => k_is)
    (case r_BY_NONE_ => k_is)
    (case r_BY_ONE_ => k_is)
    (case r_BY_THREE_ => k_is)
    (case r_BY_TWO_ => k_is)
    (case r_SIZES_ => k_is)
    (case r_WITH_LIST_ => k_is)
    (case a_Grammar => k_is)
    (case a_Ends => k_is)
    (case a_Tree => k_is)
    (case a_House => k_is)
    (case a_NotLet => k_is)
    (case a_Keeper => k_is)
    (case g_Grammar_init => k_is)
    (case i_Grammar_init => k_is)
    (case l_Grammar_init => k_is)
    (case co_Grammar_init => k_is)
    (case k_Grammar_init => k_is)
    (case g_is_part => k_is)
    (case l_is_part => k_is)
    (case co_is_part => k_is)
    (case k_is_part => k_is)
    (case g_are_counts => k_is)
    (case l_are_counts => k_is)
    (case co_are_counts => k_is)
    (case k_are_counts => k_is)
    (case g_is_sign => k_is)
    (case l_is_sign => k_is)
    (case co_is_sign => k_is)
    (case k_is_sign => k_is)
    (case g_rules_told => k_is)
    (case l_rules_told => k_is)
    (case co_rules_told => k_is)
    (case k_rules_told => k_is)
    (case g_are_rules => k_is)
    (case l_are_rules => k_is)
    (case co_are_rules => k_is)
    (case k_are_rules => k_is)
    (case g_led_alone => k_is)
    (case l_led_alone => k_is)
    (case co_led_alone => k_is)
    (case k_led_alone => k_is)
    (case g_is_sound => k_is)
    (case l_is_sound => k_is)
    (case co_is_sound => k_is)
    (case k_is_sound => k_is)
    (case g_Ends_init => k_is)
    (case i_Ends_init => k_is)
    (case l_Ends_init => k_is)
    (case co_Ends_init => k_is)
    (case k_Ends_init => k_is)
    (case g_Ends_of_sign => k_is)
    (case i_Ends_of_sign => k_is)
    (case l_Ends_of_sign => k_is)
    (case co_Ends_of_sign => k_is)
    (case k_Ends_of_sign => k_is)
    (case g_Ends_behind => k_is)
    (case i_Ends_behind => k_is)
    (case l_Ends_behind => k_is)
    (case co_Ends_behind => k_is)
    (case k_Ends_behind => k_is)
    (case g_Ends_grow => k_is)
    (case i_Ends_grow => k_is)
    (case l_Ends_grow => k_is)
    (case co_Ends_grow => k_is)
    (case k_Ends_grow => k_is)
    (case g_Ends_fill_rests => k_is)
    (case i_Ends_fill_rests => k_is)
    (case l_Ends_fill_rests => k_is)
    (case co_Ends_fill_rests => k_is)
    (case k_Ends_fill_rests => k_is)
    (case g_Ends_fill => k_is)
    (case i_Ends_fill => k_is)
    (case l_Ends_fill => k_is)
    (case co_Ends_fill => k_is)
    (case k_Ends_fill => k_is)
    (case g_places_in => k_is)
    (case l_places_in => k_is)
    (case co_places_in => k_is)
    (case k_places_in => k_is)
    (case g_has => k_is)
    (case l_has => k_is)
    (case co_has => k_is)
    (case k_has => k_is)
    (case g_first_rule => k_is)
    (case l_first_rule => k_is)
    (case co_first_rule => k_is)
    (case k_first_rule => k_is)
    (case g_cuts => k_is)
    (case l_cuts => k_is)
    (case co_cuts => k_is)
    (case k_cuts => k_is)
    (case g_Tree_init => k_is)
    (case i_Tree_init => k_is)
    (case l_Tree_init => k_is)
    (case co_Tree_init => k_is)
    (case k_Tree_init => k_is)
    (case g_first_tree => k_is)
    (case l_first_tree => k_is)
    (case co_first_tree => k_is)
    (case k_first_tree => k_is)
    (case g_read => k_is)
    (case l_read => k_is)
    (case co_read => k_is)
    (case k_read => k_is)
    (case g_House_init => k_is)
    (case i_House_init => k_is)
    (case l_House_init => k_is)
    (case co_House_init => k_is)
    (case k_House_init => k_is)
    (case g_House_key_of => k_is)
    (case i_House_key_of => k_is)
    (case l_House_key_of => k_is)
    (case co_House_key_of => k_is)
    (case k_House_key_of => k_is)
    (case g_House_take => k_is)
    (case i_House_take => k_is)
    (case l_House_take => k_is)
    (case co_House_take => k_is)
    (case k_House_take => k_is)
    (case g_House_change => k_is)
    (case i_House_change => k_is)
    (case l_House_change => k_is)
    (case co_House_change => k_is)
    (case k_House_change => k_is)
    (case g_House_step => k_is)
    (case i_House_step => k_is)
    (case l_House_step => k_is)
    (case co_House_step => k_is)
    (case k_House_step => k_is)
    (case g_House_edit => k_is)
    (case i_House_edit => k_is)
    (case l_House_edit => k_is)
    (case co_House_edit => k_is)
    (case k_House_edit => k_is)
    (case g_House_move => k_is)
    (case i_House_move => k_is)
    (case l_House_move => k_is)
    (case co_House_move => k_is)
    (case k_House_move => k_is)
    (case g_House_undo => k_is)
    (case i_House_undo => k_is)
    (case l_House_undo => k_is)
    (case co_House_undo => k_is)
    (case k_House_undo => k_is)
    (case g_House_redo => k_is)
    (case i_House_redo => k_is)
    (case l_House_redo => k_is)
    (case co_House_redo => k_is)
    (case k_House_redo => k_is)
    (case g_House_has_had => k_is)
    (case i_House_has_had => k_is)
    (case l_House_has_had => k_is)
    (case co_House_has_had => k_is)
    (case k_House_has_had => k_is)
    (case g_House_place_of => k_is)
    (case i_House_place_of => k_is)
    (case l_House_place_of => k_is)
    (case co_House_place_of => k_is)
    (case k_House_place_of => k_is)
    (case g_House_set_mark => k_is)
    (case i_House_set_mark => k_is)
    (case l_House_set_mark => k_is)
    (case co_House_set_mark => k_is)
    (case k_House_set_mark => k_is)
    (case g_House_is_full_for => k_is)
    (case i_House_is_full_for => k_is)
    (case l_House_is_full_for => k_is)
    (case co_House_is_full_for => k_is)
    (case k_House_is_full_for => k_is)
    (case g_stretch_told => k_is)
    (case l_stretch_told => k_is)
    (case co_stretch_told => k_is)
    (case k_stretch_told => k_is)
    (case g_NotLet_init => k_is)
    (case l_NotLet_init => k_is)
    (case co_NotLet_init => k_is)
    (case k_NotLet_init => k_is)
    (case g_want => k_is)
    (case l_want => k_is)
    (case co_want => k_is)
    (case k_want => k_is)
    (case g_first_house => k_is)
    (case l_first_house => k_is)
    (case co_first_house => k_is)
    (case k_first_house => k_is)
    (case g_begin => k_is)
    (case l_begin => k_is)
    (case co_begin => k_is)
    (case k_begin => k_is)
    (case g_edit => k_is)
    (case l_edit => k_is)
    (case co_edit => k_is)
    (case k_edit => k_is)
    (case g_move => k_is)
    (case l_move => k_is)
    (case co_move => k_is)
    (case k_move => k_is)
    (case g_undo => k_is)
    (case l_undo => k_is)
    (case co_undo => k_is)
    (case k_undo => k_is)
    (case g_redo => k_is)
    (case l_redo => k_is)
    (case co_redo => k_is)
    (case k_redo => k_is)
    (case g_tree => k_is)
    (case l_tree => k_is)
    (case co_tree => k_is)
    (case k_tree => k_is)
    (case g_words => k_is)
    (case l_words => k_is)
    (case co_words => k_is)
    (case k_words => k_is)
    (case g_want_name => k_is)
    (case l_want_name => k_is)
    (case co_want_name => k_is)
    (case k_want_name => k_is)
    (case g_node => k_is)
    (case l_node => k_is)
    (case co_node => k_is)
    (case k_node => k_is)
    (case g_at => k_is)
    (case l_at => k_is)
    (case co_at => k_is)
    (case k_at => k_is)
    (case g_mark => k_is)
    (case l_mark => k_is)
    (case co_mark => k_is)
    (case k_mark => k_is)
    (case g_marks => k_is)
    (case l_marks => k_is)
    (case co_marks => k_is)
    (case k_marks => k_is)
    (case g_taken_apart => k_is)
    (case l_taken_apart => k_is)
    (case co_taken_apart => k_is)
    (case k_taken_apart => k_is)
    (case g_told_of => k_is)
    (case l_told_of => k_is)
    (case co_told_of => k_is)
    (case k_told_of => k_is)
    (case g_Keeper_init => k_is)
    (case i_Keeper_init => k_is)
    (case l_Keeper_init => k_is)
    (case co_Keeper_init => k_is)
    (case k_Keeper_init => k_is)
    (case g_Keeper_answer => k_is)
    (case i_Keeper_answer => k_is)
    (case l_Keeper_answer => k_is)
    (case co_Keeper_answer => k_is)
    (case k_Keeper_answer => k_is)
    (case g_answers => k_is)
    (case l_answers => k_is)
    (case co_answers => k_is)
    (case k_answers => k_is)
    (case pg_Grammar => k_is)
    (case hd_Grammar => k_is)
    (case po_Grammar => k_is)
    (case sa_Grammar => k_is)
    (case mk_Grammar => k_is)
    (case kc_Grammar => k_is)
    (case na_Grammar_words => k_is)
    (case na_Grammar_parts => k_is)
    (case na_Grammar_rules => k_is)
    (case pg_Ends => k_is)
    (case hd_Ends => k_is)
    (case po_Ends => k_is)
    (case sa_Ends => k_is)
    (case mk_Ends => k_is)
    (case kc_Ends => k_is)
    (case na_Ends_grammar => k_is)
    (case na_Ends_text => k_is)
    (case na_Ends_of_parts => k_is)
    (case na_Ends_of_rests => k_is)
    (case pg_Tree => k_is)
    (case hd_Tree => k_is)
    (case po_Tree => k_is)
    (case sa_Tree => k_is)
    (case mk_Tree => k_is)
    (case kc_Tree => k_is)
    (case na_Tree_listed => k_is)
    (case na_Tree_nodes => k_is)
    (case pg_House => k_is)
    (case hd_House => k_is)
    (case po_House => k_is)
    (case sa_House => k_is)
    (case mk_House => k_is)
    (case kc_House => k_is)
    (case na_House_grammar => k_is)
    (case na_House_text => k_is)
    (case na_House_next_word => k_is)
    (case na_House_names => k_is)
    (case na_House_marks => k_is)
    (case na_House_elder => k_is)
    (case na_House_later => k_is)
    (case na_House_tree => k_is)
    (case na_House_order => k_is)
    (case pg_Keeper => k_is)
    (case hd_Keeper => k_is)
    (case po_Keeper => k_is)
    (case sa_Keeper => k_is)
    (case mk_Keeper => k_is)
    (case kc_Keeper => k_is)
    (case na_Keeper_house => k_is)
    (case xL => k_is)
    (case saX => k_is)
    (case gaX => k_is)
    (case ggX => k_is)
    (case nnX => k_is)
    (case tyX => k_is)
    (case kX => k_is)
    (case eX => k_is)
    (case tX => k_is)
    (case hX => k_is)
    (case iX => k_is)
    (case sX => first | rfl | k_is)
    (case vX => k_is)
    (case w_SIZES => k_is)
    (case w_WITH_LIST => k_is)
    (case d_BY_NONE => k_is)
    (case s_BY_NONE => first | rfl | decide)
    (case hh_BY_NONE => first | exact ⟨rfl, rfl, rfl, rfl, rfl⟩ | decide)
    (case d_BY_ONE => k_is)
    (case s_BY_ONE => first | rfl | decide)
    (case hh_BY_ONE => first | rfl | decide)
    (case d_BY_TWO => k_is)
    (case s_BY_TWO => first | rfl | decide)
    (case hh_BY_TWO => first | exact ⟨rfl, rfl⟩ | decide)
    (case d_BY_THREE => k_is)
    (case s_BY_THREE => first | rfl | decide)
    (case hh_BY_THREE => first | exact ⟨rfl, rfl⟩ | decide)
  case S =>
    intro K H xs a hO hwi hask hx
    cases hx with
    | cons h1 h2 =>
      cases h2
      cases h1 with
      | lst hs ha =>
        have e := L2.ints_dw a.1 _ ha
        subst e
        have q : ((Codec.inLen 0 16000 a.1 && a.1.all (Codec.inInt 0 18446744073709551615)) && true) = true := hwi
        rw [Bool.and_eq_true, Bool.and_eq_true] at q
        exact Gw.fin_ask hs (fun x hx => (of_decide_eq_true (Bool.and_eq_true_iff.mp (List.all_eq_true.mp q.1.2 x hx)).1)) hask fun H' p hp => .lst (L2.SqL.of hp) (L2.dw_ints _)
#print axioms PySem.Challenge.cw_regrown_s01_answers_holds
