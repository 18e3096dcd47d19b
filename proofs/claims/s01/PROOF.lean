import PyProof.Rows.All
import Kv435Spec
import PyKv435
import Wide.All
import OpenK.AllK
import Wide.FinOn
import PyProof.EqAt
import PyProof.EqKinds
import PyProof.TupleCall
import Open.SpecLaws
import KE.OsGo
import HandS.ForSpec
import HandS.ExcSuper
import HandS.Comp
import HandS.Iter
import HandS.Walk
import KE.KEqSeq
import Kv435Neutral
import HandS.Codes
import PySem.Challenge.RW_gatehours_s01_answers
set_option Elab.async false
/-! Mathematics, part A: sums of the first elements; openLate; the late schedule is feasible and least where there is no infeasible interval. -/
namespace Gh
open Kv435
/-- the element at a place, 0 behind the end -/
def ele (l : List Nat) (i : Nat) : Nat := l.getD i 0
/-- the sum of the first j elements -/
def pre (l : List Nat) (j : Nat) : Nat := (l.take j).sum
theorem pre_zero (l : List Nat) : pre l 0 = 0 := rfl
theorem pre_succ (l : List Nat) (j : Nat) : pre l (j + 1) = pre l j + ele l j := by
  unfold pre ele
  rw [List.take_add_one, List.sum_append]
  rw [List.getD_eq_getElem?_getD]
  cases h : l[j]? with
  | none => simp
  | some v => simp
theorem pre_mono (l : List Nat) {i j : Nat} (h : i ≤ j) : pre l i ≤ pre l j := by
  induction h with
  | refl => exact Nat.le_refl _
  | step _ ih =>
    rw [pre_succ]
    omega
theorem sum_split (l : List Nat) {s t : Nat} (h : s ≤ t + 1) : pre l s + sumBetween l s t = pre l (t + 1) := by
  unfold pre sumBetween
  rw [← List.sum_append, ← List.take_add]
  rw [show s + (t + 1 - s) = t + 1 by omega]
theorem between_nil (l : List Nat) {s t : Nat} (h : t < s) : sumBetween l s t = 0 := by
  unfold sumBetween
  rw [show t + 1 - s = 0 by omega]
  rfl
theorem pre_all (l : List Nat) : pre l l.length = l.sum := by
  unfold pre
  rw [List.take_length]
theorem ele_set {l : List Nat} {i v : Nat} (h : i < l.length) (j : Nat) : ele (l.set i v) j = if j = i then v else ele l j := by
  unfold ele
  rw [List.getD_eq_getElem?_getD, List.getD_eq_getElem?_getD]
  by_cases e : j = i
  · subst e
    rw [if_pos rfl, List.getElem?_set_self h]
    rfl
  · rw [if_neg e, List.getElem?_set_ne (Ne.symm e)]
theorem ele_out {l : List Nat} {i : Nat} (h : l.length ≤ i) : ele l i = 0 := by
  unfold ele
  rw [List.getD_eq_getElem?_getD, List.getElem?_eq_none h]
  rfl
theorem ele_lt {l : List Nat} {i : Nat} (h : i < l.length) : l[i]? = some (ele l i) := by
  unfold ele
  rw [List.getD_eq_getElem?_getD, List.getElem?_eq_getElem h]
  rfl
theorem ele_ext {l r : List Nat} (hl : l.length = r.length) (h : ∀ i, i < l.length → ele l i = ele r i) : l = r := by
  apply List.ext_getElem? fun i => ?_
  by_cases hi : i < l.length
  · rw [ele_lt hi, ele_lt (hl ▸ hi), h i hi]
  · rw [List.getElem?_eq_none (by omega), List.getElem?_eq_none (by omega)]
theorem pre_congr {l r : List Nat} {j : Nat} (h : ∀ i, i < j → ele l i = ele r i) : pre l j = pre r j := by
  induction j with
  | zero => rfl
  | succ j ih =>
    rw [pre_succ, pre_succ, ih fun i hi => h i (by omega), h j (by omega)]
/-- what openLate leaves: g before, r behind, from minute m back for f minutes, x needed, M the limit -/
structure Late (M : Nat) (g r : List Nat) (m f x : Nat) : Prop where
  len : r.length = g.length
  up : ∀ i, ele g i ≤ ele r i
  most : (∀ i, ele g i ≤ M) → ∀ i, ele r i ≤ M
  above : ∀ i, m < i → ele r i = ele g i
  below : ∀ i, i + f ≤ m → ele r i = ele g i
  sum : pre r (m + 1) ≤ pre g (m + 1) + x
  full : pre r (m + 1) = pre g (m + 1) + x ∨ ∀ i, i ≤ m → m < i + f → M ≤ ele r i
  late : ∀ i, i ≤ m → ele r i = ele g i ∨ ∀ j, i < j → j ≤ m → M ≤ ele r j
theorem late_none (M : Nat) (g : List Nat) (m f : Nat) : Late M g g m f 0 :=
  ⟨rfl, fun _ => Nat.le_refl _, fun h => h, fun _ _ => rfl, fun _ _ => rfl, Nat.le_refl _, Or.inl rfl, fun _ _ => Or.inl rfl⟩
theorem pre_set {g : List Nat} {i x : Nat} (h : i < g.length) (j : Nat) : pre (g.set i (ele g i + x)) j = pre g j + if i < j then x else 0 := by
  induction j with
  | zero => simp [pre_zero]
  | succ j ih =>
    rw [pre_succ, pre_succ, ih, ele_set h]
    by_cases e : j = i
    · subst e
      rw [if_pos rfl, if_neg (by omega), if_pos (by omega)]
      omega
    · rw [if_neg e]
      by_cases e2 : i < j
      · rw [if_pos e2, if_pos (by omega)]
        omega
      · rw [if_neg e2, if_neg (by omega)]
        omega
theorem openLate_zero (M : Nat) (f : Nat) (g : List Nat) (m : Nat) : openLate M f g m 0 = g := by
  cases f with
  | zero => rfl
  | succ f => rfl
theorem openLate_late (M : Nat) : ∀ (f m : Nat) (g : List Nat) (x : Nat), m < g.length → f ≤ m + 1 → Late M g (openLate M f g m x) m f x
  | 0, m, g, x, hm, hf => by
    show Late M g g m 0 x
    exact ⟨rfl, fun _ => Nat.le_refl _, fun h => h, fun _ _ => rfl, fun _ _ => rfl, Nat.le_add_right _ _, Or.inr fun i h1 h2 => by omega, fun _ _ => Or.inl rfl⟩
  | f + 1, m, g, 0, hm, hf => by
    show Late M g g m (f + 1) 0
    exact late_none M g m (f + 1)
  | f + 1, m, g, x + 1, hm, hf => by
    have e : openLate M (f + 1) g m (x + 1) = (if m = 0 then g.set m (ele g m + min (x + 1) (M - ele g m)) else openLate M f (g.set m (ele g m + min (x + 1) (M - ele g m))) (m - 1) (x + 1 - min (x + 1) (M - ele g m))) := by
      simp only [openLate, ele]
    rw [e]
    generalize hd : min (x + 1) (M - ele g m) = d
    have hd1 : d ≤ x + 1 := by omega
    have hd2 : d ≤ M - ele g m := by omega
    have hd3 : d = x + 1 ∨ d = M - ele g m := by omega
    have em := ele_set (v := ele g m + d) hm
    have pm := pre_set (x := d) hm
    by_cases h0 : m = 0
    · rw [if_pos h0]
      refine ⟨List.length_set, fun i => ?_, fun h i => ?_, fun i hi => ?_, fun i hi => ?_, ?_, ?_, fun i hi => ?_⟩
      · rw [em]
        by_cases z : i = m
        · rw [if_pos z, z]
          omega
        · rw [if_neg z]
          exact Nat.le_refl _
      · rw [em]
        by_cases z : i = m
        · rw [if_pos z]
          have := h m
          omega
        · rw [if_neg z]
          exact h i
      · rw [em, if_neg (by omega)]
      · rw [em, if_neg (by omega)]
      · rw [pm, if_pos (by omega)]
        omega
      · rcases hd3 with z | z
        · left
          rw [pm, if_pos (by omega)]
          omega
        · right
          intro i hi _
          rw [em, if_pos (by omega)]
          omega
      · right
        intro j h1 h2
        omega
    · rw [if_neg h0]
      by_cases y : d = x + 1
      · rw [show x + 1 - d = 0 by omega, openLate_zero]
        refine ⟨List.length_set, fun i => ?_, fun h i => ?_, fun i hi => ?_, fun i hi => ?_, ?_, ?_, fun i hi => ?_⟩
        · rw [em]
          by_cases z : i = m
          · rw [if_pos z, z]
            omega
          · rw [if_neg z]
            exact Nat.le_refl _
        · rw [em]
          by_cases z : i = m
          · rw [if_pos z]
            have := h m
            omega
          · rw [if_neg z]
            exact h i
        · rw [em, if_neg (by omega)]
        · rw [em, if_neg (by omega)]
        · rw [pm, if_pos (by omega)]
          omega
        · left
          rw [pm, if_pos (by omega)]
          omega
        · by_cases w : i = m
          · right
            intro j h1 h2
            omega
          · left
            rw [em, if_neg w]
      have hd4 : d = M - ele g m := by omega
      have ih := openLate_late M f (m - 1) (g.set m (ele g m + d)) (x + 1 - d) (by rw [List.length_set]; omega) (by omega)
      generalize openLate M f (g.set m (ele g m + d)) (m - 1) (x + 1 - d) = r at ih
      obtain ⟨i1, i2, i3, i4, i5, i6, i7, i8⟩ := ih
      have er : ele r m = ele g m + d := by
        rw [i4 m (by omega), em, if_pos rfl]
      have e1 : m - 1 + 1 = m := by omega
      rw [e1] at i6 i7
      have pmm := pm m
      rw [if_neg (by omega)] at pmm
      refine ⟨by rw [i1, List.length_set], fun i => ?_, fun h i => ?_, fun i hi => ?_, fun i hi => ?_, ?_, ?_, fun i hi => ?_⟩
      · have q := i2 i
        rw [em] at q
        by_cases z : i = m
        · rw [z, er]
          omega
        · rw [if_neg z] at q
          exact q
      · refine i3 (fun k => ?_) i
        rw [em]
        by_cases z : k = m
        · rw [if_pos z]
          have := h m
          omega
        · rw [if_neg z]
          exact h k
      · rw [i4 i (by omega), em, if_neg (by omega)]
      · rw [i5 i (by omega), em, if_neg (by omega)]
      · rw [pre_succ, pre_succ, er]
        omega
      · rcases i7 with z | z
        · left
          rw [pre_succ, pre_succ, er]
          omega
        · right
          intro i h1 h2
          by_cases w : i = m
          · rw [w, er]
            omega
          · exact z i (by omega) (by omega)
      · by_cases w : i = m
        · right
          intro j h1 h2
          omega
        · rcases i8 i (by omega) with z | z
          · left
            rw [z, em, if_neg w]
          · right
            intro j h1 h2
            by_cases v : j = m
            · rw [v, er]
              omega
            · exact z j h1 (by omega)

theorem pre_up {g r : List Nat} (h : ∀ i, ele g i ≤ ele r i) {a b : Nat} (hab : a ≤ b) : pre g b + pre r a ≤ pre r b + pre g a := by
  induction hab with
  | refl => omega
  | step _ ih =>
    rename_i b _
    rw [pre_succ, pre_succ]
    have := h b
    omega
theorem pre_full {r : List Nat} {M a : Nat} : ∀ (k : Nat), (∀ i, a ≤ i → i < a + k → M ≤ ele r i) → pre r a + M * k ≤ pre r (a + k)
  | 0, _ => by simp
  | k + 1, h => by
    have ih := pre_full k fun i h1 h2 => h i h1 (by omega)
    have q := h (a + k) (by omega) (by omega)
    rw [show a + (k + 1) = a + k + 1 by omega, pre_succ, Nat.mul_succ]
    omega
theorem pre_most {r : List Nat} {M a : Nat} (h : ∀ i, ele r i ≤ M) : ∀ (k : Nat), pre r (a + k) ≤ pre r a + M * k
  | 0 => by simp
  | k + 1 => by
    have ih := pre_most (a := a) h k
    have q := h (a + k)
    rw [show a + (k + 1) = a + k + 1 by omega, pre_succ, Nat.mul_succ]
    omega
theorem Late.keeps {M m f x : Nat} {g r : List Nat} (h : Late M g r m f x) {j : Nat} (hj : j + f ≤ m + 1) : pre r j = pre g j :=
  pre_congr fun i hi => h.below i (by omega)
theorem Late.tail {M m f x : Nat} {g r : List Nat} (h : Late M g r m f x) {j : Nat} (hj : j ≤ m + 1) : pre r j = pre g j ∨ pre r j + M * (m + 1 - j) ≤ pre r (m + 1) := by
  by_cases c : ∀ i, i < j → ele r i = ele g i
  · exact Or.inl (pre_congr c)
  · right
    have ⟨i, hi⟩ := Classical.not_forall.mp c
    have ⟨h1, h2⟩ := Classical.not_imp.mp hi
    rcases h.late i (by omega) with z | z
    · exact absurd z h2
    · have q := pre_full (r := r) (M := M) (a := j) (m + 1 - j) fun k hk1 hk2 => z k (by omega) (by omega)
      rw [show j + (m + 1 - j) = m + 1 by omega] at q
      exact q
/-- the fewest gate-minutes for those of minutes s to t -/
def need (e : Entrance) (s t : Nat) : Nat := divideUp (sumBetween e.arrivals s t) e.perGate
/-- P tells the sums of the first elements of a feasible schedule -/
structure Fits (e : Entrance) (P : Nat → Nat) : Prop where
  zero : P 0 = 0
  up : ∀ j, j < e.scheduleLength → P j ≤ P (j + 1)
  most : ∀ j, j < e.scheduleLength → P (j + 1) ≤ P j + e.maxGates
  need : ∀ s t, s ≤ t → t < e.minutes → P s + need e s t ≤ P (t + e.maxWait + 1)
theorem fits_most {e : Entrance} {P : Nat → Nat} (h : Fits e P) {a : Nat} : ∀ k, a + k ≤ e.scheduleLength → P (a + k) ≤ P a + e.maxGates * k
  | 0, _ => by simp
  | k + 1, hk => by
    have ih := fits_most (a := a) h k (by omega)
    have q := h.most (a + k) (by omega)
    rw [show a + (k + 1) = a + k + 1 by omega, Nat.mul_succ]
    omega
theorem fits_up {e : Entrance} {P : Nat → Nat} (h : Fits e P) {a : Nat} : ∀ k, a + k ≤ e.scheduleLength → P a ≤ P (a + k)
  | 0, _ => Nat.le_refl _
  | k + 1, hk => by
    have ih := fits_up (a := a) h k (by omega)
    have q := h.up (a + k) (by omega)
    rw [show a + (k + 1) = a + k + 1 by omega]
    omega
theorem length_of {e : Entrance} {t : Nat} (h : t < e.minutes) : e.scheduleLength = e.minutes + e.maxWait := by
  unfold Entrance.scheduleLength
  rw [if_neg (by omega)]
structure Stage (e : Entrance) (g : List Nat) (t k : Nat) : Prop where
  len : g.length = e.scheduleLength
  most : ∀ i, ele g i ≤ e.maxGates
  zero : ∀ i, t + e.maxWait < i → ele g i = 0
  done : ∀ s u, s ≤ u → u < e.minutes → (u < t ∨ u = t ∧ t < s + k) → pre g s + need e s u ≤ pre g (u + e.maxWait + 1)
  least : ∀ P, Fits e P → ∀ j, j ≤ e.scheduleLength → pre g j ≤ P j
/-- no interval asks for more than all gates give -/
def Roomy (e : Entrance) : Prop := ∀ s t, s ≤ t → t < e.minutes → need e s t ≤ e.maxGates * (t + e.maxWait + 1 - s)
theorem pre_behind {g : List Nat} {a : Nat} (h : ∀ i, a ≤ i → ele g i = 0) : ∀ k, pre g (a + k) = pre g a
  | 0 => rfl
  | k + 1 => by
    rw [show a + (k + 1) = a + k + 1 by omega, pre_succ, pre_behind h k, h (a + k) (by omega)]
    rfl
theorem stage_next {e : Entrance} (R : Roomy e) {g : List Nat} {t k : Nat} (ht : t < e.minutes) (hk : k ≤ t) (S : Stage e g t k) :
    Stage e (openLate e.maxGates (t + e.maxWait + 1 - (t - k)) g (t + e.maxWait) (e.missing g t (t - k))) t (k + 1) := by
  have hL := length_of ht
  have L := openLate_late e.maxGates (t + e.maxWait + 1 - (t - k)) (t + e.maxWait) g (e.missing g t (t - k)) (by rw [S.len, hL]; omega) (by omega)
  generalize hs : t - k = s at L ⊢
  have hst : s ≤ t := by omega
  have hx : e.missing g t s = need e s t - sumBetween g s (t + e.maxWait) := rfl
  have hb := sum_split g (s := s) (t := t + e.maxWait) (by omega)
  generalize hX : e.missing g t s = x at L ⊢
  rw [hx] at hX
  generalize openLate e.maxGates (t + e.maxWait + 1 - s) g (t + e.maxWait) x = r at L ⊢
  have hr := R s t hst ht
  have ks : pre r s = pre g s := L.keeps (by omega)
  have zr : ∀ i, t + e.maxWait + 1 ≤ i → ele r i = 0 := fun i hi => by
    rw [L.above i (by omega), S.zero i (by omega)]
  have zg : ∀ i, t + e.maxWait + 1 ≤ i → ele g i = 0 := fun i hi => S.zero i (by omega)
  refine ⟨by rw [L.len, S.len], L.most S.most, fun i hi => zr i (by omega), fun a u hau hu hc => ?_, fun P F j hj => ?_⟩
  · by_cases c : u < t ∨ u = t ∧ t < a + k
    · have q := S.done a u hau hu c
      have v := pre_up L.up (a := a) (b := u + e.maxWait + 1) (by omega)
      omega
    · have e1 : u = t := by omega
      have e2 : a = s := by omega
      subst e1 e2
      rcases L.full with z | z
      · omega
      · have q := pre_full (r := r) (M := e.maxGates) (a := a) (u + e.maxWait + 1 - a) fun i h1 h2 => z i (by omega) (by omega)
        rw [show a + (u + e.maxWait + 1 - a) = u + e.maxWait + 1 by omega] at q
        omega
  · -- least
    have top : pre r (t + e.maxWait + 1) ≤ P (t + e.maxWait + 1) := by
      have a1 := L.sum
      have a2 := S.least P F s (by omega)
      have a3 := S.least P F (t + e.maxWait + 1) (by omega)
      have a4 := F.need s t hst ht
      omega
    by_cases c : j ≤ t + e.maxWait + 1
    · rcases L.tail c with z | z
      · rw [z]
        exact S.least P F j hj
      · have q := fits_most F (a := j) (t + e.maxWait + 1 - j) (by omega)
        rw [show j + (t + e.maxWait + 1 - j) = t + e.maxWait + 1 by omega] at q
        omega
    · have b1 := pre_behind zr (j - (t + e.maxWait + 1))
      rw [show t + e.maxWait + 1 + (j - (t + e.maxWait + 1)) = j by omega] at b1
      have b2 := fits_up F (a := t + e.maxWait + 1) (j - (t + e.maxWait + 1)) (by omega)
      rw [show t + e.maxWait + 1 + (j - (t + e.maxWait + 1)) = j by omega] at b2
      omega
theorem stage_until {e : Entrance} (R : Roomy e) {g : List Nat} {t : Nat} (ht : t < e.minutes) (S : Stage e g t 0) : Stage e (e.serveUntil t g) t (t + 1) := by
  unfold Entrance.serveUntil
  have go : ∀ k, k ≤ t + 1 → Stage e ((List.range k).foldl (fun gates k => openLate e.maxGates (t + e.maxWait + 1 - (t - k)) gates (t + e.maxWait) (e.missing gates t (t - k))) g) t k := by
    intro k
    induction k with
    | zero => exact fun _ => S
    | succ k ih =>
      intro hk
      rw [List.range_succ, List.foldl_append]
      exact stage_next R ht (by omega) (ih (by omega))
  exact go (t + 1) (Nat.le_refl _)
theorem stage_up {e : Entrance} {g : List Nat} {t : Nat} (S : Stage e g t (t + 1)) : Stage e g (t + 1) 0 :=
  ⟨S.len, S.most, fun i hi => S.zero i (by omega), fun s u h1 h2 h3 => S.done s u h1 h2 (by omega), S.least⟩
theorem ele_zeros (n i : Nat) : ele (List.replicate n 0) i = 0 := by
  unfold ele
  rw [List.getD_eq_getElem?_getD, List.getElem?_replicate]
  by_cases h : i < n
  · rw [if_pos h]
    rfl
  · rw [if_neg h]
    rfl
theorem pre_zeros (n j : Nat) : pre (List.replicate n 0) j = 0 := by
  induction j with
  | zero => rfl
  | succ j ih => rw [pre_succ, ih, ele_zeros]
theorem stage_zero (e : Entrance) : Stage e (List.replicate e.scheduleLength 0) 0 0 :=
  ⟨List.length_replicate, fun i => by rw [ele_zeros]; exact Nat.zero_le _, fun i _ => ele_zeros _ _, fun s u h1 h2 h3 => by omega, fun P _ j _ => by rw [pre_zeros]; exact Nat.zero_le _⟩
theorem stage_all {e : Entrance} (R : Roomy e) : ∀ k, k ≤ e.minutes → Stage e ((List.range k).foldl (fun gates t => e.serveUntil t gates) (List.replicate e.scheduleLength 0)) k 0
  | 0, _ => stage_zero e
  | k + 1, hk => by
    rw [List.range_succ, List.foldl_append]
    exact stage_up (stage_until R (by omega) (stage_all R k (by omega)))
/-- the late schedule where no interval is infeasible: it fits, and is least -/
theorem late_stage {e : Entrance} (R : Roomy e) : Stage e e.lateSchedule e.minutes 0 := stage_all R e.minutes (Nat.le_refl _)
theorem late_fits {e : Entrance} (R : Roomy e) : Fits e (pre e.lateSchedule) := by
  have S := late_stage R
  refine ⟨rfl, fun j _ => pre_mono _ (Nat.le_succ j), fun j _ => ?_, fun s t h1 h2 => S.done s t h1 h2 (Or.inl h2)⟩
  rw [pre_succ]
  have := S.most j
  omega
/-! ### feasible -/
theorem divideUp_le {n d x : Nat} (hd : 1 ≤ d) : divideUp n d ≤ x ↔ n ≤ d * x := by
  unfold divideUp
  constructor
  · intro h
    have q := Nat.div_add_mod (n + (d - 1)) d
    have r := Nat.mod_lt (n + (d - 1)) (show 0 < d by omega)
    have m := Nat.mul_le_mul_left d h
    omega
  · intro h
    rw [← Nat.lt_succ_iff, Nat.div_lt_iff_lt_mul (by omega), Nat.succ_mul, Nat.mul_comm x d]
    omega
theorem all_ele {l : List Nat} {M : Nat} : (l.all fun g => decide (g ≤ M)) = true ↔ ∀ i, ele l i ≤ M := by
  rw [List.all_eq_true]
  constructor
  · intro h i
    by_cases hi : i < l.length
    · have q := h (ele l i) (List.mem_of_getElem? (ele_lt hi))
      exact of_decide_eq_true q
    · rw [ele_out (by omega)]
      exact Nat.zero_le _
  · intro h x hx
    obtain ⟨i, hi, rfl⟩ := List.getElem_of_mem hx
    have q := h i
    have v := ele_lt hi
    rw [List.getElem?_eq_getElem hi] at v
    rw [Option.some.inj v]
    exact decide_eq_true q
theorem feasible_iff {e : Entrance} (hp : 1 ≤ e.perGate) {g : List Nat} : e.isFeasible g = true ↔ g.length = e.scheduleLength ∧ Fits e (pre g) := by
  unfold Entrance.isFeasible
  rw [Bool.and_eq_true, Bool.and_eq_true, beq_iff_eq, all_ele, List.all_eq_true]
  constructor
  · rintro ⟨⟨h1, h2⟩, h3⟩
    refine ⟨h1, rfl, fun j _ => pre_mono _ (Nat.le_succ j), fun j _ => ?_, fun s t hst ht => ?_⟩
    · rw [pre_succ]
      have := h2 j
      omega
    · have q := h3 t (List.mem_range.mpr ht)
      rw [List.all_eq_true] at q
      have v := of_decide_eq_true (q s (List.mem_range.mpr (by omega)))
      have w := (divideUp_le hp).mpr v
      have z := sum_split g (s := s) (t := t + e.maxWait) (by omega)
      show pre g s + divideUp (sumBetween e.arrivals s t) e.perGate ≤ _
      omega
  · rintro ⟨h1, F⟩
    refine ⟨⟨h1, fun i => ?_⟩, fun t ht => ?_⟩
    · by_cases hi : i < g.length
      · have q := F.most i (by omega)
        rw [pre_succ] at q
        omega
      · rw [ele_out (by omega)]
        exact Nat.zero_le _
    · rw [List.all_eq_true]
      intro s hs
      rw [List.mem_range] at ht hs
      apply decide_eq_true
      have q := F.need s t (by omega) ht
      have z := sum_split g (s := s) (t := t + e.maxWait) (by omega)
      exact (divideUp_le hp).mp (show divideUp (sumBetween e.arrivals s t) e.perGate ≤ _ by unfold need at q; omega)
theorem roomy_of {e : Entrance} {P : Nat → Nat} (F : Fits e P) : Roomy e := fun s t hst ht => by
  have q := F.need s t hst ht
  have hL := length_of ht
  have v := fits_most F (a := s) (t + e.maxWait + 1 - s) (by omega)
  rw [show s + (t + e.maxWait + 1 - s) = t + e.maxWait + 1 by omega] at v
  omega
theorem possible_iff {e : Entrance} (hp : 1 ≤ e.perGate) : e.isPossible = true ↔ Roomy e := by
  unfold Entrance.isPossible
  rw [feasible_iff hp]
  constructor
  · exact fun h => roomy_of h.2
  · exact fun R => ⟨(late_stage R).len, late_fits R⟩
theorem interval_none {e : Entrance} (hp : 1 ≤ e.perGate) : e.infeasibleInterval = none ↔ Roomy e := by
  unfold Entrance.infeasibleInterval
  rw [List.findSome?_eq_none_iff]
  constructor
  · intro h s t hst ht
    have q := h t (List.mem_range.mpr ht)
    rw [Option.map_eq_none_iff, List.find?_eq_none] at q
    have v := q s (List.mem_range.mpr (by omega))
    rw [decide_eq_true_eq] at v
    exact (divideUp_le hp).mpr (by omega)
  · intro R t ht
    rw [Option.map_eq_none_iff, List.find?_eq_none]
    intro s hs
    rw [List.mem_range] at ht hs
    rw [decide_eq_true_eq]
    have q := (divideUp_le hp).mp (R s t (by omega) ht)
    omega
theorem possible_eq {e : Entrance} (hp : 1 ≤ e.perGate) : e.isPossible = e.infeasibleInterval.isNone := by
  apply Bool.eq_iff_iff.mpr
  rw [possible_iff hp, Option.isNone_iff_eq_none, interval_none hp]
end Gh

set_option Elab.async false
set_option linter.unusedVariables false
/-! Mathematics, part B: raising sums by all rules, length + 1 times, gives the least sums. -/
namespace Gh
open Kv435
def relax (i j a b : Nat) (f : List Nat) : List Nat := f.set j (max (ele f j) (ele f i + a - b))
abbrev Rule := Nat × Nat × Nat × Nat
def relaxR (f : List Nat) (r : Rule) : List Nat := relax r.1 r.2.1 r.2.2.1 r.2.2.2 f
theorem relax_len (i j a b : Nat) (f : List Nat) : (relax i j a b f).length = f.length := List.length_set
theorem relax_up (i j a b : Nat) (f : List Nat) (k : Nat) : ele f k ≤ ele (relax i j a b f) k := by
  unfold relax
  by_cases h : j < f.length
  · rw [ele_set h]
    by_cases e : k = j
    · rw [if_pos e, e]
      exact Nat.le_max_left _ _
    · rw [if_neg e]
      exact Nat.le_refl _
  · rw [List.set_eq_of_length_le (by omega)]
    exact Nat.le_refl _
theorem relax_at {i j a b : Nat} {f : List Nat} (h : j < f.length) : ele f i + a - b ≤ ele (relax i j a b f) j := by
  unfold relax
  rw [ele_set h, if_pos rfl]
  exact Nat.le_max_right _ _
theorem relax_most {i j a b : Nat} {f : List Nat} {U : Nat → Nat} (hU : ∀ k, ele f k ≤ U k) (hr : U i + a - b ≤ U j) (k : Nat) : ele (relax i j a b f) k ≤ U k := by
  unfold relax
  by_cases h : j < f.length
  · rw [ele_set h]
    by_cases e : k = j
    · rw [if_pos e, e]
      have := hU i
      exact Nat.max_le.mpr ⟨hU j, by omega⟩
    · rw [if_neg e]
      exact hU k
  · rw [List.set_eq_of_length_le (by omega)]
    exact hU k
theorem run_len : ∀ (rs : List Rule) (f : List Nat), (rs.foldl relaxR f).length = f.length
  | [], _ => rfl
  | r :: rs, f => by
    rw [List.foldl_cons, run_len rs]
    exact relax_len _ _ _ _ _
theorem run_up : ∀ (rs : List Rule) (f : List Nat) (k : Nat), ele f k ≤ ele (rs.foldl relaxR f) k
  | [], _, _ => Nat.le_refl _
  | r :: rs, f, k => Nat.le_trans (relax_up _ _ _ _ _ _) (run_up rs _ k)
theorem run_at : ∀ (rs : List Rule) (f : List Nat), (∀ r ∈ rs, r.2.1 < f.length) → ∀ r ∈ rs, ele f r.1 + r.2.2.1 - r.2.2.2 ≤ ele (rs.foldl relaxR f) r.2.1
  | [], _, _, r, hr => by simp at hr
  | q :: rs, f, h, r, hr => by
    rw [List.foldl_cons]
    rcases List.mem_cons.mp hr with e | e
    · subst e
      exact Nat.le_trans (relax_at (h r List.mem_cons_self)) (run_up rs _ _)
    · have ih := run_at rs (relaxR f q) (fun r hr => by rw [relaxR, relax_len]; exact h r (List.mem_cons_of_mem _ hr)) r e
      have u := relax_up q.1 q.2.1 q.2.2.1 q.2.2.2 f r.1
      have u' : ele f r.1 ≤ ele (relaxR f q) r.1 := u
      omega
theorem run_most {U : Nat → Nat} : ∀ (rs : List Rule) (f : List Nat), (∀ k, ele f k ≤ U k) → (∀ r ∈ rs, U r.1 + r.2.2.1 - r.2.2.2 ≤ U r.2.1) → ∀ k, ele (rs.foldl relaxR f) k ≤ U k
  | [], _, h, _, k => h k
  | q :: rs, f, h, hr, k => run_most rs _ (fun k => relax_most h (hr q List.mem_cons_self) k) (fun r e => hr r (List.mem_cons_of_mem _ e)) k
/-! ### the rules of a case -/
def loop1 (e : Entrance) (f : List Nat) : List Nat := (List.range e.minutes).foldl (fun f t => (List.range (t + 1)).foldl (fun f s => relax s (t + e.maxWait + 1) (need e s t) 0 f) f) f
def loop2 (f : List Nat) : List Nat := (List.range (f.length - 1)).foldl (fun f i => relax i (i + 1) 0 0 f) f
def loop3 (M : Nat) (f : List Nat) : List Nat := (List.range (f.length - 1)).foldl (fun g i => relax (f.length - 1 - i) (f.length - 1 - i - 1) 0 M g) f
def raisedM (e : Entrance) (f : List Nat) : List Nat := loop3 e.maxGates (loop2 (loop1 e f))
def leastM (e : Entrance) : List Nat := (List.range (e.scheduleLength + 1)).foldl (fun f _ => raisedM e f) (List.replicate (e.scheduleLength + 1) 0)
def rules1 (e : Entrance) : List Rule := (List.range e.minutes).flatMap fun t => (List.range (t + 1)).map fun s => (s, t + e.maxWait + 1, need e s t, 0)
def rules2 (L : Nat) : List Rule := (List.range L).map fun i => (i, i + 1, 0, 0)
def rules3 (M L : Nat) : List Rule := (List.range L).map fun i => (L - i, L - i - 1, 0, M)
def rules (e : Entrance) : List Rule := rules1 e ++ (rules2 e.scheduleLength ++ rules3 e.maxGates e.scheduleLength)
theorem loop1_eq (e : Entrance) (f : List Nat) : loop1 e f = (rules1 e).foldl relaxR f := by
  unfold loop1 rules1
  rw [List.foldl_flatMap]
  congr
  funext f t
  rw [List.foldl_map]
  rfl
theorem loop2_eq {L : Nat} {f : List Nat} (h : f.length = L + 1) : loop2 f = (rules2 L).foldl relaxR f := by
  unfold loop2 rules2
  rw [List.foldl_map, h]
  rfl
theorem loop3_eq {M L : Nat} {f : List Nat} (h : f.length = L + 1) : loop3 M f = (rules3 M L).foldl relaxR f := by
  unfold loop3 rules3
  rw [List.foldl_map, h]
  rfl
theorem raised_eq {e : Entrance} {f : List Nat} (h : f.length = e.scheduleLength + 1) : raisedM e f = (rules e).foldl relaxR f := by
  unfold raisedM rules
  rw [List.foldl_append, List.foldl_append, ← loop1_eq]
  have h1 : (loop1 e f).length = e.scheduleLength + 1 := by rw [loop1_eq, run_len, h]
  rw [← loop2_eq h1]
  have h2 : (loop2 (loop1 e f)).length = e.scheduleLength + 1 := by rw [loop2_eq h1, run_len, h1]
  rw [loop3_eq h2]
theorem raised_len {e : Entrance} {f : List Nat} (h : f.length = e.scheduleLength + 1) : (raisedM e f).length = e.scheduleLength + 1 := by
  rw [raised_eq h, run_len, h]
/-- what the rules say of any sums -/
theorem rules_iff {e : Entrance} {U : Nat → Nat} : (∀ r ∈ rules e, U r.1 + r.2.2.1 - r.2.2.2 ≤ U r.2.1) ↔
    (∀ s t, s ≤ t → t < e.minutes → U s + need e s t ≤ U (t + e.maxWait + 1)) ∧ (∀ j, j < e.scheduleLength → U j ≤ U (j + 1)) ∧ (∀ j, j < e.scheduleLength → U (j + 1) ≤ U j + e.maxGates) := by
  unfold rules rules1 rules2 rules3
  constructor
  · intro h
    refine ⟨fun s t hst ht => ?_, fun j hj => ?_, fun j hj => ?_⟩
    · have q := h (s, t + e.maxWait + 1, need e s t, 0) (List.mem_append_left _ (List.mem_flatMap.mpr ⟨t, List.mem_range.mpr ht, List.mem_map.mpr ⟨s, List.mem_range.mpr (by omega), rfl⟩⟩))
      exact q
    · have q := h (j, j + 1, 0, 0) (List.mem_append_right _ (List.mem_append_left _ (List.mem_map.mpr ⟨j, List.mem_range.mpr hj, rfl⟩)))
      exact q
    · have q := h (e.scheduleLength - (e.scheduleLength - 1 - j), e.scheduleLength - (e.scheduleLength - 1 - j) - 1, 0, e.maxGates)
        (List.mem_append_right _ (List.mem_append_right _ (List.mem_map.mpr ⟨e.scheduleLength - 1 - j, List.mem_range.mpr (by omega), rfl⟩)))
      rw [show e.scheduleLength - (e.scheduleLength - 1 - j) - 1 = j by omega, show e.scheduleLength - (e.scheduleLength - 1 - j) = j + 1 by omega] at q
      have q' : U (j + 1) + 0 - e.maxGates ≤ U j := q
      omega
  · rintro ⟨h1, h2, h3⟩ r hr
    rcases List.mem_append.mp hr with hr | hr
    · obtain ⟨t, ht, hr⟩ := List.mem_flatMap.mp hr
      obtain ⟨s, hs, rfl⟩ := List.mem_map.mp hr
      rw [List.mem_range] at ht hs
      exact h1 s t (by omega) ht
    · rcases List.mem_append.mp hr with hr | hr
      · obtain ⟨i, hi, rfl⟩ := List.mem_map.mp hr
        rw [List.mem_range] at hi
        exact h2 i hi
      · obtain ⟨i, hi, rfl⟩ := List.mem_map.mp hr
        rw [List.mem_range] at hi
        have q := h3 (e.scheduleLength - i - 1) (by omega)
        rw [show e.scheduleLength - i - 1 + 1 = e.scheduleLength - i by omega] at q
        show U (e.scheduleLength - i) + 0 - e.maxGates ≤ U (e.scheduleLength - i - 1)
        omega
theorem rules_in {e : Entrance} : ∀ r ∈ rules e, r.1 ≤ e.scheduleLength ∧ r.2.1 ≤ e.scheduleLength := by
  unfold rules rules1 rules2 rules3
  intro r hr
  rcases List.mem_append.mp hr with hr | hr
  · obtain ⟨t, ht, hr⟩ := List.mem_flatMap.mp hr
    obtain ⟨s, hs, rfl⟩ := List.mem_map.mp hr
    rw [List.mem_range] at ht hs
    have := length_of ht
    exact ⟨by show s ≤ _; omega, by show t + e.maxWait + 1 ≤ _; omega⟩
  · rcases List.mem_append.mp hr with hr | hr
    · obtain ⟨i, hi, rfl⟩ := List.mem_map.mp hr
      rw [List.mem_range] at hi
      exact ⟨by show i ≤ _; omega, by show i + 1 ≤ _; omega⟩
    · obtain ⟨i, hi, rfl⟩ := List.mem_map.mp hr
      rw [List.mem_range] at hi
      exact ⟨by show e.scheduleLength - i ≤ _; omega, by show e.scheduleLength - i - 1 ≤ _; omega⟩
/-! ### one round brings one place more to its least value -/
theorem one_more {e : Entrance} {U : Nat → Nat} (F : Fits e U) (least : ∀ P, Fits e P → ∀ j, j ≤ e.scheduleLength → U j ≤ P j) {f : List Nat} (hf : f.length = e.scheduleLength + 1) (hU : ∀ k, k ≤ e.scheduleLength → ele f k ≤ U k)
    (hn : ∃ j, j ≤ e.scheduleLength ∧ ele f j < U j) : ∃ j, j ≤ e.scheduleLength ∧ ele f j < U j ∧ U j ≤ ele ((rules e).foldl relaxR f) j := by
  apply Classical.byContradiction
  intro hno
  have hno' : ∀ j, j ≤ e.scheduleLength → ele f j < U j → ele ((rules e).foldl relaxR f) j < U j := fun j h1 h2 => by
    apply Classical.byContradiction
    intro h3
    exact hno ⟨j, h1, h2, by omega⟩
  have hr := rules_iff.mpr ⟨F.need, F.up, F.most⟩
  have hat := run_at (rules e) f fun r hr => by
    have := (rules_in r hr).2
    omega
  have hP : ∀ r ∈ rules e, (fun j => if ele f j < U j then U j - 1 else U j) r.1 + r.2.2.1 - r.2.2.2 ≤ (fun j => if ele f j < U j then U j - 1 else U j) r.2.1 := by
    intro r h
    have q1 := hr r h
    have q2 := hat r h
    have q3 := rules_in r h
    obtain ⟨i, j, a, b⟩ := r
    dsimp only at q1 q2 q3 ⊢
    by_cases cj : ele f j < U j
    · have q4 := hno' j q3.2 cj
      rw [if_pos cj]
      by_cases ci : ele f i < U i
      · rw [if_pos ci]
        omega
      · rw [if_neg ci]
        have := hU i q3.1
        omega
    · rw [if_neg cj]
      by_cases ci : ele f i < U i
      · rw [if_pos ci]
        omega
      · rw [if_neg ci]
        exact q1
  obtain ⟨p1, p2, p3⟩ := (rules_iff (e := e) (U := fun j => if ele f j < U j then U j - 1 else U j)).mp hP
  have z : Fits e (fun j => if ele f j < U j then U j - 1 else U j) := ⟨by
    show (if ele f 0 < U 0 then U 0 - 1 else U 0) = 0
    rw [F.zero]
    split <;> rfl, p2, p3, p1⟩
  obtain ⟨j, hj, hlt⟩ := hn
  have q := least _ z j hj
  have q' : U j ≤ if ele f j < U j then U j - 1 else U j := q
  rw [if_pos hlt] at q'
  omega
/-- how many places are short -/
def short (U : Nat → Nat) (f : List Nat) (n : Nat) : Nat := ((List.range n).filter fun j => decide (ele f j < U j)).length
theorem short_succ (U : Nat → Nat) (f : List Nat) (n : Nat) : short U f (n + 1) = short U f n + if ele f n < U n then 1 else 0 := by
  unfold short
  rw [List.range_succ, List.filter_append, List.length_append]
  by_cases h : ele f n < U n
  · rw [if_pos h, List.filter_cons_of_pos (by exact decide_eq_true h)]
    rfl
  · rw [if_neg h, List.filter_cons_of_neg (by rw [decide_eq_true_eq]; exact h)]
    rfl
theorem short_le (U : Nat → Nat) (f : List Nat) : ∀ n, short U f n ≤ n
  | 0 => Nat.le_refl _
  | n + 1 => by
    rw [short_succ]
    have := short_le U f n
    split <;> omega
theorem short_mono {U : Nat → Nat} {f g : List Nat} (h : ∀ k, ele f k ≤ ele g k) : ∀ n, short U g n ≤ short U f n
  | 0 => Nat.le_refl _
  | n + 1 => by
    rw [short_succ, short_succ]
    have := short_mono (U := U) h n
    have := h n
    split <;> split <;> omega
theorem short_less {U : Nat → Nat} {f g : List Nat} (h : ∀ k, ele f k ≤ ele g k) {j : Nat} (h1 : ele f j < U j) (h2 : U j ≤ ele g j) : ∀ n, j < n → short U g n < short U f n
  | 0, hj => by omega
  | n + 1, hj => by
    rw [short_succ, short_succ]
    by_cases e : j = n
    · subst e
      have := short_mono (U := U) h j
      rw [if_pos h1, if_neg (by omega)]
      omega
    · have := short_less h h1 h2 n (by omega)
      have := h n
      split <;> split <;> omega
theorem short_zero {U : Nat → Nat} {f : List Nat} : ∀ n, short U f n = 0 → ∀ j, j < n → U j ≤ ele f j
  | 0, _, j, hj => by omega
  | n + 1, h, j, hj => by
    rw [short_succ] at h
    by_cases e : j = n
    · subst e
      split at h <;> omega
    · exact short_zero n (by omega) j (by omega)
theorem leastM_spec {e : Entrance} {U : Nat → Nat} (F : Fits e U) (least : ∀ P, Fits e P → ∀ j, j ≤ e.scheduleLength → U j ≤ P j) :
    (leastM e).length = e.scheduleLength + 1 ∧ ∀ j, j ≤ e.scheduleLength → ele (leastM e) j = U j := by
  have hr := rules_iff.mpr ⟨F.need, F.up, F.most⟩
  -- the bound of all places: U to the end, then anything
  have go : ∀ k, ((List.range k).foldl (fun f _ => raisedM e f) (List.replicate (e.scheduleLength + 1) 0)).length = e.scheduleLength + 1 ∧
      (∀ j, j ≤ e.scheduleLength → ele ((List.range k).foldl (fun f _ => raisedM e f) (List.replicate (e.scheduleLength + 1) 0)) j ≤ U j) ∧
      (short U ((List.range k).foldl (fun f _ => raisedM e f) (List.replicate (e.scheduleLength + 1) 0)) (e.scheduleLength + 1) + k ≤ e.scheduleLength + 1 ∨
        short U ((List.range k).foldl (fun f _ => raisedM e f) (List.replicate (e.scheduleLength + 1) 0)) (e.scheduleLength + 1) = 0) := by
    intro k
    induction k with
    | zero =>
      refine ⟨List.length_replicate, fun j _ => ?_, Or.inl (short_le _ _ _)⟩
      show ele (List.replicate (e.scheduleLength + 1) 0) j ≤ U j
      rw [ele_zeros]
      exact Nat.zero_le _
    | succ k ih =>
      rw [List.range_succ, List.foldl_append]
      generalize (List.range k).foldl (fun f _ => raisedM e f) (List.replicate (e.scheduleLength + 1) 0) = f at ih ⊢
      obtain ⟨h1, h2, h3⟩ := ih
      show (raisedM e f).length = _ ∧ (∀ j, j ≤ e.scheduleLength → ele (raisedM e f) j ≤ U j) ∧ (short U (raisedM e f) (e.scheduleLength + 1) + (k + 1) ≤ _ ∨ short U (raisedM e f) (e.scheduleLength + 1) = 0)
      rw [raised_eq h1]
      have up := run_up (rules e) f
      have hU' : ∀ k, ele f k ≤ (fun j => if j ≤ e.scheduleLength then U j else 0) k := fun k => by
        show ele f k ≤ if k ≤ e.scheduleLength then U k else 0
        by_cases hk : k ≤ e.scheduleLength
        · rw [if_pos hk]
          exact h2 k hk
        · rw [ele_out (by omega)]
          exact Nat.zero_le _
      have most := run_most (rules e) f hU' fun r hr' => by
        have q := rules_in r hr'
        show (if r.1 ≤ e.scheduleLength then U r.1 else 0) + r.2.2.1 - r.2.2.2 ≤ if r.2.1 ≤ e.scheduleLength then U r.2.1 else 0
        rw [if_pos q.1, if_pos q.2]
        exact hr r hr'
      refine ⟨by rw [run_len, h1], fun j hj => ?_, ?_⟩
      · have q := most j
        have q' : ele ((rules e).foldl relaxR f) j ≤ if j ≤ e.scheduleLength then U j else 0 := q
        rw [if_pos hj] at q'
        exact q'
      · have mono := short_mono (U := U) up (e.scheduleLength + 1)
        by_cases z : short U f (e.scheduleLength + 1) = 0
        · right
          omega
        · have hn : ∃ j, j ≤ e.scheduleLength ∧ ele f j < U j := by
            apply Classical.byContradiction
            intro hno
            apply z
            have all : ∀ n, n ≤ e.scheduleLength + 1 → short U f n = 0 := by
              intro n
              induction n with
              | zero => exact fun _ => rfl
              | succ n ih =>
                intro hn
                rw [short_succ, ih (by omega), if_neg]
                intro hlt
                exact hno ⟨n, by omega, hlt⟩
            exact all _ (Nat.le_refl _)
          obtain ⟨j, hj, l1, l2⟩ := one_more F least h1 h2 hn
          have less := short_less up l1 l2 (e.scheduleLength + 1) (by omega)
          omega
  obtain ⟨g1, g2, g3⟩ := go (e.scheduleLength + 1)
  refine ⟨g1, fun j hj => Nat.le_antisymm (g2 j hj) ?_⟩
  have z : short U (leastM e) (e.scheduleLength + 1) = 0 := by
    unfold leastM
    omega
  exact short_zero _ z j (by omega)
/-! ### the best schedule -/
def diffs (l : List Nat) : List Nat := (List.range (l.length - 1)).map fun i => ele l (i + 1) - ele l i
theorem diffs_eq {g f : List Nat} (hf : f.length = g.length + 1) (h : ∀ j, j ≤ g.length → ele f j = pre g j) : diffs f = g := by
  apply ele_ext
  · unfold diffs
    rw [List.length_map, List.length_range]
    omega
  · intro i hi
    unfold diffs at hi ⊢
    rw [List.length_map, List.length_range] at hi
    have q : ele ((List.range (f.length - 1)).map fun i => ele f (i + 1) - ele f i) i = ele f (i + 1) - ele f i := by
      unfold ele
      rw [List.getD_eq_getElem?_getD, List.getElem?_map, List.getElem?_range hi]
      rfl
    rw [q, h _ (by omega), h _ (by omega), pre_succ]
    omega
/-- what the program gives for the best schedule -/
def bestM (e : Entrance) : Option (List Nat) := if e.infeasibleInterval.isNone then some (diffs (leastM e)) else none
theorem best_eq {e : Entrance} (hp : 1 ≤ e.perGate) : bestM e = e.bestSchedule := by
  unfold bestM Entrance.bestSchedule
  rw [possible_eq hp]
  by_cases h : e.infeasibleInterval.isNone = true
  · rw [if_pos h, if_pos h]
    have R : Roomy e := (interval_none hp).mp (Option.isNone_iff_eq_none.mp h)
    have S := late_stage R
    obtain ⟨l1, l2⟩ := leastM_spec (late_fits R) S.least
    rw [diffs_eq (g := e.lateSchedule) (by rw [l1, S.len]) fun j hj => l2 j (by rw [S.len] at hj; exact hj)]
  · rw [if_neg h, if_neg h]
/-- sums never fall, so that no difference is below 0 -/
theorem least_up {e : Entrance} (hp : 1 ≤ e.perGate) (h : e.infeasibleInterval = none) : (leastM e).length = e.scheduleLength + 1 ∧ ∀ i, i < e.scheduleLength → ele (leastM e) i ≤ ele (leastM e) (i + 1) := by
  have R : Roomy e := (interval_none hp).mp h
  obtain ⟨l1, l2⟩ := leastM_spec (late_fits R) (late_stage R).least
  refine ⟨l1, fun i hi => ?_⟩
  rw [l2 i (by omega), l2 (i + 1) (by omega)]
  exact pre_mono _ (Nat.le_succ i)
end Gh

set_option Elab.async false
set_option linter.unusedVariables false
/-! Mathematics, part C: admissions, queues, the longest wait; searches over ranges. -/
namespace Gh
open Kv435
/-! ### searches over ranges -/
theorem range_find {n i : Nat} {p : Nat → Bool} (hi : i < n) (hp : p i = true) (hn : ∀ j, j < i → p j = false) : (List.range n).find? p = some i := by
  rw [List.find?_range_eq_some]
  refine ⟨hp, List.mem_range.mpr hi, fun j hj => ?_⟩
  rw [hn j hj]
  rfl
theorem range_none {n : Nat} {p : Nat → Bool} (hn : ∀ j, j < n → p j = false) : (List.range n).find? p = none := by
  rw [List.find?_eq_none]
  intro x hx
  rw [hn x (List.mem_range.mp hx)]
  exact Bool.false_ne_true
theorem range_some {β : Type} {n i : Nat} {f : Nat → Option β} {b : β} (hi : i < n) (hp : f i = some b) (hn : ∀ j, j < i → f j = none) : (List.range n).findSome? f = some b := by
  induction n with
  | zero => omega
  | succ n ih =>
    rw [List.range_succ, List.findSome?_append]
    by_cases c : i < n
    · rw [ih c]
      rfl
    · have e : i = n := by omega
      subst e
      have z : (List.range i).findSome? f = none := by
        rw [List.findSome?_eq_none_iff]
        intro x hx
        exact hn x (List.mem_range.mp hx)
      rw [z]
      show List.findSome? f [i] = some b
      rw [List.findSome?_cons, hp]
/-- the test of an interval -/
def badAt (e : Entrance) (s t : Nat) : Bool := decide (e.perGate * (e.maxGates * (t + e.maxWait + 1 - s)) < sumBetween e.arrivals s t)
theorem interval_some {e : Entrance} {s t : Nat} (ht : t < e.minutes) (hs : s ≤ t) (hb : badAt e s t = true) (h1 : ∀ a, a < s → badAt e a t = false) (h2 : ∀ u, u < t → ∀ a, a ≤ u → badAt e a u = false) :
    e.infeasibleInterval = some (s, t) := by
  unfold Entrance.infeasibleInterval
  refine range_some ht ?_ fun u hu => ?_
  · show ((List.range (t + 1)).find? fun s => badAt e s t).map (fun s => (s, t)) = some (s, t)
    rw [range_find (p := fun s => badAt e s t) (i := s) (by omega) hb h1]
    rfl
  · show ((List.range (u + 1)).find? fun s => badAt e s u).map (fun s => (s, u)) = none
    rw [range_none (p := fun s => badAt e s u) fun a ha => h2 u hu a (by omega)]
    rfl
theorem interval_no {e : Entrance} (h2 : ∀ u, u < e.minutes → ∀ a, a ≤ u → badAt e a u = false) : e.infeasibleInterval = none := by
  unfold Entrance.infeasibleInterval
  rw [List.findSome?_eq_none_iff]
  intro u hu
  show ((List.range (u + 1)).find? fun s => badAt e s u).map (fun s => (s, u)) = none
  rw [range_none (p := fun s => badAt e s u) fun a ha => h2 u (List.mem_range.mp hu) a (by omega)]
  rfl
/-- the largest of the first k numbers of which p is true, 0 where there is none -/
def lastOf (p : Nat → Bool) (k : Nat) : Nat := ((List.range k).filter p).getLast?.getD 0
theorem lastOf_succ (p : Nat → Bool) (k : Nat) : lastOf p (k + 1) = if p k = true then k else lastOf p k := by
  unfold lastOf
  rw [List.range_succ, List.filter_append]
  by_cases h : p k = true
  · rw [if_pos h, List.filter_cons_of_pos h, List.filter_nil, List.getLast?_append]
    rfl
  · rw [if_neg h, List.filter_cons_of_neg h, List.filter_nil, List.append_nil]
/-! ### admissions -/
structure Adm where
  queue : Nat
  admitted : List Nat
  waiting : List Nat
def admStep (e : Entrance) (g : List Nat) (s : Adm) (m : Nat) : Adm :=
  ⟨s.queue + ele e.arrivals m - min (s.queue + ele e.arrivals m) (e.perGate * ele g m), s.admitted ++ [min (s.queue + ele e.arrivals m) (e.perGate * ele g m)],
    s.waiting ++ [s.queue + ele e.arrivals m - min (s.queue + ele e.arrivals m) (e.perGate * ele g m)]⟩
def admM (e : Entrance) (g : List Nat) (k : Nat) : Adm := (List.range k).foldl (admStep e g) ⟨0, [], []⟩
theorem admM_succ (e : Entrance) (g : List Nat) (k : Nat) : admM e g (k + 1) = admStep e g (admM e g k) k := by
  unfold admM
  rw [List.range_succ, List.foldl_append]
  rfl
theorem adm_spec (e : Entrance) (g : List Nat) : ∀ k, (List.range k).foldl (fun (state : Nat × List Nat) minute =>
    let waiting := state.1 + e.arrivals.getD minute 0
    let served := min waiting (e.perGate * g.getD minute 0)
    (waiting - served, state.2 ++ [served])) (0, []) = ((admM e g k).queue, (admM e g k).admitted)
  | 0 => rfl
  | k + 1 => by
    rw [List.range_succ, List.foldl_append, adm_spec e g k, admM_succ]
    rfl
theorem admitted_eq (e : Entrance) (g : List Nat) : e.admitted g = (admM e g e.scheduleLength).admitted := by
  unfold Entrance.admitted
  rw [adm_spec]
theorem adm_len (e : Entrance) (g : List Nat) : ∀ k, (admM e g k).admitted.length = k ∧ (admM e g k).waiting.length = k
  | 0 => ⟨rfl, rfl⟩
  | k + 1 => by
    have ih := adm_len e g k
    rw [admM_succ]
    unfold admStep
    dsimp only
    rw [List.length_append, List.length_append, ih.1, ih.2]
    exact ⟨rfl, rfl⟩
theorem pre_append {l r : List Nat} {j : Nat} (h : j ≤ l.length) : pre (l ++ r) j = pre l j := by
  unfold pre
  rw [List.take_append_of_le_length h]
theorem ele_append {l r : List Nat} {j : Nat} (h : j < l.length) : ele (l ++ r) j = ele l j := by
  unfold ele
  rw [List.getD_eq_getElem?_getD, List.getD_eq_getElem?_getD, List.getElem?_append_left h]
theorem ele_behind (l : List Nat) (x : Nat) : ele (l ++ [x]) l.length = x := by
  unfold ele
  rw [List.getD_eq_getElem?_getD, List.getElem?_append_right (Nat.le_refl _), Nat.sub_self]
  rfl
theorem pre_long {l : List Nat} {j : Nat} (h : l.length ≤ j) : pre l j = pre l l.length := by
  unfold pre
  rw [List.take_of_length_le h, List.take_length]
theorem adm_sum (e : Entrance) (g : List Nat) : ∀ k, pre (admM e g k).admitted k + (admM e g k).queue = pre e.arrivals k
  | 0 => rfl
  | k + 1 => by
    have ih := adm_sum e g k
    have l := (adm_len e g k).1
    rw [admM_succ]
    unfold admStep
    dsimp only
    rw [pre_succ, pre_append (by omega), pre_succ]
    have q := ele_behind (admM e g k).admitted (min ((admM e g k).queue + ele e.arrivals k) (e.perGate * ele g k))
    rw [l] at q
    rw [q]
    omega
theorem adm_pre (e : Entrance) (g : List Nat) {j : Nat} : ∀ k, j ≤ k → pre (admM e g k).admitted j = pre (admM e g j).admitted j
  | 0, h => by
    have : j = 0 := by omega
    subst this
    rfl
  | k + 1, h => by
    by_cases c : j = k + 1
    · subst c
      rfl
    · rw [← adm_pre e g k (by omega), admM_succ]
      have l := (adm_len e g k).1
      unfold admStep
      dsimp only
      exact pre_append (by omega)
theorem adm_most (e : Entrance) (g : List Nat) {j k : Nat} (h : j ≤ k) : pre (admM e g k).admitted j ≤ pre e.arrivals j := by
  rw [adm_pre e g k h]
  have := adm_sum e g j
  omega
theorem adm_wait (e : Entrance) (g : List Nat) {j : Nat} : ∀ k, j < k → ele (admM e g k).waiting j = pre e.arrivals (j + 1) - pre (admM e g (j + 1)).admitted (j + 1)
  | 0, h => by omega
  | k + 1, h => by
    have l := (adm_len e g k).2
    by_cases c : j = k
    · subst c
      have s := adm_sum e g (j + 1)
      rw [admM_succ] at s ⊢
      unfold admStep at s ⊢
      dsimp only at s ⊢
      have q := ele_behind (admM e g j).waiting ((admM e g j).queue + ele e.arrivals j - min ((admM e g j).queue + ele e.arrivals j) (e.perGate * ele g j))
      rw [l] at q
      rw [q]
      omega
    · rw [← adm_wait e g k (by omega), admM_succ]
      unfold admStep
      dsimp only
      exact ele_append (by omega)
theorem waiting_eq (e : Entrance) (g : List Nat) : e.queueLengths g = (admM e g e.scheduleLength).waiting := by
  apply ele_ext
  · unfold Entrance.queueLengths
    rw [List.length_map, List.length_range, (adm_len e g _).2]
  · intro i hi
    unfold Entrance.queueLengths at hi ⊢
    rw [List.length_map, List.length_range] at hi
    rw [adm_wait e g _ hi]
    have q : ele ((List.range e.scheduleLength).map fun m => sumBetween e.arrivals 0 m - sumBetween (e.admitted g) 0 m) i = sumBetween e.arrivals 0 i - sumBetween (e.admitted g) 0 i := by
      unfold ele
      rw [List.getD_eq_getElem?_getD, List.getElem?_map, List.getElem?_range hi]
      rfl
    have a1 := sum_split e.arrivals (s := 0) (t := i) (by omega)
    have a2 := sum_split (e.admitted g) (s := 0) (t := i) (by omega)
    rw [pre_zero, Nat.zero_add] at a1 a2
    rw [q, a1, a2, admitted_eq, adm_pre e g _ (show i + 1 ≤ e.scheduleLength by omega)]
/-- the last of those who wait -/
theorem wait_last (e : Entrance) (g : List Nat) (k : Nat) : (admM e g (k + 1)).waiting[k]? = some (admM e g (k + 1)).queue := by
  have l := (adm_len e g k).2
  rw [admM_succ]
  unfold admStep
  dsimp only
  rw [List.getElem?_append_right (by omega), l, Nat.sub_self]
  rfl
/-! ### the longest wait -/
/-- the first minute at whose end so many are admitted -/
def minAdm (adm : List Nat) (people : Nat) : Nat := ((List.range adm.length).find? fun m => decide (people ≤ pre adm (m + 1))).getD adm.length
theorem minAdm_found {adm : List Nat} {people i : Nat} (hi : i < adm.length) (hp : people ≤ pre adm (i + 1)) (hn : ∀ j, j < i → pre adm (j + 1) < people) : minAdm adm people = i := by
  unfold minAdm
  rw [range_find (p := fun m => decide (people ≤ pre adm (m + 1))) (i := i) hi (decide_eq_true hp) fun j hj => decide_eq_false (by have := hn j hj; omega)]
  rfl
theorem minAdm_none {adm : List Nat} {people : Nat} (hn : ∀ j, j < adm.length → pre adm (j + 1) < people) : minAdm adm people = adm.length := by
  unfold minAdm
  rw [range_none (p := fun m => decide (people ≤ pre adm (m + 1))) fun j hj => decide_eq_false (by have := hn j hj; omega)]
  rfl
def longStep (e : Entrance) (adm : List Nat) (longest t : Nat) : Nat := if 0 < ele e.arrivals t then max longest (minAdm adm (pre e.arrivals (t + 1)) - t) else longest
def longM (e : Entrance) (adm : List Nat) (k : Nat) : Nat := (List.range k).foldl (longStep e adm) 0
theorem longM_succ (e : Entrance) (adm : List Nat) (k : Nat) : longM e adm (k + 1) = longStep e adm (longM e adm k) k := by
  unfold longM
  rw [List.range_succ, List.foldl_append]
  rfl
theorem minutes_le (e : Entrance) : e.minutes ≤ e.scheduleLength := by
  unfold Entrance.scheduleLength
  split <;> omega
theorem long_spec (e : Entrance) (g : List Nat) : ∀ k, k ≤ e.minutes →
    (List.range k).foldl (fun longest t =>
      if e.arrivals.getD t 0 = 0 then longest else
      match longest, (List.range e.scheduleLength).find? fun m => decide (t ≤ m) && decide (sumBetween e.arrivals 0 t ≤ sumBetween (e.admitted g) 0 m) with
      | some w, some m => some (max w (m - t))
      | _, _ => none) (some 0) =
    if pre e.arrivals k ≤ pre (e.admitted g) e.scheduleLength then some (longM e (e.admitted g) k) else none
  | 0, _ => by
    rw [pre_zero, if_pos (Nat.zero_le _)]
    rfl
  | k + 1, hk => by
    have ih := long_spec e g k (by omega)
    have hL := minutes_le e
    rw [List.range_succ, List.foldl_append, ih]
    generalize hA : e.admitted g = adm
    have hlen : adm.length = e.scheduleLength := by rw [← hA, admitted_eq, (adm_len e g _).1]
    have hmost : ∀ j, j ≤ e.scheduleLength → pre adm j ≤ pre e.arrivals j := fun j hj => by
      rw [← hA, admitted_eq]
      exact adm_most e g hj
    rw [longM_succ]
    unfold longStep
    show (if ele e.arrivals k = 0 then _ else _) = _
    by_cases h0 : ele e.arrivals k = 0
    · rw [if_pos h0, if_neg (show ¬ 0 < ele e.arrivals k by omega), pre_succ, h0]
      rfl
    · rw [if_neg h0, if_pos (show 0 < ele e.arrivals k by omega)]
      have a1 : sumBetween e.arrivals 0 k = pre e.arrivals (k + 1) := by
        have q := sum_split e.arrivals (s := 0) (t := k) (by omega)
        rw [pre_zero, Nat.zero_add] at q
        exact q
      have pk := pre_succ e.arrivals k
      by_cases c : pre e.arrivals (k + 1) ≤ pre adm e.scheduleLength
      · -- found
        rw [if_pos c, if_pos (show pre e.arrivals k ≤ pre adm e.scheduleLength by omega)]
        have hex : ∃ i, i < e.scheduleLength ∧ pre e.arrivals (k + 1) ≤ pre adm (i + 1) ∧ ∀ j, j < i → pre adm (j + 1) < pre e.arrivals (k + 1) := by
          have : ∀ n, n ≤ e.scheduleLength → pre e.arrivals (k + 1) ≤ pre adm n → ∃ i, i < n ∧ pre e.arrivals (k + 1) ≤ pre adm (i + 1) ∧ ∀ j, j < i → pre adm (j + 1) < pre e.arrivals (k + 1) := by
            intro n
            induction n with
            | zero =>
              intro _ z
              rw [pre_zero] at z
              omega
            | succ n ihn =>
              intro hn z
              by_cases y : pre e.arrivals (k + 1) ≤ pre adm n
              · obtain ⟨i, i1, i2, i3⟩ := ihn (by omega) y
                exact ⟨i, by omega, i2, i3⟩
              · refine ⟨n, by omega, z, fun j hj => ?_⟩
                have := pre_mono adm (show j + 1 ≤ n by omega)
                omega
          exact this _ (Nat.le_refl _) c
        obtain ⟨i, i1, i2, i3⟩ := hex
        have him : k ≤ i := by
          apply Classical.byContradiction
          intro hlt
          have q1 := hmost (i + 1) (by omega)
          have q2 := pre_mono e.arrivals (show i + 1 ≤ k by omega)
          omega
        have f1 : (List.range e.scheduleLength).find? (fun m => decide (k ≤ m) && decide (sumBetween e.arrivals 0 k ≤ sumBetween adm 0 m)) = some i := by
          refine range_find i1 ?_ fun j hj => ?_
          · have b1 : sumBetween adm 0 i = pre adm (i + 1) := by
              have q := sum_split adm (s := 0) (t := i) (by omega)
              rw [pre_zero, Nat.zero_add] at q
              exact q
            rw [decide_eq_true him, a1, b1, decide_eq_true i2]
            rfl
          · have b1 : sumBetween adm 0 j = pre adm (j + 1) := by
              have q := sum_split adm (s := 0) (t := j) (by omega)
              rw [pre_zero, Nat.zero_add] at q
              exact q
            rw [a1, b1, decide_eq_false (by have := i3 j hj; omega : ¬ pre e.arrivals (k + 1) ≤ pre adm (j + 1)), Bool.and_false]
        have f2 : minAdm adm (pre e.arrivals (k + 1)) = i := minAdm_found (by omega) i2 i3
        rw [f1, f2]
      · rw [if_neg c]
        have f1 : (List.range e.scheduleLength).find? (fun m => decide (k ≤ m) && decide (sumBetween e.arrivals 0 k ≤ sumBetween adm 0 m)) = none := by
          refine range_none fun j hj => ?_
          have b1 : sumBetween adm 0 j = pre adm (j + 1) := by
            have q := sum_split adm (s := 0) (t := j) (by omega)
            rw [pre_zero, Nat.zero_add] at q
            exact q
          have := pre_mono adm (show j + 1 ≤ e.scheduleLength by omega)
          rw [a1, b1, decide_eq_false (by omega : ¬ pre e.arrivals (k + 1) ≤ pre adm (j + 1)), Bool.and_false]
        rw [f1]
        split <;> first | rfl | contradiction
theorem longest_eq (e : Entrance) (g : List Nat) : e.longestWait g = if (admM e g e.scheduleLength).queue = 0 then some (longM e (admM e g e.scheduleLength).admitted e.minutes) else none := by
  refine (long_spec e g e.minutes (Nat.le_refl _)).trans ?_
  rw [admitted_eq]
  have s := adm_sum e g e.scheduleLength
  have p : pre e.arrivals e.scheduleLength = pre e.arrivals e.minutes := pre_long (minutes_le e)
  by_cases c : (admM e g e.scheduleLength).queue = 0
  · rw [if_pos c, if_pos (by omega)]
  · rw [if_neg c, if_neg (by omega)]
end Gh

set_option Elab.async false
set_option linter.unusedVariables false
set_option maxRecDepth 10000
/-! Mathematics, part D: the list of calls, one call at a time. -/
namespace Gh
/-- natural numbers as whole numbers -/
def iz (l : List Nat) : List Int := l.map fun n => ((n : Nat) : Int)
theorem iz_len (l : List Nat) : (iz l).length = l.length := List.length_map _
theorem iz_drop (l : List Nat) (k : Nat) : iz (l.drop k) = (iz l).drop k := List.map_drop
theorem iz_take (l : List Nat) (k : Nat) : iz (l.take k) = (iz l).take k := List.map_take
theorem iz_nat (l : List Nat) : (iz l).map Int.toNat = l := by
  unfold iz
  rw [List.map_map]
  induction l with
  | nil => rfl
  | cons a r ih =>
    rw [List.map_cons, ih]
    rfl
theorem iz_of {l : List Int} (h : ∀ x ∈ l, 0 ≤ x) : l = iz (l.map Int.toNat) := by
  unfold iz
  rw [List.map_map]
  induction l with
  | nil => rfl
  | cons a r ih =>
    rw [List.map_cons, ← ih fun x hx => h x (List.mem_cons_of_mem _ hx)]
    congr 1
    have := h a List.mem_cons_self
    show a = ((a.toNat : Nat) : Int)
    omega
/-- how many whole numbers each operation has -/
def cntN : List Nat := [3, 1, 2, 0, 1, 1, 1, 0, 0, 0, 0, 0, 0, 0, 0, 0, 0, 0, 2, 1, 1, 2, 0]
theorem shape_in : ∀ c : Nat, c < 23 → PyKv435.shape ((c : Nat) : Int) = some (ele cntN c, if 12 ≤ c ∧ c ≤ 15 then 1 else 0) := by decide +kernel
theorem shape_out {c : Nat} (h : ¬ c < 23) : PyKv435.shape ((c : Nat) : Int) = none := by
  unfold PyKv435.shape
  repeat rw [if_neg (by omega)]
theorem whole_id (c : List (List Int)) : PyKv435.whole c = c := by
  unfold PyKv435.whole
  split <;> rfl
theorem wholes_id (cs : List (List (List Int))) : cs.map PyKv435.whole = cs := by
  induction cs with
  | nil => rfl
  | cons a r ih => rw [List.map_cons, ih, whole_id]
/-- one call -/
inductive OneCall (cl : List Nat) (k : Nat) (call : List (List Int)) : Nat → Prop where
  | plain : ele cl k < 23 → ¬ (12 ≤ ele cl k ∧ ele cl k ≤ 15) → k + 1 + ele cntN (ele cl k) ≤ cl.length → call = [((ele cl k : Nat) : Int) :: iz ((cl.drop (k + 1)).take (ele cntN (ele cl k)))] →
      OneCall cl k call (k + 1 + ele cntN (ele cl k))
  | sched : 12 ≤ ele cl k → ele cl k ≤ 15 → k + 1 < cl.length → k + 2 + ele cl (k + 1) ≤ cl.length → call = [[((ele cl k : Nat) : Int)], iz ((cl.drop (k + 2)).take (ele cl (k + 1)))] →
      OneCall cl k call (k + 2 + ele cl (k + 1))
theorem drop_cons {cl : List Nat} {k : Nat} (h : k < cl.length) : cl.drop k = ele cl k :: cl.drop (k + 1) := by
  rw [List.drop_eq_getElem_cons h]
  congr 1
  have := ele_lt h
  rw [List.getElem?_eq_getElem h] at this
  exact Option.some.inj this
theorem cnt_sched {c : Nat} (h1 : 12 ≤ c) (h2 : c ≤ 15) : ele cntN c = 0 := by
  have : ∀ c : Nat, c < 23 → 12 ≤ c → c ≤ 15 → ele cntN c = 0 := by decide +kernel
  exact this c (by omega) h1 h2
theorem calls_step {cl : List Nat} {k f : Nat} {cs : List (List (List Int))} (hk : k < cl.length) (h : PyFlat.calls PyKv435.shape f (iz (cl.drop k)) = some cs) :
    ∃ (call : List (List Int)) (cs' : List (List (List Int))) (f' k' : Nat), cs = call :: cs' ∧ OneCall cl k call k' ∧ k < k' ∧ k' ≤ cl.length ∧ PyFlat.calls PyKv435.shape f' (iz (cl.drop k')) = some cs' := by
  have e : iz (cl.drop k) = ((ele cl k : Nat) : Int) :: iz (cl.drop (k + 1)) := by
    rw [drop_cons hk]
    rfl
  rw [e] at h
  cases f with
  | zero => cases h
  | succ f =>
    simp only [PyFlat.calls] at h
    have hl : (iz (cl.drop (k + 1))).length = cl.length - (k + 1) := by rw [iz_len, List.length_drop]
    by_cases c23 : ele cl k < 23
    · have hsh := shape_in (ele cl k) c23
      by_cases cs1 : 12 ≤ ele cl k ∧ ele cl k ≤ 15
      · -- a schedule
        rw [if_pos cs1] at hsh
        rw [cnt_sched cs1.1 cs1.2] at hsh
        simp only [PyFlat.call, hsh, Nat.not_lt_zero, if_false, List.drop_zero, List.take_zero] at h
        by_cases h1 : k + 1 < cl.length
        · have e1 : iz (cl.drop (k + 1)) = ((ele cl (k + 1) : Nat) : Int) :: iz (cl.drop (k + 2)) := by
            rw [drop_cons h1]
            rfl
          rw [e1] at h
          simp only [PyFlat.rows, PyFlat.row] at h
          have hl2 : (iz (cl.drop (k + 2))).length = cl.length - (k + 2) := by rw [iz_len, List.length_drop]
          by_cases h2 : k + 2 + ele cl (k + 1) ≤ cl.length
          · rw [if_pos ⟨by omega, by rw [hl2, Int.toNat_natCast]; omega⟩] at h
            simp only [Int.toNat_natCast] at h
            rw [← iz_take, ← iz_drop, List.drop_drop] at h
            cases hr : PyFlat.calls PyKv435.shape f (iz (cl.drop (k + 2 + ele cl (k + 1)))) with
            | none =>
              rw [hr] at h
              cases h
            | some cs' =>
              rw [hr] at h
              refine ⟨_, cs', f, k + 2 + ele cl (k + 1), (Option.some.inj h).symm, .sched cs1.1 cs1.2 h1 h2 rfl, by omega, h2, hr⟩
          · rw [if_neg (by rintro ⟨_, q⟩; rw [hl2, Int.toNat_natCast] at q; omega)] at h
            cases h
        · have e1 : iz (cl.drop (k + 1)) = [] := by
            rw [List.drop_of_length_le (by omega)]
            rfl
          rw [e1] at h
          simp only [PyFlat.rows, PyFlat.row] at h
          cases h
      · rw [if_neg cs1] at hsh
        simp only [PyFlat.call, hsh, PyFlat.rows] at h
        by_cases h1 : k + 1 + ele cntN (ele cl k) ≤ cl.length
        · rw [if_neg (by rw [hl]; omega)] at h
          simp only at h
          rw [← iz_take, ← iz_drop, List.drop_drop] at h
          cases hr : PyFlat.calls PyKv435.shape f (iz (cl.drop (k + 1 + ele cntN (ele cl k)))) with
          | none =>
            rw [hr] at h
            cases h
          | some cs' =>
            rw [hr] at h
            refine ⟨_, cs', f, k + 1 + ele cntN (ele cl k), (Option.some.inj h).symm, .plain c23 cs1 h1 rfl, by omega, h1, hr⟩
        · rw [if_pos (by rw [hl]; omega)] at h
          cases h
    · simp only [PyFlat.call, shape_out c23] at h
      cases h
theorem calls_end {cl : List Nat} {k f : Nat} {cs : List (List (List Int))} (hk : cl.length ≤ k) (h : PyFlat.calls PyKv435.shape f (iz (cl.drop k)) = some cs) : cs = [] := by
  rw [List.drop_of_length_le hk] at h
  have e : iz [] = [] := rfl
  rw [e] at h
  cases f <;> exact (Option.some.inj h).symm
/-- a schedule has no more than twenty elements -/
theorem sched_len {c : Nat} {g : List Nat} (h1 : 12 ≤ c) (h2 : c ≤ 15) (hb : PyInside.call PyKv435.bound [[((c : Nat) : Int)], iz g] = true) : g.length ≤ 20 := by
  have e : PyKv435.bound ((c : Nat) : Int) = ([], [(0, 65535, 0, 20)]) := by
    have z : c = 12 ∨ c = 13 ∨ c = 14 ∨ c = 15 := by omega
    rcases z with rfl | rfl | rfl | rfl <;> rfl
  unfold PyInside.call at hb
  simp only [e, PyInside.each, PyInside.lists, Bool.and_eq_true, decide_eq_true_iff, iz_len] at hb
  exact hb.2.1.1.2
/-- what is asked of a list of calls -/
theorem asked_parts {l : List Int} (h : PyKv435.answers_asked l = true) : ∃ raw, PyFlat.calls PyKv435.shape l.length l = some raw ∧ (∀ c ∈ raw, PyInside.call PyKv435.bound c = true) ∧
    PyKv435.answers l = PyFlat.told (PyFlat.played Kv435Neutral.step Kv435Neutral.start raw) ∧ (PyKv435.answers l).length ≤ 10000000 := by
  unfold PyKv435.answers_asked at h
  cases hr : PyFlat.calls PyKv435.shape l.length l with
  | none =>
    rw [hr] at h
    cases h
  | some raw =>
    rw [hr] at h
    simp only [Bool.and_eq_true] at h
    refine ⟨raw, rfl, fun c hc => ?_, ?_, ?_⟩
    · have q := h.1.1.2
      unfold PyInside.calls at q
      rw [List.all_eq_true] at q
      exact q c hc
    · unfold PyKv435.answers PyKv435.calls
      rw [hr]
      simp only
      rw [wholes_id]
    · have q := h.2
      unfold PyFlat.short at q
      exact of_decide_eq_true q
end Gh

set_option Elab.async false
set_option linter.all false
set_option maxRecDepth 100000
set_option maxHeartbeats 2000000
/-! The class Refusal: an own exception over Exception, whose __init__ calls Exception.__init__(self, "refused") and keeps a code (after guide/skel/42). -/
namespace GhX
open PySem PySem.W PySem.Calls PyProof.Rows PySem.HandSPX
/-! ### the text of __init__, by its place -/
abbrev sI : Stmt := L2.inClass (PySem.Challenge.pw_gatehours_s01_answers.main.body.getD 9 (.Pass ⟨0, 0, 0, 0⟩)) 0
abbrev iA : Arguments := L2.defArgs sI
abbrev iB : List Stmt := L2.defBody sI
abbrev iS : Scope := L2.defScope sI
/-- what the written part says of Refusal, at C, and of its __init__, at fI -/
structure RefTxt (K : Frag) (mg : Str → Option Value) (C fI : Addr) : Prop where
  gC : mg "Refusal" = some (.ref C)
  gE : mg "Exception" = none
  vE : findCls K (.type "Exception") (.type "type") "__init__" = some (.val (.builtin "Exception.__init__"))
  cls : ∃ nm q N bs sn sub ab col dd k0 k1 k2 k3 k5, K.lookup C = some (excClassObj nm q C N bs PySem.ESX.exTail true sn sub ab col dd k0 k1 k2 k3 k5 "Exception.__new__")
  sa : findIn K (.ref C) "__setattr__" = some (some (.builtin "object.__setattr__"))
  ga : findIn K (.ref C) "__getattribute__" = some (some (.builtin "BaseException.__getattribute__"))
  gg : findIn K (.ref C) "__getattr__" = some none
  noN : findIn K (.ref C) "code" = some none
  iC : findIn K (.ref C) "__init__" = some (some (.ref fI))
  tC : typeIn K (.ref fI) = some (.type "function")
  kC : keepIn K (.ref C) = true
  exC : subIn K (.ref C) (.type "BaseException") = some true
  tyC : typeIn K (.ref C) = some (.type "type")
  hdC : hasDictIn K C = true
  te : exmOne K (.ref C) (.ref C) = some true
  fn : ∃ (oc : Value) (od : Option Addr) (doc pm : Value) (an : Option Addr) (cdv ct : Value) (osl : Array (Option Value)),
    K.lookup fI = some ⟨oc, od, .func (fnOf "__init__" "Refusal.__init__" iA iB iS .none .none doc pm an cdv ct), osl⟩ ∧ codeIn K cdv "Refusal.__init__" = true
theorem one_size (v : Value) : [v].length ≤ sizeLine := by
  rw [sizeLine_eq]
  exact (by decide : 1 ≤ 16777216)
theorem kept_but {K : Frag} {h h' : Heap} {x : Addr} (X : K.In h) (hx : K.lookup x = none) (k : ∀ b o, b ≠ x → h.get? b = some o → h'.get? b = some o) : K.In h' := fun a o e =>
  k a o (fun z => by rw [z, hx] at e; cases e) (X a o e)
theorem ldC {M : Model} {s : Shared} {name : Str} {scope : Scope} {L a : Addr} {cd : Value} {m : Str → Option Value} {x : Str} {pos : Pos} {v : Value} {Q : Value → Shared → Prop} {A : Around} {E : Value → Shared → Prop} (hn : s.heap.Ns L m) (hv : m x = some v) (h : Q v s)
    (hk : scope.kind = .function := by rfl) (hl : (envOfC name scope L a cd).kindOf x = some .local := by rfl) (hd : (x == ("__debug__" : Str)) = false := by decide) :
    wpAny M A (eval (.Name x pos) (envOfC name scope L a cd)) Q E s := wpAny_Name (wpAny_loadName_local hk hl hn hv h) hd
theorem typ_ex : typeOf (.type "Exception") = pure (.type "type") := by kernel_rfl
/-- what __init__ leaves of a fresh exception at x -/
structure InitEnd (h h' : Heap) (x C dx : Addr) (v : Value) : Prop where
  keep : ∀ b o, b ≠ x → h.get? b = some o → h'.get? b = some o
  obj : ∃ t1 : Addr, h'.get? x = some { cls := .ref C, dict := some dx, data := .fields #[.ref t1, .none, .none, .none, .bool false, .none] }
  dbig : h.objs.size ≤ dx
  dne : dx ≠ x
  ns : h'.Ns1 dx (fun y => if y = "code" then some v else none)
/-- a made Refusal -/
structure OwnMade (h h' : Heap) (e C d : Addr) (v : Value) : Prop where
  keep : ∀ b o, h.get? b = some o → h'.get? b = some o
  new : h.objs.size ≤ e
  obj : ∃ oe vs, h'.get? e = some oe ∧ oe.cls = .ref C ∧ oe.dict = some d ∧ oe.data = .fields vs ∧ vs[1]? = some .none
  dbig : h.objs.size ≤ d
  dne : d ≠ e
  ns : h'.Ns1 d (fun y => if y = "code" then some v else none)
/-- the module's names in a heap -/
structure Names0 (h : Heap) (mg : Str → Option Value) : Prop where
  glob : h.Ns mainGlobals mg
  blt : ∃ mb, h.Ns builtinsNs mb ∧ mb "Exception" = some (.type "Exception")
theorem Names0.keeps {h h' : Heap} {mg : Str → Option Value} (x : Names0 h mg) (k : ∀ b o, h.get? b = some o → h'.get? b = some o) : Names0 h' mg :=
  ⟨x.glob.keeps k, let ⟨mb, a, b⟩ := x.blt; ⟨mb, a.keeps k, b⟩⟩
section
variable {prog : Program} {w : World} {A : Around} {E : Value → Shared → Prop} {R : Result → Shared → Prop} {s : Shared} {K : Frag} {mg : Str → Option Value} {C fI : Addr}
theorem ref_init (T : RefTxt K mg C fI) {x t0 : Addr} {v : Value} (X : K.In s.heap) (hlim : s.heap.NoLimit) (G : Names0 s.heap mg) (hx : s.heap.get? x = some (excO C t0)) (hnx : K.lookup x = none) (hroom : A.depth < recursionLimit)
    (hq : ∀ h' tk dx, InitEnd s.heap h' x C dx v → R (.ok (.ret .none)) { s with heap := h', toks := tk }) :
    codeAny (model prog w) A (.call (.ref fI) ⟨[.ref x, v], []⟩) R s := by
  obtain ⟨oc, od, doc, pm, an, cdv, ct, osl, ho, hcd⟩ := T.fn
  obtain ⟨nm, q, N, bs, sn, sub, ab, col, dd, k0, k1, k2, k3, k5, hC⟩ := T.cls
  have hcl : clsIn K C = some { name := nm, bases := bs, mro := .ref C :: PySem.ESX.exTail, ns := N, qualname := q, hasDict := true, slotNames := sn, subclasses := sub, abstract := ab, collection := col, hasDel := false } := by unfold clsIn; rw [hC] <;> rfl
  refine Att.call_fn (binds := [("self", .ref x), ("code", v)]) X hlim ho hcd hroom (BindsTo.of_eq (by first | rfl | with_unfolding_all rfl)) (by first | rfl | decide | with_unfolding_all rfl) (fun s₁ IC => ?_) rfl rfl rfl
  obtain ⟨h₁, tk₁, rfl⟩ := IC.toInCall.same
  have k : ∀ b o, s.heap.get? b = some o → h₁.get? b = some o := IC.toInCall.keep
  have hn := IC.toInCall.ns
  have hxL : s.heap.objs.size ≠ x := Nat.ne_of_gt (Heap.lt_size hx)
  have X₁ : K.In h₁ := X.keeps k
  have hx₁ := k _ _ hx
  have G₁ := G.keeps k
  obtain ⟨mb, hb, hbE⟩ := G₁.blt
  -- Exception.__init__(self, "refused")
  show wpAny _ _ (execs _ _) _ _ _
  refine wpAny_execs_cons (wpAny_Expr_any ?_)
  refine methodCall_KW (Name_function_global rfl (by first | rfl | with_unfolding_all rfl) (loadGlobal_builtin G₁.glob T.gE hb hbE ?_))
  refine method_type (h₀ := s.heap) ⟨hn, k, Nat.le_refl _⟩ X typ_ex (by decide +kernel) T.vE (by decide +kernel) ?_
  refine callWith_method1 (spliced_more (ldC (v := .ref x) hn (by first | rfl | with_unfolding_all rfl | kernel_rfl) (spliced_more (Calls.Constant_str (spliced_none ?_)))))
  refine wpAny_call (init_base F.excBase_Exception (fun _ => rfl) (X₁ _ _ hC) hx₁ (one_size _) fun h₂ t2 k₂ hx₂ => ?_)
  have n₂ : h₂.Ns s.heap.objs.size _ := hn.at fun o q => k₂ _ _ hxL q
  have X₂ : K.In h₂ := kept_but X₁ hnx k₂
  -- self.code = code
  show wpAny _ _ (execs _ _) _ _ _
  refine wpAny_execs_cons (plainObj_wpAny_Assign_Attribute ?_)
  refine ldC (v := v) n₂ (by first | rfl | with_unfolding_all rfl | kernel_rfl) (ldC (v := .ref x) n₂ (by first | rfl | with_unfolding_all rfl | kernel_rfl) ?_)
  refine set_plain X₂ (ox := excO C t2) (od := none) ⟨hx₂, rfl, rfl, trivial⟩ T.sa ?_
  refine PySem.ESX.osa_new X₂ hx₂ hcl rfl rfl T.noN (fun h₃ tk₃ dx k₃ dn dne hx₃ hn₃ => ?_)
  show wpAny _ _ (execs _ _) _ _ _
  have z : s.heap.objs.size < h₂.objs.size := n₂.lt
  exact wpAny_execs_nil (hq h₃ tk₃ dx ⟨fun b o hb e => k₃ b o hb (k₂ b o hb (k b o e)), ⟨_, hx₃⟩, Nat.le_of_lt (Nat.lt_of_lt_of_le z dn), dne, hn₃⟩)
theorem ref_made (T : RefTxt K mg C fI) {v : Value} (X : K.In s.heap) (hlim : s.heap.NoLimit) (G : Names0 s.heap mg) (hroom : A.depth + 1 < recursionLimit)
    (hq : ∀ h' tk e d, OwnMade s.heap h' e C d v → R (.ok (.ret (.ref e))) { s with heap := h', toks := tk }) :
    codeAny (model prog w) A (.call (.ref C) ⟨[v], []⟩) R s := by
  obtain ⟨nm, q, N, bs, sn, sub, ab, col, dd, k0, k1, k2, k3, k5, hC⟩ := T.cls
  obtain ⟨hp, g, dr, tk, os⟩ := s
  have k : ∀ b o, hp.get? b = some o → ((hp.push (kdv_tup [v])).push (excO C hp.objs.size)).get? b = some o := fun b o e => Heap.get?_push_of_some _ (Heap.get?_push_of_some _ e)
  have hget : ((hp.push (kdv_tup [v])).push (excO C hp.objs.size)).get? (hp.objs.size + 1) = some (excO C hp.objs.size) := by heap_get
  have hnx : K.lookup (hp.objs.size + 1) = none := by
    cases e : K.lookup (hp.objs.size + 1) with
    | none => rfl
    | some o =>
      have z : hp.get? (hp.objs.size + 1) = some o := X _ _ e
      exact absurd (Nat.lt_of_succ_lt (Heap.lt_size z)) (Nat.lt_irrefl _)
  refine call_own F.excBase_Exception (fun _ => rfl) (X _ _ hC) (looks_findIn X T.iC) (fun self => bind_fn X self T.tC) (one_size v) ?_
  refine ref_init (s := ⟨(hp.push (kdv_tup [v])).push (excO C hp.objs.size), g, dr, tk, os⟩) T (X.keeps k) (hlim.keeps k) (G.keeps k) hget hnx ?_ fun h' tk' dx ⟨k', ⟨t1, hx⟩, dn, dne, hns⟩ => ?_
  · show A.depth + 1 < recursionLimit
    exact hroom
  · have old : ∀ b o, hp.get? b = some o → h'.get? b = some o := fun b o e => k' b o (Nat.ne_of_lt (Nat.lt_succ_of_lt (Heap.lt_size e))) (k b o e)
    have z : hp.objs.size + 1 + 1 ≤ dx := by
      first
        | (simpa only [Heap.size_push] using dn)
        | exact dn
        | (have q := dn; rw [Heap.size_push, Heap.size_push] at q; exact q)
    exact ⟨rfl, hq h' tk' (hp.objs.size + 1) dx ⟨old, Nat.le_succ _, ⟨_, _, hx, rfl, rfl, rfl, rfl⟩, Nat.le_trans (Nat.le_trans (Nat.le_succ _) (Nat.le_succ _)) z, dne, hns⟩⟩
end
end GhX
namespace L2
open PySem PySem.Spec PyProof.Rows
theorem relO_code {v : V} {v' : Value} (r : RelV v v') (f : Str) : RelO (List.lookup f [(("code" : Str), v)]) (if f = "code" then some v' else none) := by
  by_cases hw : f = "code"
  · subst hw
    rw [if_pos rfl]
    have q : List.lookup ("code" : Str) [(("code" : Str), v)] = some v := by simp [List.lookup]
    rw [q]
    exact r
  · rw [if_neg hw]
    have qw : (f == ("code" : Str)) = false := by simpa using hw
    have q2 : List.lookup f [(("code" : Str), v)] = none := by simp [List.lookup, qw]
    rw [q2]
    trivial
section
variable {X : Cx} {C fI : Addr}
/-- Refusal(e) -/
def tMkRef (C : Addr) (ta : TA) : St → Hp → XK → Prop := fun σ H Q => ta σ H fun vs H1 => ∃ v, vs = [v] ∧ ∀ d, H1 d = none → Q (.ref C) (some d) (upd H1 d (.xd [(("code" : Str), v)]))
theorem pmk_ref {a : Expr} {ta : TA} {p pos : Pos} {k : Nat} (T : GhX.RefTxt X.K X.mg C fI) (hr : Room k X.A) (ha : PA X [a] ta) (hg : Gl X "Refusal" := by rfl)
    (he : starEach (a :: []) X.env = (false, eval a X.env) :: starEach [] X.env := by rfl) (hpl : (backTo pos (starEach [] X.env)).any (·.1) = false := by rfl) :
    PMk X (.Call (.Name "Refusal" p) [a] [] pos) (tMkRef C ta) := by
  intro pins s σ H Q I h
  refine wpAny_Call_Name_kw (ld_glob I hg T.gC ?_)
  refine PySem.W.callWith_K (h₀ := X.base) I.ok.mod.kin T.kC (thn (ha.run pos pins s σ H _ I h) fun us s1 hh => ?_) he hpl
  obtain ⟨vs, H1, I1, r1, v, ev, q1⟩ := hh
  subst ev
  refine ⟨I1.kIn, ?_⟩
  cases r1 with
  | cons rv rn =>
    rename_i v' us'
    cases rn
    show wpAny _ _ (call (.ref C) [v']) _ _ _
    have hlim := I1.nolimit
    have N0 : GhX.Names0 s1.heap X.mg := by
      obtain ⟨mb, h1, h2⟩ := I1.mod.blt
      exact ⟨I1.mod.glob.keeps I1.bk, mb, h1.keeps I1.bk, (h2 "Exception" (by decide)).trans (by decide +kernel)⟩
    obtain ⟨hp, g, dr, tk, os⟩ := s1
    refine wpAny_call (GhX.ref_made T I1.kIn hlim N0 (by have := hr.dp; omega) fun h' tk' e d M => ?_)
    show MkP X pins σ Q (.ref e) ⟨h', g, dr, tk', os⟩
    obtain ⟨oe, fv, hoe, hc, hd, hdat, h1⟩ := M.obj
    have hns := M.ns
    obtain ⟨G', g1, g2⟩ := restrict h' fun b => decide (b ≠ e)
    have gk : ∀ b, b ≠ e → G'.get? b = h'.get? b := fun b hb => g1 b (decide_eq_true hb)
    have ge : G'.get? e = none := g2 e (by simp)
    have old : ∀ b o, hp.get? b = some o → G'.get? b = some o := fun b o q => (gk b (Nat.ne_of_lt (Nat.lt_of_lt_of_le (Heap.lt_size q) M.new))).trans (M.keep b o q)
    have ob : ObjOk X.prog X.w (upd H1 d (.xd [(("code" : Str), v)])) G' d (.xd [(("code" : Str), v)]) :=
      ⟨_, hns.at (fun o q => (gk d M.dne).trans q), fun f => relO_code rv f⟩
    have J : Inv X pins σ (upd H1 d (.xd [(("code" : Str), v)])) ⟨G', g, dr, tk', os⟩ := I1.laid (t' := tk') old M.dbig ob
    refine ⟨e, oe, fv, ⟨G', g, dr, tk', os⟩, _, .ref C, some d, rfl, J, fun b o q => ?_, ge, hoe, ⟨hc, hd⟩, hdat, h1, ?_, rfl, I1.bare, raises_own T.exC T.tyC, q1 d (I1.hok.fresh M.dbig)⟩
    · by_cases hb : b = e
      · have q' : G'.get? b = some o := q
        rw [hb, ge] at q'; cases q'
      · exact (gk b hb).symm.trans q
    · rw [upd_ne (Ne.symm M.dne)]
      exact I1.hok.fresh M.new
/-- raise Refusal(e) -/
def tRaiseRef (C : Addr) (W : WX) (ta : TA) : TS := fun _ σ H => tMkRef C ta σ H fun cls d H' => W cls d σ H'
theorem ps_raiseRef {a : Expr} {ta : TA} {W : WX} {p pos pos2 : Pos} {k : Nat} (hc : X.calm = true) (T : GhX.RefTxt X.K X.mg C fI) (hr : Room k X.A) (tk : Takes X W) (ha : PA X [a] ta) (hg : Gl X "Refusal" := by rfl)
    (he : starEach (a :: []) X.env = (false, eval a X.env) :: starEach [] X.env := by rfl) (hpl : (backTo pos (starEach [] X.env)).any (·.1) = false := by rfl) :
    PS X (.Raise (some (.Call (.Name "Refusal" p) [a] [] pos)) none pos2) (tRaiseRef C W ta) := ps_raise hc tk (pmk_ref T hr ha hg he hpl)
/-- e.code, e the exception that the suite holds (at a; its class cls, its dict d) -/
def tCodeRef (C : Addr) (a : Addr) (cls : Value) (d : Option Addr) (te : TE) : TE := fun σ H Q => te σ H fun x H1 => x = .ref a ∧ cls = .ref C ∧ ∃ (dd : Addr) (v : V), d = some dd ∧ H1 dd = some (.xd [(("code" : Str), v)]) ∧ Q v H1
theorem pe_codeRef {a : Addr} {oe : Obj} {cls : Value} {d : Option Addr} {pn : List (Addr × Obj)} {e : Expr} {te : TE} {pos : Pos} (T : GhX.RefTxt X.K X.mg C fI) (hz : Zc cls d oe) (hf : ∃ vs, oe.data = .fields vs) (he : PE (X.suite a ((a, oe) :: pn)) e te)
    (hb : attributeBase e "code" X.env (eval e X.env) = eval e X.env := by rfl) :
    PE (X.suite a ((a, oe) :: pn)) (.Attribute e "code" pos) (tCodeRef C a cls d te) := by
  refine ⟨fun pins s σ H Q I h => ?_⟩
  refine attr_of hb (thn (he.run pins s σ H _ I h) fun u s1 hh => ?_)
  obtain ⟨x, H1, I1, rx, ex, ec, dd, v, ed, ea, q⟩ := hh
  subst ex
  obtain rfl : u = Value.ref a := rx
  subst ec
  subst ed
  obtain ⟨ha, _⟩ := I1.pin (a, oe) (List.mem_append_left _ List.mem_cons_self)
  obtain ⟨vs, hd⟩ := hf
  have hx : ObjOk X.prog X.w H1 s1.heap dd (.xd [(("code" : Str), v)]) := I1.hok dd _ ea
  obtain ⟨mA, hns, hr⟩ := hx
  obtain ⟨od, ho, hl⟩ := lookIn_ns hns
  have l : List.lookup ("code" : Str) [(("code" : Str), v)] = some v := by simp [List.lookup]
  obtain ⟨u, hu, ru⟩ := RelO.some_of (v := v) (o := mA "code") (by rw [← l]; exact hr "code")
  have J : PySem.W.InstAt s1.heap a oe C (some od) := ⟨ha, hz.1, by unfold PySem.W.notCls; rw [hd] <;> rfl, by rw [hz.2]; exact ho⟩
  exact HandSPX.exc_get I1.kIn J T.ga T.gg T.exC (PySem.W.findObj_own T.hdC T.noN rfl (by rw [hl, hu])) (handed_of ru) ⟨v, H1, I1.tok _, ru, q⟩
end
end L2

set_option Elab.async false
set_option linter.all false
set_option maxRecDepth 100000
set_option maxHeartbeats 2000000
/-! The text by places, what the top has written, and the class Case. -/
namespace Gw
open PySem PySem.Spec PyProof.Rows L2
open PySem.W (Codec)
open Kv435 (Entrance sumBetween)
open Gh (ele pre)
def top (i : Nat) : Stmt := PySem.Challenge.pw_gatehours_s01_answers.main.body.getD i (.Pass ⟨0, 0, 0, 0⟩)
abbrev s_Case_init : Stmt := inClass (top 1) 0
abbrev s_Case_count : Stmt := inClass (top 1) 1
abbrev s_Case_length : Stmt := inClass (top 1) 2
abbrev s_Case_total : Stmt := inClass (top 1) 3
abbrev s_Case_with_minutes : Stmt := inClass (top 1) 4
abbrev s_Case_with_arrivals : Stmt := inClass (top 1) 5
abbrev s_Case_with_per_gate : Stmt := inClass (top 1) 6
abbrev s_Case_with_max_gates : Stmt := inClass (top 1) 7
abbrev s_Case_with_max_wait : Stmt := inClass (top 1) 8
abbrev s_require : Stmt := top 10
abbrev s_add_minute : Stmt := top 17
abbrev s_set_arrivals : Stmt := top 18
abbrev s_remove_last_minute : Stmt := top 19
abbrev s_set_per_gate : Stmt := top 20
abbrev s_set_max_gates : Stmt := top 21
abbrev s_set_max_wait : Stmt := top 22
abbrev s_changed : Stmt := top 23
abbrev s_room : Stmt := top 25
abbrev s_infeasible_interval : Stmt := top 26
abbrev s_is_possible : Stmt := top 27
abbrev s_needed : Stmt := top 28
abbrev s_raised : Stmt := top 29
abbrev s_least_sums : Stmt := top 30
abbrev s_best_schedule : Stmt := top 31
abbrev s_arriving : Stmt := top 33
abbrev s_admissions : Stmt := top 34
abbrev s_are_all_admitted : Stmt := top 35
abbrev s_minute_admitted : Stmt := top 36
abbrev s_longest_wait : Stmt := top 37
abbrev s_is_enough : Stmt := top 38
abbrev s_is_feasible : Stmt := top 39
abbrev s_counted : Stmt := top 42
abbrev s_told_best : Stmt := top 43
abbrev s_told_gate_minutes : Stmt := top 44
abbrev s_told_interval : Stmt := top 45
abbrev s_require_schedule : Stmt := top 46
abbrev s_told_of_schedule : Stmt := top 47
abbrev s_min_max_gates : Stmt := top 48
abbrev s_min_max_wait : Stmt := top 49
abbrev s_if_arrivals : Stmt := top 50
abbrev s_if_max_wait : Stmt := top 51
abbrev s_max_arrivals : Stmt := top 52
abbrev s_total_arrivals : Stmt := top 53
abbrev s_told_state : Stmt := top 54
abbrev s_told_plainly : Stmt := top 55
abbrev s_told : Stmt := top 56
abbrev s_Session_init : Stmt := inClass (top 61) 0
abbrev s_Session_create : Stmt := inClass (top 61) 1
abbrev s_Session_performed : Stmt := inClass (top 61) 2
abbrev s_Session_answer : Stmt := inClass (top 61) 3
abbrev s_answers : Stmt := top 62
/-- how many whole numbers each operation has -/
def countsL : List Int := [3, 1, 2, 0, 1, 1, 1, 0, 0, 0, 0, 0, 0, 0, 0, 0, 0, 0, 2, 1, 1, 2, 0]
/-- a module's constant that is a whole number -/
def GInt (mg : Str → Option Value) (x : Str) (i : Int) : Prop := ∃ t, mg x = some (.int i t)
theorem pe_gint {X : Cx} {x : Str} {i : Int} {pos : Pos} (hg : Gl X x) (hm : GInt X.mg x i) (hd : (x == ("__debug__" : Str)) = false := by decide) : PE X (.Name x pos) (tC (.int i)) := by
  obtain ⟨t, e⟩ := hm
  exact pe_glob hg e ⟨t, rfl⟩ hd
/-- a def of the module -/
structure Dn (K : PySem.W.Frag) (mg : Str → Option Value) (nm : Str) (st : Stmt) (ps : List Str) (f : Addr) (fd : FuncData) : Prop where
  F : Fun K nm nm st f fd
  g : mg nm = some (.ref f)
  b : Binds K fd ps []
/-- an __init__ -/
structure Di (K : PySem.W.Frag) (nm qual : Str) (st : Stmt) (ps : List Str) (f : Addr) (fd : FuncData) : Prop where
  F : Fun K nm qual st f fd
  b : Binds K fd ps []
/-- a method -/
structure Dm (K : PySem.W.Frag) (C : Addr) (nm qual : Str) (st : Stmt) (ps : List Str) (f : Addr) (fd : FuncData) : Prop where
  F : Fun K nm qual st f fd
  b : Binds K fd ps []
  m : Meth K C nm f
/-- where the defs stand -/
structure Adr where
  Case : Addr
  Session : Addr
  Refusal : Addr
  RefusalInit : Addr
  counts : Addr
  f_Case_init : Addr
  d_Case_init : FuncData
  f_Case_count : Addr
  d_Case_count : FuncData
  f_Case_length : Addr
  d_Case_length : FuncData
  f_Case_total : Addr
  d_Case_total : FuncData
  f_Case_with_minutes : Addr
  d_Case_with_minutes : FuncData
  f_Case_with_arrivals : Addr
  d_Case_with_arrivals : FuncData
  f_Case_with_per_gate : Addr
  d_Case_with_per_gate : FuncData
  f_Case_with_max_gates : Addr
  d_Case_with_max_gates : FuncData
  f_Case_with_max_wait : Addr
  d_Case_with_max_wait : FuncData
  f_require : Addr
  d_require : FuncData
  f_add_minute : Addr
  d_add_minute : FuncData
  f_set_arrivals : Addr
  d_set_arrivals : FuncData
  f_remove_last_minute : Addr
  d_remove_last_minute : FuncData
  f_set_per_gate : Addr
  d_set_per_gate : FuncData
  f_set_max_gates : Addr
  d_set_max_gates : FuncData
  f_set_max_wait : Addr
  d_set_max_wait : FuncData
  f_changed : Addr
  d_changed : FuncData
  f_room : Addr
  d_room : FuncData
  f_infeasible_interval : Addr
  d_infeasible_interval : FuncData
  f_is_possible : Addr
  d_is_possible : FuncData
  f_needed : Addr
  d_needed : FuncData
  f_raised : Addr
  d_raised : FuncData
  f_least_sums : Addr
  d_least_sums : FuncData
  f_best_schedule : Addr
  d_best_schedule : FuncData
  f_arriving : Addr
  d_arriving : FuncData
  f_admissions : Addr
  d_admissions : FuncData
  f_are_all_admitted : Addr
  d_are_all_admitted : FuncData
  f_minute_admitted : Addr
  d_minute_admitted : FuncData
  f_longest_wait : Addr
  d_longest_wait : FuncData
  f_is_enough : Addr
  d_is_enough : FuncData
  f_is_feasible : Addr
  d_is_feasible : FuncData
  f_counted : Addr
  d_counted : FuncData
  f_told_best : Addr
  d_told_best : FuncData
  f_told_gate_minutes : Addr
  d_told_gate_minutes : FuncData
  f_told_interval : Addr
  d_told_interval : FuncData
  f_require_schedule : Addr
  d_require_schedule : FuncData
  f_told_of_schedule : Addr
  d_told_of_schedule : FuncData
  f_min_max_gates : Addr
  d_min_max_gates : FuncData
  f_min_max_wait : Addr
  d_min_max_wait : FuncData
  f_if_arrivals : Addr
  d_if_arrivals : FuncData
  f_if_max_wait : Addr
  d_if_max_wait : FuncData
  f_max_arrivals : Addr
  d_max_arrivals : FuncData
  f_total_arrivals : Addr
  d_total_arrivals : FuncData
  f_told_state : Addr
  d_told_state : FuncData
  f_told_plainly : Addr
  d_told_plainly : FuncData
  f_told : Addr
  d_told : FuncData
  f_Session_init : Addr
  d_Session_init : FuncData
  f_Session_create : Addr
  d_Session_create : FuncData
  f_Session_performed : Addr
  d_Session_performed : FuncData
  f_Session_answer : Addr
  d_Session_answer : FuncData
  f_answers : Addr
  d_answers : FuncData
/-- what the top has written -/
structure Txt (K : PySem.W.Frag) (mg : Str → Option Value) (A : Adr) : Prop where
  c_Case : Cls K A.Case
  g_Case : mg "Case" = some (.ref A.Case)
  mk_Case : Mk K A.Case A.f_Case_init
  n_arrivals : NoAttr K A.Case "arrivals"
  n_per_gate : NoAttr K A.Case "per_gate"
  n_max_gates : NoAttr K A.Case "max_gates"
  n_max_wait : NoAttr K A.Case "max_wait"
  c_Session : Cls K A.Session
  g_Session : mg "Session" = some (.ref A.Session)
  mk_Session : Mk K A.Session A.f_Session_init
  n_case : NoAttr K A.Session "case"
  ref : GhX.RefTxt K mg A.Refusal A.RefusalInit
  z_len : mg "len" = none
  z_sum : mg "sum" = none
  z_range : mg "range" = none
  z_list : mg "list" = none
  z_max : mg "max" = none
  z_min : mg "min" = none
  z_zip : mg "zip" = none
  z_enumerate : mg "enumerate" = none
  z_all : mg "all" = none
  z_int : mg "int" = none
  k_NO_PLANNER : GInt mg "NO_PLANNER" (-11)
  k_NO_MINUTE : GInt mg "NO_MINUTE" (-2)
  k_NO_MINUTES : GInt mg "NO_MINUTES" (-6)
  k_OUTSIDE : GInt mg "OUTSIDE" (-22)
  k_FULL : GInt mg "FULL" (-28)
  k_NONE_FOUND : GInt mg "NONE_FOUND" (-33)
  k_MOST_PER_GATE : GInt mg "MOST_PER_GATE" (9)
  k_MOST_GATES : GInt mg "MOST_GATES" (6)
  k_MOST_WAIT : GInt mg "MOST_WAIT" (6)
  k_MOST_ARRIVALS : GInt mg "MOST_ARRIVALS" (40)
  k_MOST_MINUTES : GInt mg "MOST_MINUTES" (10)
  k_MOST_ELEMENT : GInt mg "MOST_ELEMENT" (9)
  k_CREATE : GInt mg "CREATE" (0)
  k_LAST_CHANGE : GInt mg "LAST_CHANGE" (6)
  k_COUNTS : mg "COUNTS" = some (.ref A.counts)
  t_COUNTS : ∀ H, SqT K H A.counts (countsL.map V.int)
  d_Case_init : Di K "__init__" "Case.__init__" s_Case_init ["self", "arrivals", "per_gate", "max_gates", "max_wait"] A.f_Case_init A.d_Case_init
  d_Case_count : Dm K A.Case "count" "Case.count" s_Case_count ["self"] A.f_Case_count A.d_Case_count
  d_Case_length : Dm K A.Case "length" "Case.length" s_Case_length ["self"] A.f_Case_length A.d_Case_length
  d_Case_total : Dm K A.Case "total" "Case.total" s_Case_total ["self", "first", "last"] A.f_Case_total A.d_Case_total
  d_Case_with_minutes : Dm K A.Case "with_minutes" "Case.with_minutes" s_Case_with_minutes ["self", "arrivals"] A.f_Case_with_minutes A.d_Case_with_minutes
  d_Case_with_arrivals : Dm K A.Case "with_arrivals" "Case.with_arrivals" s_Case_with_arrivals ["self", "minute", "people"] A.f_Case_with_arrivals A.d_Case_with_arrivals
  d_Case_with_per_gate : Dm K A.Case "with_per_gate" "Case.with_per_gate" s_Case_with_per_gate ["self", "people"] A.f_Case_with_per_gate A.d_Case_with_per_gate
  d_Case_with_max_gates : Dm K A.Case "with_max_gates" "Case.with_max_gates" s_Case_with_max_gates ["self", "gates"] A.f_Case_with_max_gates A.d_Case_with_max_gates
  d_Case_with_max_wait : Dm K A.Case "with_max_wait" "Case.with_max_wait" s_Case_with_max_wait ["self", "minutes"] A.f_Case_with_max_wait A.d_Case_with_max_wait
  d_require : Dn K mg "require" s_require ["is_right", "code"] A.f_require A.d_require
  d_add_minute : Dn K mg "add_minute" s_add_minute ["case", "arrivals"] A.f_add_minute A.d_add_minute
  d_set_arrivals : Dn K mg "set_arrivals" s_set_arrivals ["case", "minute", "arrivals"] A.f_set_arrivals A.d_set_arrivals
  d_remove_last_minute : Dn K mg "remove_last_minute" s_remove_last_minute ["case"] A.f_remove_last_minute A.d_remove_last_minute
  d_set_per_gate : Dn K mg "set_per_gate" s_set_per_gate ["case", "people"] A.f_set_per_gate A.d_set_per_gate
  d_set_max_gates : Dn K mg "set_max_gates" s_set_max_gates ["case", "gates"] A.f_set_max_gates A.d_set_max_gates
  d_set_max_wait : Dn K mg "set_max_wait" s_set_max_wait ["case", "minutes"] A.f_set_max_wait A.d_set_max_wait
  d_changed : Dn K mg "changed" s_changed ["case", "number", "n"] A.f_changed A.d_changed
  d_room : Dn K mg "room" s_room ["case", "first", "last"] A.f_room A.d_room
  d_infeasible_interval : Dn K mg "infeasible_interval" s_infeasible_interval ["case"] A.f_infeasible_interval A.d_infeasible_interval
  d_is_possible : Dn K mg "is_possible" s_is_possible ["case"] A.f_is_possible A.d_is_possible
  d_needed : Dn K mg "needed" s_needed ["case", "first", "last"] A.f_needed A.d_needed
  d_raised : Dn K mg "raised" s_raised ["case", "sums"] A.f_raised A.d_raised
  d_least_sums : Dn K mg "least_sums" s_least_sums ["case"] A.f_least_sums A.d_least_sums
  d_best_schedule : Dn K mg "best_schedule" s_best_schedule ["case"] A.f_best_schedule A.d_best_schedule
  d_arriving : Dn K mg "arriving" s_arriving ["case", "minute"] A.f_arriving A.d_arriving
  d_admissions : Dn K mg "admissions" s_admissions ["case", "schedule"] A.f_admissions A.d_admissions
  d_are_all_admitted : Dn K mg "are_all_admitted" s_are_all_admitted ["case", "schedule"] A.f_are_all_admitted A.d_are_all_admitted
  d_minute_admitted : Dn K mg "minute_admitted" s_minute_admitted ["admitted", "people"] A.f_minute_admitted A.d_minute_admitted
  d_longest_wait : Dn K mg "longest_wait" s_longest_wait ["case", "schedule"] A.f_longest_wait A.d_longest_wait
  d_is_enough : Dn K mg "is_enough" s_is_enough ["case", "schedule", "first", "last"] A.f_is_enough A.d_is_enough
  d_is_feasible : Dn K mg "is_feasible" s_is_feasible ["case", "schedule"] A.f_is_feasible A.d_is_feasible
  d_counted : Dn K mg "counted" s_counted ["some"] A.f_counted A.d_counted
  d_told_best : Dn K mg "told_best" s_told_best ["case"] A.f_told_best A.d_told_best
  d_told_gate_minutes : Dn K mg "told_gate_minutes" s_told_gate_minutes ["case"] A.f_told_gate_minutes A.d_told_gate_minutes
  d_told_interval : Dn K mg "told_interval" s_told_interval ["case"] A.f_told_interval A.d_told_interval
  d_require_schedule : Dn K mg "require_schedule" s_require_schedule ["case", "schedule"] A.f_require_schedule A.d_require_schedule
  d_told_of_schedule : Dn K mg "told_of_schedule" s_told_of_schedule ["case", "number", "schedule"] A.f_told_of_schedule A.d_told_of_schedule
  d_min_max_gates : Dn K mg "min_max_gates" s_min_max_gates ["case"] A.f_min_max_gates A.d_min_max_gates
  d_min_max_wait : Dn K mg "min_max_wait" s_min_max_wait ["case"] A.f_min_max_wait A.d_min_max_wait
  d_if_arrivals : Dn K mg "if_arrivals" s_if_arrivals ["case", "minute", "arrivals"] A.f_if_arrivals A.d_if_arrivals
  d_if_max_wait : Dn K mg "if_max_wait" s_if_max_wait ["case", "minutes"] A.f_if_max_wait A.d_if_max_wait
  d_max_arrivals : Dn K mg "max_arrivals" s_max_arrivals ["case", "minute"] A.f_max_arrivals A.d_max_arrivals
  d_total_arrivals : Dn K mg "total_arrivals" s_total_arrivals ["case", "first", "last"] A.f_total_arrivals A.d_total_arrivals
  d_told_state : Dn K mg "told_state" s_told_state ["case"] A.f_told_state A.d_told_state
  d_told_plainly : Dn K mg "told_plainly" s_told_plainly ["case", "number"] A.f_told_plainly A.d_told_plainly
  d_told : Dn K mg "told" s_told ["case", "number", "n", "schedule"] A.f_told A.d_told
  d_Session_init : Di K "__init__" "Session.__init__" s_Session_init ["self"] A.f_Session_init A.d_Session_init
  d_Session_create : Dm K A.Session "create" "Session.create" s_Session_create ["self", "per_gate", "max_gates", "max_wait"] A.f_Session_create A.d_Session_create
  d_Session_performed : Dm K A.Session "performed" "Session.performed" s_Session_performed ["self", "number", "n", "schedule"] A.f_Session_performed A.d_Session_performed
  d_Session_answer : Dm K A.Session "answer" "Session.answer" s_Session_answer ["self", "number", "n", "schedule"] A.f_Session_answer A.d_Session_answer
  d_answers : Dn K mg "answers" s_answers ["calls"] A.f_answers A.d_answers
/-! ### lists of natural numbers -/
def nz (l : List Nat) : List V := l.map fun n => V.int ((n : Nat) : Int)
theorem nz_len (l : List Nat) : (nz l).length = l.length := List.length_map _
theorem nz_get (l : List Nat) (i : Nat) : (nz l)[i]? = l[i]?.map fun n => V.int ((n : Nat) : Int) := List.getElem?_map
theorem nz_at {l : List Nat} {i : Nat} (h : i < l.length) : (nz l)[i]? = some (.int ((ele l i : Nat) : Int)) := by
  rw [nz_get, Gh.ele_lt h]
  rfl
theorem nz_append (l r : List Nat) : nz (l ++ r) = nz l ++ nz r := List.map_append
theorem nz_set (l : List Nat) (i v : Nat) : nz (l.set i v) = (nz l).set i (.int ((v : Nat) : Int)) := List.map_set
theorem nz_ints (l : List Nat) : nz l = (l.map fun n => ((n : Nat) : Int)).map V.int := by
  unfold nz
  rw [List.map_map]
  rfl
theorem nz_drop (l : List Nat) (k : Nat) : nz (l.drop k) = (nz l).drop k := List.map_drop
theorem nz_take (l : List Nat) (k : Nat) : nz (l.take k) = (nz l).take k := List.map_take
theorem sum_ints (l : List Nat) : (l.map fun n => ((n : Nat) : Int)).sum = ((l.sum : Nat) : Int) := by
  induction l with
  | nil => rfl
  | cons a r ih =>
    rw [List.map_cons, List.sum_cons, List.sum_cons, ih]
    omega
theorem cut_nat (xs : List V) (s t : Nat) : cutV xs (some (s : Int)) (some (t : Int)) = (xs.drop s).take (t - s) := by
  unfold cutV
  rw [HT.sIx_nat, HT.sIx_nat]
  by_cases h : s ≤ xs.length
  · rw [Nat.min_eq_left h]
    by_cases h2 : t ≤ xs.length
    · rw [Nat.min_eq_left h2]
    · rw [Nat.min_eq_right (by omega), List.take_of_length_le (by rw [List.length_drop]; omega), List.take_of_length_le (by rw [List.length_drop]; omega)]
  · rw [List.drop_of_length_le (show xs.length ≤ s by omega), List.drop_of_length_le (by omega), List.take_nil, List.take_nil]
theorem cut_to (xs : List V) (t : Nat) : cutV xs none (some (t : Int)) = xs.take t := by
  have e : cutV xs none (some (t : Int)) = cutV xs (some ((0 : Nat) : Int)) (some (t : Int)) := by
    have z : HT.sIx xs.length 0 (some ((0 : Nat) : Int)) = 0 := by rw [HT.sIx_nat, Nat.zero_min]
    unfold cutV
    rw [z, HT.sIx_none]
  rw [e, cut_nat]
  rfl
theorem cut_from (xs : List V) (s : Nat) : cutV xs (some (s : Int)) none = xs.drop s := by
  unfold cutV
  rw [HT.sIx_nat, HT.sIx_none]
  by_cases h : s ≤ xs.length
  · rw [Nat.min_eq_left h, List.take_of_length_le (by rw [List.length_drop]; omega)]
  · rw [List.drop_of_length_le (show xs.length ≤ s by omega), List.drop_of_length_le (by omega), List.take_nil]
theorem cut_last (xs : List V) : cutV xs none (some (-1)) = xs.dropLast := by
  unfold cutV
  rw [HT.sIx_none]
  have e : HT.sIx xs.length xs.length (some (-1)) = xs.length - 1 := by
    show (if (-1 : Int) < 0 then ((-1 : Int) + (xs.length : Int)).toNat else min (-1 : Int).toNat xs.length) = xs.length - 1
    rw [if_pos (by decide)]
    omega
  rw [e, List.dropLast_eq_take]
  rfl
/-! ### heaps -/
theorem same_new {H : Hp} {p : Addr} {o : HO} (h : H p = none) : Same H (upd H p o) := fun b x e => by
  rw [upd_ne (ne_of_none e h)]
  exact e
theorem lk_here {k : Str} {v : V} {r : List (Str × V)} : List.lookup k ((k, v) :: r) = some v := by
  have e : (k == k) = true := beq_self_eq_true k
  simp only [List.lookup, e]
theorem lk_past {k g : Str} {v : V} {r : List (Str × V)} (h : (k == g) = false) : List.lookup k ((g, v) :: r) = List.lookup k r := by
  simp only [List.lookup, h]
/-- the fields of a case -/
def cV (x1 x2 x3 x4 : V) : List (Str × V) := [("arrivals", x1), ("per_gate", x2), ("max_gates", x3), ("max_wait", x4)]
def cF (l : Addr) (e : Entrance) : List (Str × V) := cV (.ref l) (.int ((e.perGate : Nat) : Int)) (.int ((e.maxGates : Nat) : Int)) (.int ((e.maxWait : Nat) : Int))
theorem cV_put (x1 x2 x3 x4 : V) : putF "max_wait" x4 (putF "max_gates" x3 (putF "per_gate" x2 (putF "arrivals" x1 []))) = cV x1 x2 x3 x4 := by
  have a1 : ¬ ("arrivals" : Str) = "per_gate" := by decide +kernel
  have a2 : ¬ ("arrivals" : Str) = "max_gates" := by decide +kernel
  have a3 : ¬ ("arrivals" : Str) = "max_wait" := by decide +kernel
  have a4 : ¬ ("per_gate" : Str) = "max_gates" := by decide +kernel
  have a5 : ¬ ("per_gate" : Str) = "max_wait" := by decide +kernel
  have a6 : ¬ ("max_gates" : Str) = "max_wait" := by decide +kernel
  simp only [putF, if_neg a1, if_neg a2, if_neg a3, if_neg a4, if_neg a5, if_neg a6]
  rfl
theorem cF_arrivals (l : Addr) (e : Entrance) : (cF l e).lookup ("arrivals" : Str) = some (.ref l) := lk_here
theorem cF_per_gate (l : Addr) (e : Entrance) : (cF l e).lookup ("per_gate" : Str) = some (.int ((e.perGate : Nat) : Int)) := (lk_past (by decide +kernel)).trans lk_here
theorem cF_max_gates (l : Addr) (e : Entrance) : (cF l e).lookup ("max_gates" : Str) = some (.int ((e.maxGates : Nat) : Int)) := (lk_past (by decide +kernel)).trans ((lk_past (by decide +kernel)).trans lk_here)
theorem cF_max_wait (l : Addr) (e : Entrance) : (cF l e).lookup ("max_wait" : Str) = some (.int ((e.maxWait : Nat) : Int)) := (lk_past (by decide +kernel)).trans ((lk_past (by decide +kernel)).trans ((lk_past (by decide +kernel)).trans lk_here))
theorem cF_no (l : Addr) (e : Entrance) {m : Str} (h1 : (m == ("arrivals" : Str)) = false) (h2 : (m == ("per_gate" : Str)) = false) (h3 : (m == ("max_gates" : Str)) = false) (h4 : (m == ("max_wait" : Str)) = false) : (cF l e).lookup m = none :=
  (lk_past h1).trans ((lk_past h2).trans ((lk_past h3).trans ((lk_past h4).trans rfl)))
theorem cF_count (l : Addr) (e : Entrance) : (cF l e).lookup ("count" : Str) = none := cF_no l e (by decide +kernel) (by decide +kernel) (by decide +kernel) (by decide +kernel)
theorem cF_length (l : Addr) (e : Entrance) : (cF l e).lookup ("length" : Str) = none := cF_no l e (by decide +kernel) (by decide +kernel) (by decide +kernel) (by decide +kernel)
theorem cF_total (l : Addr) (e : Entrance) : (cF l e).lookup ("total" : Str) = none := cF_no l e (by decide +kernel) (by decide +kernel) (by decide +kernel) (by decide +kernel)
theorem cF_with_minutes (l : Addr) (e : Entrance) : (cF l e).lookup ("with_minutes" : Str) = none := cF_no l e (by decide +kernel) (by decide +kernel) (by decide +kernel) (by decide +kernel)
theorem cF_with_arrivals (l : Addr) (e : Entrance) : (cF l e).lookup ("with_arrivals" : Str) = none := cF_no l e (by decide +kernel) (by decide +kernel) (by decide +kernel) (by decide +kernel)
theorem cF_with_per_gate (l : Addr) (e : Entrance) : (cF l e).lookup ("with_per_gate" : Str) = none := cF_no l e (by decide +kernel) (by decide +kernel) (by decide +kernel) (by decide +kernel)
theorem cF_with_max_gates (l : Addr) (e : Entrance) : (cF l e).lookup ("with_max_gates" : Str) = none := cF_no l e (by decide +kernel) (by decide +kernel) (by decide +kernel) (by decide +kernel)
theorem cF_with_max_wait (l : Addr) (e : Entrance) : (cF l e).lookup ("with_max_wait" : Str) = none := cF_no l e (by decide +kernel) (by decide +kernel) (by decide +kernel) (by decide +kernel)
/-- a case at a: the entrance e -/
def CaseAt (C : Addr) (H : Hp) (a : Addr) (e : Entrance) : Prop := ∃ dx l, H a = some (.ins C dx (cF l e)) ∧ H l = some (.lst (nz e.arrivals))
theorem CaseAt.same {C : Addr} {H H' : Hp} {a : Addr} {e : Entrance} (h : CaseAt C H a e) (s : Same H H') : CaseAt C H' a e :=
  let ⟨dx, l, h1, h2⟩ := h
  ⟨dx, l, s _ _ h1, s _ _ h2⟩
section
variable {P : Program} {w : World} {K : PySem.W.Frag} {mg : Str → Option Value} {base : Heap} {A : Adr}
/-! ### Case.__init__ -/
def sp_Case_init (C : Addr) : Sp := fun vs H Q _ => ∃ (p dx : Addr) (x1 x2 x3 x4 : V), vs = [.ref p, x1, x2, x3, x4] ∧ H p = some (.ins C dx []) ∧
  ∀ H' : Hp, H' p = some (.ins C dx (cV x1 x2 x3 x4)) → (∀ b o, H b = some o → b ≠ p → H' b = some o) → Q .non H'
theorem sc_Case_init : FnScope ["self", "arrivals", "per_gate", "max_gates", "max_wait"] ["self", "arrivals", "per_gate", "max_gates", "max_wait"] (defScope s_Case_init) := ⟨rfl, rfl, rfl, by decide +kernel, rfl, by decide +kernel, by decide +kernel⟩
theorem ok_Case_init (T : Txt K mg A) : FnOk P w K mg base CX0 1 A.f_Case_init A.d_Case_init ["self", "arrivals", "per_gate", "max_gates", "max_wait"] (sp_Case_init A.Case) := by
  refine T.d_Case_init.F.ok sc_Case_init (fun vs H Q E h => ?_) (fun cdv Ar outer s H vs Q E hr h => ?_)
  · obtain ⟨p, dx, x1, x2, x3, x4, rfl, _⟩ := h
    rfl
  · obtain ⟨p, dx, x1, x2, x3, x4, rfl, hp, k⟩ := h
    refine ⟨_, (pss_cons (ps_fld (pv 0) (pv 1) (by rfl))
        (pss_cons (ps_fld (pv 0) (pv 2) (by rfl))
        (pss_cons (ps_fld (pv 0) (pv 3) (by rfl))
        (pss_one (ps_fld (pv 0) (pv 4) (by rfl)))))), ?_⟩
    refine ⟨_, rfl, _, rfl, p, _, dx, _, rfl, hp, T.c_Case, T.n_arrivals, (by show 0 < 1000; decide), ?_⟩
    refine ⟨_, rfl, _, rfl, p, _, dx, _, rfl, upd_same, T.c_Case, T.n_per_gate, (by show 1 < 1000; decide), ?_⟩
    refine ⟨_, rfl, _, rfl, p, _, dx, _, rfl, upd_same, T.c_Case, T.n_max_gates, (by show 2 < 1000; decide), ?_⟩
    refine ⟨_, rfl, _, rfl, p, _, dx, _, rfl, upd_same, T.c_Case, T.n_max_wait, (by show 3 < 1000; decide), ?_⟩
    refine k _ ?_ fun b o e hb => ?_
    · rw [upd_same, cV_put]
    · rw [upd_ne hb, upd_ne hb, upd_ne hb, upd_ne hb]
      exact e
/-! ### count, length, total -/
def sp_Case_count (C : Addr) : Sp := fun vs H Q _ => ∃ (a : Addr) (e : Entrance), vs = [.ref a] ∧ CaseAt C H a e ∧ Q (.int ((e.minutes : Nat) : Int)) H
theorem sc_Case_count : FnScope ["self"] ["self"] (defScope s_Case_count) := ⟨rfl, rfl, rfl, by decide +kernel, rfl, by decide +kernel, by decide +kernel⟩
theorem ok_Case_count (T : Txt K mg A) : FnOk P w K mg base CX0 1 A.f_Case_count A.d_Case_count ["self"] (sp_Case_count A.Case) := by
  refine T.d_Case_count.F.ok sc_Case_count (fun vs H Q E h => ?_) (fun cdv Ar outer s H vs Q E hr h => ?_)
  · obtain ⟨a, e, rfl, _⟩ := h
    rfl
  · obtain ⟨a, e, rfl, ⟨dx, l, h1, h2⟩, k⟩ := h
    refine ⟨_, (pss_one (ps_ret (pe_callB call_len_seq (by rfl) T.z_len (by decide +kernel) (pa_cons (pe_fld (pv 0) (by rfl)) pa_nil)))), ?_⟩
    refine ⟨_, rfl, a, _, dx, _, _, rfl, h1, T.c_Case, T.n_arrivals, cF_arrivals l e, l, _, rfl, .inl (SqL.of h2), ?_⟩
    rw [nz_len]
    exact k
def sp_Case_total (C : Addr) : Sp := fun vs H Q _ => ∃ (a : Addr) (e : Entrance) (s t : Nat), vs = [.ref a, .int ((s : Nat) : Int), .int ((t : Nat) : Int)] ∧ CaseAt C H a e ∧ ∀ H', Same H H' → Q (.int ((sumBetween e.arrivals s t : Nat) : Int)) H'
theorem sc_Case_total : FnScope ["self", "first", "last"] ["self", "first", "last"] (defScope s_Case_total) := ⟨rfl, rfl, rfl, by decide +kernel, rfl, by decide +kernel, by decide +kernel⟩
theorem ok_Case_total (T : Txt K mg A) : FnOk P w K mg base CX0 1 A.f_Case_total A.d_Case_total ["self", "first", "last"] (sp_Case_total A.Case) := by
  refine T.d_Case_total.F.ok sc_Case_total (fun vs H Q E h => ?_) (fun cdv Ar outer s H vs Q E hr h => ?_)
  · obtain ⟨a, e, s, t, rfl, _⟩ := h
    rfl
  · obtain ⟨a, e, s, t, rfl, ⟨dx, l, h1, h2⟩, k⟩ := h
    refine ⟨_, (pss_one (ps_ret (pe_callB (cr_sum rfl) (by rfl) T.z_sum (by decide +kernel) (pa_cons (pe_slice sl_list (pe_fld (pv 0) (by rfl)) (po_some (pv 1)) (po_some (pe_op op_add (pv 2) pe_int))) pa_nil)))), ?_⟩
    refine ⟨_, rfl, a, _, dx, _, _, rfl, h1, T.c_Case, T.n_arrivals, cF_arrivals l e, _, rfl, _, rfl, _, rfl, _, _, rfl, rfl, _, rfl, l, _, rfl, SqL.of h2, fun p np => ?_⟩
    refine ⟨p, ((e.arrivals.drop s).take (t + 1 - s)).map fun n => ((n : Nat) : Int), rfl, ?_, ?_⟩
    · refine SqL.of ?_
      rw [upd_same, show (t : Int) + 1 = ((t + 1 : Nat) : Int) by omega, cut_nat, ← nz_drop, ← nz_take, nz_ints]
    · rw [sum_ints]
      exact k _ (same_new np)
end
end Gw

set_option Elab.async false
set_option linter.all false
set_option maxRecDepth 100000
set_option maxHeartbeats 2000000
/-! Case: length and the other cases; require. -/
namespace Gw
open PySem PySem.Spec PyProof.Rows L2
open PySem.W (Codec)
open Kv435 (Entrance sumBetween)
open Gh (ele pre)
theorem dp_all {K : PySem.W.Frag} {H : Hp} : ∀ l : List Nat, DpAll K H (nz l) ((l.map fun n => ((n : Nat) : Int)).map PyData.int)
  | [] => .nil
  | n :: r => .cons (.int _) (dp_all r)
theorem dp_nz {K : PySem.W.Frag} {H : Hp} {a : Addr} {l : List Nat} (h : SqL K H a (nz l)) : Dp K H (.ref a) (.list ((l.map fun n => ((n : Nat) : Int)).map PyData.int)) := .lst h (dp_all l)
theorem dp_nil {K : PySem.W.Frag} {H : Hp} {a : Addr} (h : SqL K H a []) : Dp K H (.ref a) (.list []) := .lst h .nil
theorem eqv_nil (l : List Nat) : PyData.eqv (.list ((l.map fun n => ((n : Nat) : Int)).map PyData.int)) (.list []) = decide (l = []) := by
  cases l with
  | nil => rfl
  | cons a r => rfl
/-- what the settings keep -/
structure Good (e : Entrance) : Prop where
  p1 : 1 ≤ e.perGate
  p9 : e.perGate ≤ 9
  g6 : e.maxGates ≤ 6
  w6 : e.maxWait ≤ 6
  m10 : e.arrivals.length ≤ 10
/-- the list of a case -/
def ArrAt (C : Addr) (H : Hp) (x l : Addr) : Prop := ∃ dx e, H x = some (.ins C dx (cF l e))
theorem arr_is {C : Addr} {H : Hp} {x l l2 dx : Addr} {y2 y3 y4 : V} (h : H x = some (.ins C dx (cV (.ref l) y2 y3 y4))) (ha : ArrAt C H x l2) : l2 = l := by
  obtain ⟨dy, e, h2⟩ := ha
  rw [h] at h2
  have z := Option.some.inj h2
  injection z with z1 z2 z3
  have z4 := congrArg Prod.snd (List.cons.inj z3).1
  have z5 : V.ref l = V.ref l2 := z4
  cases z5
  rfl
theorem ArrAt.back {C : Addr} {H H' : Hp} {x l : Addr} {e : Entrance} (hc : CaseAt C H x e) (s : Same H H') (h : ArrAt C H' x l) : ArrAt C H x l := by
  obtain ⟨dx, l', h1, _⟩ := hc
  obtain ⟨dy, e', h2⟩ := h
  have z := s _ _ h1
  rw [h2] at z
  refine ⟨dy, e', ?_⟩
  rw [h1, z]
theorem size10 {n : Nat} (h : n ≤ 1000) : n ≤ sizeLine := Nat.le_of_lt (small1000 h)
/-- an error of the class Refusal leaves: its code, all that was tracked as it was -/
def Err (CF : Addr) (E : XK) (c : Int) (H : Hp) : Prop := ∀ H' d, Same H H' → H' d = some (.xd [("code", .int c)]) → E (.ref CF) (some d) H'
theorem Err.same {CF : Addr} {E : XK} {c : Int} {H H' : Hp} (h : Err CF E c H) (s : Same H H') : Err CF E c H' := fun _ _ s' hd => h _ _ (s.trans s') hd
section
variable {P : Program} {w : World} {K : PySem.W.Frag} {mg : Str → Option Value} {base : Heap} {A : Adr}
def sp_Case_length (C : Addr) : Sp := fun vs H Q _ => ∃ (a : Addr) (e : Entrance), vs = [.ref a] ∧ CaseAt C H a e ∧ ∀ H', Same H H' → Q (.int ((e.scheduleLength : Nat) : Int)) H'
theorem sc_Case_length : FnScope ["self"] ["self"] (defScope s_Case_length) := ⟨rfl, rfl, rfl, by decide +kernel, rfl, by decide +kernel, by decide +kernel⟩
theorem ok_Case_length (T : Txt K mg A) : FnOk P w K mg base CX0 1 A.f_Case_length A.d_Case_length ["self"] (sp_Case_length A.Case) := by
  refine T.d_Case_length.F.ok sc_Case_length (fun vs H Q E h => ?_) (fun cdv Ar outer s H vs Q E hr h => ?_)
  · obtain ⟨a, e, rfl, _⟩ := h
    rfl
  · obtain ⟨a, e, rfl, ⟨dx, l, h1, h2⟩, k⟩ := h
    refine ⟨_, (pss_one (ps_ret (pe_ifExp (pt_cmpR (op_eqD hr.units) (pe_fld (pv 0) (by rfl)) (pe_lst pa_nil) (nomark _)) pe_int (pe_op op_add (pe_callB call_len_seq (by rfl) T.z_len (by decide +kernel) (pa_cons (pe_fld (pv 0) (by rfl)) pa_nil)) (pe_fld (pv 0) (by rfl)))))), ?_⟩
    refine ⟨_, rfl, a, _, dx, _, _, rfl, h1, T.c_Case, T.n_arrivals, cF_arrivals l e, Nat.zero_le _, fun p np => ?_⟩
    have s1 : Same H (upd H p (.lst [])) := same_new np
    refine ⟨_, _, dp_nz (SqL.of (s1 _ _ h2)), dp_nil (SqL.of upd_same), PySem.W.ke_shaped_ints _, PySem.W.ke_shaped_ints [], _, rfl, ?_⟩
    rw [eqv_nil]
    by_cases c : e.arrivals = []
    · rw [decide_eq_true c]
      refine iteT (k _ s1 |> fun q => ?_)
      have z : e.scheduleLength = 0 := by
        unfold Entrance.scheduleLength Entrance.minutes
        rw [c]
        rfl
      rw [z] at q
      exact q
    · rw [decide_eq_false c]
      refine iteF ?_
      refine ⟨_, rfl, a, _, dx, _, _, rfl, s1 _ _ h1, T.c_Case, T.n_arrivals, cF_arrivals l e, l, _, rfl, .inl (SqL.of (s1 _ _ h2)), _, rfl, a, _, dx, _, _, rfl, s1 _ _ h1, T.c_Case, T.n_max_wait, cF_max_wait l e, _, _, rfl, rfl, ?_⟩
      have z : e.scheduleLength = e.arrivals.length + e.maxWait := by
        unfold Entrance.scheduleLength Entrance.minutes
        rw [if_neg fun q => c (List.length_eq_zero_iff.mp q)]
      have q := k _ s1
      rw [z] at q
      rw [nz_len]
      rw [show (((e.arrivals.length + e.maxWait : Nat)) : Int) = (e.arrivals.length : Int) + (e.maxWait : Int) by omega] at q
      exact q
/-! ### other cases -/
def sp_Case_with_minutes (C : Addr) : Sp := fun vs H Q _ => ∃ (a l' : Addr) (e : Entrance) (arr : List Nat), vs = [.ref a, .ref l'] ∧ CaseAt C H a e ∧ H l' = some (.lst (nz arr)) ∧
  ∀ H' x, Same H H' → CaseAt C H' x { e with arrivals := arr } → (∀ l, ArrAt C H' x l → l = l') → Q (.ref x) H'
theorem sc_Case_with_minutes : FnScope ["self", "arrivals"] ["self", "arrivals"] (defScope s_Case_with_minutes) := ⟨rfl, rfl, rfl, by decide +kernel, rfl, by decide +kernel, by decide +kernel⟩
theorem ok_Case_with_minutes (T : Txt K mg A) : FnOk P w K mg base CX0 3 A.f_Case_with_minutes A.d_Case_with_minutes ["self", "arrivals"] (sp_Case_with_minutes A.Case) := by
  refine T.d_Case_with_minutes.F.ok sc_Case_with_minutes (fun vs H Q E h => ?_) (fun cdv Ar outer s H vs Q E hr h => ?_)
  · obtain ⟨a, l', e, arr, rfl, _⟩ := h
    rfl
  · obtain ⟨a, l', e, arr, rfl, ⟨dx, l, h1, h2⟩, h3, k⟩ := h
    refine ⟨_, (pss_one (ps_ret (pe_make T.mk_Case (ok_Case_init T) (hr.mono (by decide)) (by rfl) T.g_Case T.d_Case_init.b .nil pass0 (pa_cons (pv 1) (pa_cons (pe_fld (pv 0) (by rfl)) (pa_cons (pe_fld (pv 0) (by rfl)) (pa_cons (pe_fld (pv 0) (by rfl)) pa_nil))))))), ?_⟩
    refine ⟨_, rfl, _, rfl, a, _, dx, _, _, rfl, h1, T.c_Case, T.n_per_gate, cF_per_gate l e, _, rfl, a, _, dx, _, _, rfl, h1, T.c_Case, T.n_max_gates, cF_max_gates l e,
      _, rfl, a, _, dx, _, _, rfl, h1, T.c_Case, T.n_max_wait, cF_max_wait l e, ?_⟩
    intro x dy nx ny nxy
    refine ⟨x, dy, _, _, _, _, rfl, upd_same, fun H1 q1 kp => ⟨rfl, ?_⟩⟩
    have s1 : Same H H1 := Same.made nx ny kp
    exact k _ _ s1 ⟨dy, l', q1, s1 _ _ h3⟩ fun l2 h => arr_is q1 h
def sp_Case_with_per_gate (C : Addr) : Sp := fun vs H Q _ => ∃ (a : Addr) (e : Entrance) (n : Nat), vs = [.ref a, .int ((n : Nat) : Int)] ∧ CaseAt C H a e ∧
  ∀ H' x, Same H H' → CaseAt C H' x { e with perGate := n } → (∀ l, ArrAt C H' x l → ArrAt C H a l) → Q (.ref x) H'
theorem sc_Case_with_per_gate : FnScope ["self", "people"] ["self", "people"] (defScope s_Case_with_per_gate) := ⟨rfl, rfl, rfl, by decide +kernel, rfl, by decide +kernel, by decide +kernel⟩
theorem ok_Case_with_per_gate (T : Txt K mg A) : FnOk P w K mg base CX0 3 A.f_Case_with_per_gate A.d_Case_with_per_gate ["self", "people"] (sp_Case_with_per_gate A.Case) := by
  refine T.d_Case_with_per_gate.F.ok sc_Case_with_per_gate (fun vs H Q E h => ?_) (fun cdv Ar outer s H vs Q E hr h => ?_)
  · obtain ⟨a, e, n, rfl, _⟩ := h
    rfl
  · obtain ⟨a, e, n, rfl, ⟨dx, l, h1, h2⟩, k⟩ := h
    refine ⟨_, (pss_one (ps_ret (pe_make T.mk_Case (ok_Case_init T) (hr.mono (by decide)) (by rfl) T.g_Case T.d_Case_init.b .nil pass0 (pa_cons (pe_fld (pv 0) (by rfl)) (pa_cons (pv 1) (pa_cons (pe_fld (pv 0) (by rfl)) (pa_cons (pe_fld (pv 0) (by rfl)) pa_nil))))))), ?_⟩
    refine ⟨_, rfl, a, _, dx, _, _, rfl, h1, T.c_Case, T.n_arrivals, cF_arrivals l e, _, rfl, _, rfl, a, _, dx, _, _, rfl, h1, T.c_Case, T.n_max_gates, cF_max_gates l e,
      _, rfl, a, _, dx, _, _, rfl, h1, T.c_Case, T.n_max_wait, cF_max_wait l e, ?_⟩
    intro x dy nx ny nxy
    refine ⟨x, dy, _, _, _, _, rfl, upd_same, fun H1 q1 kp => ⟨rfl, ?_⟩⟩
    have s1 : Same H H1 := Same.made nx ny kp
    exact k _ _ s1 ⟨dy, l, q1, s1 _ _ h2⟩ fun l2 h => by
      rw [arr_is q1 h]
      exact ⟨dx, e, h1⟩
def sp_Case_with_max_gates (C : Addr) : Sp := fun vs H Q _ => ∃ (a : Addr) (e : Entrance) (n : Nat), vs = [.ref a, .int ((n : Nat) : Int)] ∧ CaseAt C H a e ∧
  ∀ H' x, Same H H' → CaseAt C H' x { e with maxGates := n } → (∀ l, ArrAt C H' x l → ArrAt C H a l) → Q (.ref x) H'
theorem sc_Case_with_max_gates : FnScope ["self", "gates"] ["self", "gates"] (defScope s_Case_with_max_gates) := ⟨rfl, rfl, rfl, by decide +kernel, rfl, by decide +kernel, by decide +kernel⟩
theorem ok_Case_with_max_gates (T : Txt K mg A) : FnOk P w K mg base CX0 3 A.f_Case_with_max_gates A.d_Case_with_max_gates ["self", "gates"] (sp_Case_with_max_gates A.Case) := by
  refine T.d_Case_with_max_gates.F.ok sc_Case_with_max_gates (fun vs H Q E h => ?_) (fun cdv Ar outer s H vs Q E hr h => ?_)
  · obtain ⟨a, e, n, rfl, _⟩ := h
    rfl
  · obtain ⟨a, e, n, rfl, ⟨dx, l, h1, h2⟩, k⟩ := h
    refine ⟨_, (pss_one (ps_ret (pe_make T.mk_Case (ok_Case_init T) (hr.mono (by decide)) (by rfl) T.g_Case T.d_Case_init.b .nil pass0 (pa_cons (pe_fld (pv 0) (by rfl)) (pa_cons (pe_fld (pv 0) (by rfl)) (pa_cons (pv 1) (pa_cons (pe_fld (pv 0) (by rfl)) pa_nil))))))), ?_⟩
    refine ⟨_, rfl, a, _, dx, _, _, rfl, h1, T.c_Case, T.n_arrivals, cF_arrivals l e, _, rfl, a, _, dx, _, _, rfl, h1, T.c_Case, T.n_per_gate, cF_per_gate l e, _, rfl,
      _, rfl, a, _, dx, _, _, rfl, h1, T.c_Case, T.n_max_wait, cF_max_wait l e, ?_⟩
    intro x dy nx ny nxy
    refine ⟨x, dy, _, _, _, _, rfl, upd_same, fun H1 q1 kp => ⟨rfl, ?_⟩⟩
    have s1 : Same H H1 := Same.made nx ny kp
    exact k _ _ s1 ⟨dy, l, q1, s1 _ _ h2⟩ fun l2 h => by
      rw [arr_is q1 h]
      exact ⟨dx, e, h1⟩
def sp_Case_with_max_wait (C : Addr) : Sp := fun vs H Q _ => ∃ (a : Addr) (e : Entrance) (n : Nat), vs = [.ref a, .int ((n : Nat) : Int)] ∧ CaseAt C H a e ∧
  ∀ H' x, Same H H' → CaseAt C H' x { e with maxWait := n } → (∀ l, ArrAt C H' x l → ArrAt C H a l) → Q (.ref x) H'
theorem sc_Case_with_max_wait : FnScope ["self", "minutes"] ["self", "minutes"] (defScope s_Case_with_max_wait) := ⟨rfl, rfl, rfl, by decide +kernel, rfl, by decide +kernel, by decide +kernel⟩
theorem ok_Case_with_max_wait (T : Txt K mg A) : FnOk P w K mg base CX0 3 A.f_Case_with_max_wait A.d_Case_with_max_wait ["self", "minutes"] (sp_Case_with_max_wait A.Case) := by
  refine T.d_Case_with_max_wait.F.ok sc_Case_with_max_wait (fun vs H Q E h => ?_) (fun cdv Ar outer s H vs Q E hr h => ?_)
  · obtain ⟨a, e, n, rfl, _⟩ := h
    rfl
  · obtain ⟨a, e, n, rfl, ⟨dx, l, h1, h2⟩, k⟩ := h
    refine ⟨_, (pss_one (ps_ret (pe_make T.mk_Case (ok_Case_init T) (hr.mono (by decide)) (by rfl) T.g_Case T.d_Case_init.b .nil pass0 (pa_cons (pe_fld (pv 0) (by rfl)) (pa_cons (pe_fld (pv 0) (by rfl)) (pa_cons (pe_fld (pv 0) (by rfl)) (pa_cons (pv 1) pa_nil))))))), ?_⟩
    refine ⟨_, rfl, a, _, dx, _, _, rfl, h1, T.c_Case, T.n_arrivals, cF_arrivals l e, _, rfl, a, _, dx, _, _, rfl, h1, T.c_Case, T.n_per_gate, cF_per_gate l e,
      _, rfl, a, _, dx, _, _, rfl, h1, T.c_Case, T.n_max_gates, cF_max_gates l e, _, rfl, ?_⟩
    intro x dy nx ny nxy
    refine ⟨x, dy, _, _, _, _, rfl, upd_same, fun H1 q1 kp => ⟨rfl, ?_⟩⟩
    have s1 : Same H H1 := Same.made nx ny kp
    exact k _ _ s1 ⟨dy, l, q1, s1 _ _ h2⟩ fun l2 h => by
      rw [arr_is q1 h]
      exact ⟨dx, e, h1⟩
theorem set_parts {l : List Nat} {m p : Nat} (h : m < l.length) : (nz l).take m ++ [V.int ((p : Nat) : Int)] ++ (nz l).drop (m + 1) = nz (l.set m p) := by
  rw [List.set_eq_take_append_cons_drop, if_pos h, nz_append, nz_take, List.append_assoc]
  show _ = _ ++ (V.int ((p : Nat) : Int) :: nz (l.drop (m + 1)))
  rw [nz_drop]
  rfl
def sp_Case_with_arrivals (C : Addr) : Sp := fun vs H Q _ => ∃ (a : Addr) (e : Entrance) (m p : Nat), vs = [.ref a, .int ((m : Nat) : Int), .int ((p : Nat) : Int)] ∧ CaseAt C H a e ∧ m < e.arrivals.length ∧ e.arrivals.length ≤ 10 ∧
  ∀ H' x, Same H H' → CaseAt C H' x (e.withArrivals m p) → (∀ l, ArrAt C H' x l → H l = none) → Q (.ref x) H'
theorem sc_Case_with_arrivals : FnScope ["self", "minute", "people"] ["self", "minute", "people"] (defScope s_Case_with_arrivals) := ⟨rfl, rfl, rfl, by decide +kernel, rfl, by decide +kernel, by decide +kernel⟩
theorem ok_Case_with_arrivals (T : Txt K mg A) : FnOk P w K mg base CX0 4 A.f_Case_with_arrivals A.d_Case_with_arrivals ["self", "minute", "people"] (sp_Case_with_arrivals A.Case) := by
  refine T.d_Case_with_arrivals.F.ok sc_Case_with_arrivals (fun vs H Q E h => ?_) (fun cdv Ar outer s H vs Q E hr h => ?_)
  · obtain ⟨a, e, m, p, rfl, _⟩ := h
    rfl
  · obtain ⟨a, e, m, p, rfl, ⟨dx, l, h1, h2⟩, hm, h10, k⟩ := h
    refine ⟨_, (pss_one (ps_ret (pe_meth (pv 0) T.c_Case T.d_Case_with_minutes.m (ok_Case_with_minutes T) (hr.mono (by decide)) T.d_Case_with_minutes.b .nil pass0 (pa_cons (pe_op op_cat (pe_op op_cat (pe_slice sl_list (pe_fld (pv 0) (by rfl)) po_none (po_some (pv 1))) (pe_lst (pa_cons (pv 2) pa_nil))) (pe_slice sl_list (pe_fld (pv 0) (by rfl)) (po_some (pe_op op_add (pv 1) pe_int)) po_none)) pa_nil)))), ?_⟩
    refine ⟨_, rfl, a, dx, _, rfl, h1, cF_with_minutes l e, ?_⟩
    refine ⟨_, rfl, a, _, dx, _, _, rfl, h1, T.c_Case, T.n_arrivals, cF_arrivals l e, _, rfl, _, rfl, l, _, rfl, SqL.of h2, fun p1 n1 => ?_⟩
    rw [cut_to]
    have s1 := same_new (o := .lst ((nz e.arrivals).take m)) n1
    refine ⟨_, rfl, (by show 1 ≤ sizeLine; decide), fun p2 n2 => ?_⟩
    have s2 := same_new (o := .lst [V.int ((p : Nat) : Int)]) n2
    refine ⟨p1, p2, _, _, rfl, rfl, s2 _ _ upd_same, upd_same, size10 (by rw [List.length_take, nz_len, List.length_singleton]; omega), fun p3 n3 => ?_⟩
    have s3 := same_new (o := .lst ((nz e.arrivals).take m ++ [V.int ((p : Nat) : Int)])) n3
    have s13 := s1.trans (s2.trans s3)
    refine ⟨_, rfl, a, _, dx, _, _, rfl, s13 _ _ h1, T.c_Case, T.n_arrivals, cF_arrivals l e, _, rfl, _, _, rfl, rfl, _, rfl, l, _, rfl, SqL.of (s13 _ _ h2), fun p4 n4 => ?_⟩
    rw [show (m : Int) + 1 = ((m + 1 : Nat) : Int) by omega, cut_from] at *
    have s4 := same_new (o := .lst ((nz e.arrivals).drop (m + 1))) n4
    refine ⟨p3, p4, _, _, rfl, rfl, s4 _ _ upd_same, upd_same, size10 (by rw [List.length_append, List.length_take, List.length_drop, nz_len, List.length_singleton]; omega), fun p5 n5 => ?_⟩
    have s5 := same_new (o := .lst ((nz e.arrivals).take m ++ [V.int ((p : Nat) : Int)] ++ (nz e.arrivals).drop (m + 1))) n5
    have s15 := s13.trans (s4.trans s5)
    refine ⟨a, p5, e, e.arrivals.set m p, rfl, ⟨dx, l, s15 _ _ h1, s15 _ _ h2⟩, ?_, fun H' x s6 c6 ar => ?_⟩
    · rw [upd_same, set_parts hm]
    · exact k _ _ (s15.trans s6) c6 fun l2 h => by
        rw [ar l2 h]
        exact s13.free (s4.free n5)
/-! ### require -/
def sp_require (CF : Addr) : Sp := fun vs H Q E => ∃ (b : Bool) (c : Int), vs = [.bl b, .int c] ∧ (b = true → Q .non H) ∧ (b = false → Err CF E c H)
theorem sc_require : FnScope ["is_right", "code"] ["is_right", "code"] (defScope s_require) := ⟨rfl, rfl, rfl, by decide +kernel, rfl, by decide +kernel, by decide +kernel⟩
theorem ok_require (T : Txt K mg A) : FnOk P w K mg base (L2.CX P w) 3 A.f_require A.d_require ["is_right", "code"] (sp_require A.Refusal) := by
  refine T.d_require.F.okX sc_require (fun vs H Q E h => ?_) (fun cdv Ar outer s H vs Q E hr h => ?_)
  · obtain ⟨b, c, rfl, _⟩ := h
    rfl
  · obtain ⟨b, c, rfl, k1, k2⟩ := h
    refine ⟨_, (pss_one (ps_if (pt_not (pt_val (pv 0))) (pss_one (ps_raiseRef rfl T.ref (hr.mono (by decide : 1 ≤ 2)) (takes_of rfl rfl rfl rfl) (pa_cons (pv 1) pa_nil))) pss_nil)), ?_⟩
    refine ⟨_, rfl, b, rfl, ?_⟩
    cases b with
    | true => exact iteF (k1 rfl)
    | false => exact iteT ⟨_, rfl, _, rfl, fun d hd => k2 rfl _ d (same_new hd) upd_same⟩
end
end Gw

set_option Elab.async false
set_option linter.all false
set_option maxRecDepth 100000
set_option maxHeartbeats 2000000
/-! best.py. -/
namespace Gw
open PySem PySem.Spec PyProof.Rows L2
open PySem.W (Codec)
open Kv435 (Entrance sumBetween)
open Gh (ele pre badAt relax loop1 loop2 loop3 raisedM leastM bestM diffs)
/-- an if whose test is known -/
theorem ifT {c : Bool} {A B : Prop} (hc : c = true) (h : A) : if c = true then A else B := by
  rw [if_pos hc]
  exact h
theorem ifF {c : Bool} {A B : Prop} (hc : c = false) (h : B) : if c = true then A else B := by
  rw [hc, if_neg Bool.false_ne_true]
  exact h
theorem room_int {p g t w s : Nat} (hs : s ≤ t) : (p : Int) * (g : Int) * ((t : Int) + (w : Int) + 1 - (s : Int)) = ((p * (g * (t + w + 1 - s)) : Nat) : Int) := by
  rw [Int.natCast_mul, Int.natCast_mul, Int.natCast_sub (by omega), Int.mul_assoc]
  rfl
theorem need_int {s p : Nat} (hp : 1 ≤ p) : ((s : Int) + (p : Int) - 1) / (p : Int) = ((Kv435.divideUp s p : Nat) : Int) := by
  unfold Kv435.divideUp
  rw [Int.natCast_ediv]
  congr 1
  omega
theorem max_int (a b : Nat) : (if (b : Int) > (a : Int) then (b : Int) else (a : Int)) = ((max a b : Nat) : Int) := by
  by_cases h : (b : Int) > (a : Int)
  · rw [if_pos h]
    omega
  · rw [if_neg h]
    omega
theorem max_sub (a b M : Nat) : (if (b : Int) - (M : Int) > (a : Int) then (b : Int) - (M : Int) else (a : Int)) = ((max a (b + 0 - M) : Nat) : Int) := by
  by_cases h : (b : Int) - (M : Int) > (a : Int)
  · rw [if_pos h]
    omega
  · rw [if_neg h]
    omega
theorem ixN_nat {n k : Nat} (h : k < n) : ixN n (k : Int) = some k := by
  unfold ixN
  rw [if_pos (by omega), if_pos (by omega)]
  simp
theorem nz_ix {l : List Nat} {k : Nat} (h : k < l.length) : ixN (nz l).length (k : Int) = some k := ixN_nat (by rw [nz_len]; exact h)
theorem nz_atI {l : List Nat} {k : Nat} (h : k < l.length) : atI (nz l) (k : Int) = some (.int ((ele l k : Nat) : Int)) := atI_nat (nz_at h)
/-- a store at an address that the def itself made -/
theorem same_put {H H2 : Hp} {p : Addr} {o : HO} (np : H p = none) (s : Same H H2) : Same H (upd H2 p o) := fun b x q => by
  rw [upd_ne (ne_of_none q np)]
  exact s _ _ q
theorem bad_iff {e : Entrance} {s t : Nat} : decide (((e.perGate * (e.maxGates * (t + e.maxWait + 1 - s)) : Nat) : Int) < ((sumBetween e.arrivals s t : Nat) : Int)) = badAt e s t := by
  unfold badAt
  apply Bool.eq_iff_iff.mpr
  rw [decide_eq_true_iff, decide_eq_true_iff]
  omega
section
variable {P : Program} {w : World} {K : PySem.W.Frag} {mg : Str → Option Value} {base : Heap} {A : Adr}
def sp_room (C : Addr) : Sp := fun vs H Q _ => ∃ (a : Addr) (e : Entrance) (s t : Nat), vs = [.ref a, .int ((s : Nat) : Int), .int ((t : Nat) : Int)] ∧ CaseAt C H a e ∧ Good e ∧ s ≤ t ∧
  Q (.int ((e.perGate * (e.maxGates * (t + e.maxWait + 1 - s)) : Nat) : Int)) H
theorem sc_room : FnScope ["case", "first", "last"] ["case", "first", "last"] (defScope s_room) := ⟨rfl, rfl, rfl, by decide +kernel, rfl, by decide +kernel, by decide +kernel⟩
theorem ok_room (T : Txt K mg A) : FnOk P w K mg base CX0 1 A.f_room A.d_room ["case", "first", "last"] (sp_room A.Case) := by
  refine T.d_room.F.ok sc_room (fun vs H Q E h => ?_) (fun cdv Ar outer s H vs Q E hr h => ?_)
  · obtain ⟨a, e, s, t, rfl, _⟩ := h
    rfl
  · obtain ⟨a, e, s, t, rfl, ⟨dx, l, h1, h2⟩, G, hst, k⟩ := h
    refine ⟨_, (pss_one (ps_ret (pe_op op_mul (pe_op op_mul (pe_fld (pv 0) (by rfl)) (pe_fld (pv 0) (by rfl))) (pe_op op_sub (pe_op op_add (pe_op op_add (pv 2) (pe_fld (pv 0) (by rfl))) pe_int) (pv 1))))), ?_⟩
    refine ⟨_, rfl, a, _, dx, _, _, rfl, h1, T.c_Case, T.n_per_gate, cF_per_gate l e, _, rfl, a, _, dx, _, _, rfl, h1, T.c_Case, T.n_max_gates, cF_max_gates l e, _, _, rfl, rfl, .inl ⟨by omega, by have := G.p9; omega⟩, ?_⟩
    refine ⟨_, rfl, _, rfl, a, _, dx, _, _, rfl, h1, T.c_Case, T.n_max_wait, cF_max_wait l e, _, _, rfl, rfl, _, _, rfl, rfl, _, rfl, _, _, rfl, rfl, ?_⟩
    refine ⟨_, _, rfl, rfl, .inl ?_, ?_⟩
    · have q1 : e.perGate * e.maxGates ≤ 9 * 6 := Nat.mul_le_mul G.p9 G.g6
      have q2 : (e.perGate : Int) * (e.maxGates : Int) = ((e.perGate * e.maxGates : Nat) : Int) := (Int.natCast_mul _ _).symm
      rw [q2]
      omega
    · rw [← room_int hst] at k
      exact k
def sp_infeasible_interval (C : Addr) : Sp := fun vs H Q _ => ∃ (a : Addr) (e : Entrance), vs = [.ref a] ∧ CaseAt C H a e ∧ Good e ∧
  (∀ s t : Nat, s ≤ t → t < e.minutes → e.infeasibleInterval = some (s, t) → ∀ H' p, Same H H' → H' p = some (.tup [.int ((s : Nat) : Int), .int ((t : Nat) : Int)]) → Q (.ref p) H') ∧
  (e.infeasibleInterval = none → ∀ H', Same H H' → Q .non H')
theorem sc_infeasible_interval : FnScope ["case", "last", "first"] ["case"] (defScope s_infeasible_interval) := ⟨rfl, rfl, rfl, by decide +kernel, rfl, by decide +kernel, by decide +kernel⟩
theorem ok_infeasible_interval (T : Txt K mg A) : FnOk P w K mg base CX0 2 A.f_infeasible_interval A.d_infeasible_interval ["case"] (sp_infeasible_interval A.Case) := by
  refine T.d_infeasible_interval.F.ok sc_infeasible_interval (fun vs H Q E h => ?_) (fun cdv Ar outer s H vs Q E hr h => ?_)
  · obtain ⟨a, e, rfl, _⟩ := h
    rfl
  · obtain ⟨a, e, rfl, hc, G, k1, k2⟩ := h
    refine ⟨_, (pss_cons (ps_for PassesOwn.never rfl (pi_range1 (by rfl) T.z_range (pa_cons (pe_meth0 (pv 0) T.c_Case T.d_Case_count.m (ok_Case_count T) (hr.mono (by decide)) T.d_Case_count.b .nil pass0) pa_nil)) (pg_name (i := 1) sc_infeasible_interval.nd rfl (Or.inl rfl)) (pss_one (ps_for PassesOwn.never rfl (pi_range1 (by rfl) T.z_range (pa_cons (pe_op op_add (pv 1) pe_int) pa_nil)) (pg_name (i := 2) sc_infeasible_interval.nd rfl (Or.inl rfl)) (pss_one (ps_if (pt_cmp (pc_gt (pe_meth (pv 0) T.c_Case T.d_Case_total.m (ok_Case_total T) (hr.mono (by decide)) T.d_Case_total.b .nil pass0 (pa_cons (pv 2) (pa_cons (pv 1) pa_nil))) (pe_call (ok_room T) (hr.mono (by decide)) (by rfl) T.d_room.g T.d_room.F.kp T.d_room.b .nil pass0 (pa_cons (pv 0) (pa_cons (pv 2) (pa_cons (pv 1) pa_nil))))) (nobehind _ (by decide) (by decide))) (pss_one (ps_ret (pe_tup (pa_cons (pv 2) (pa_cons (pv 1) pa_nil))))) pss_nil)))))
        (pss_one (ps_ret pe_non))), ?_⟩
    obtain ⟨dx, l, h1, h2⟩ := id hc
    have m10 : e.minutes ≤ 10 := G.m10
    refine ⟨_, rfl, a, dx, _, rfl, h1, cF_count l e, a, e, rfl, hc, _, rfl, by omega, by omega, ?_⟩
    refine for_range (lo := 0) (n := e.minutes) (fun t σ H' => Same H H' ∧ (∃ v1 v2, σ = [some (.ref a), v1, v2]) ∧ ∀ u, u < t → ∀ s, s ≤ u → badAt e s u = false)
      ⟨Same.refl H, ⟨none, none, rfl⟩, fun u hu => absurd hu (Nat.not_lt_zero _)⟩ ?_ ?_
    · rintro t σ H1 ht ⟨s1, ⟨v1, v2, rfl⟩, no⟩
      rw [Int.zero_add]
      refine ⟨_, rfl, _, _, rfl, rfl, _, rfl, by omega, by omega, ?_⟩
      have et : ((t : Int) + 1).toNat = t + 1 := by omega
      rw [et]
      refine for_range (lo := 0) (n := t + 1) (fun s σ H' => Same H H' ∧ (∃ v2, σ = [some (.ref a), some (.int ((t : Nat) : Int)), v2]) ∧ ∀ b, b < s → badAt e b t = false)
        ⟨s1, ⟨v2, rfl⟩, fun b hb => absurd hb (Nat.not_lt_zero _)⟩ ?_ ?_
      · rintro s σ H2 hs ⟨s2, ⟨v, rfl⟩, no2⟩
        rw [Int.zero_add]
        refine ⟨_, rfl, a, dx, _, rfl, s2 _ _ h1, cF_total l e, _, rfl, _, rfl, a, e, s, t, rfl, hc.same s2, fun H3 s3 => ?_⟩
        have s23 := s2.trans s3
        refine ⟨_, rfl, _, rfl, _, rfl, a, e, s, t, rfl, hc.same s23, G, by omega, _, _, rfl, rfl, _, rfl, ?_⟩
        cases hb : badAt e s t with
        | true =>
          refine ifT (bad_iff.trans hb) ⟨_, rfl, _, rfl, (by show 2 ≤ sizeLine; decide), fun p np => ?_⟩
          exact k1 s t (by omega) ht (Gh.interval_some ht (by omega) hb no2 no) _ p (s23.trans (same_new np)) upd_same
        | false =>
          refine ifF (bad_iff.trans hb) ⟨s23, ⟨_, rfl⟩, fun b hb2 => ?_⟩
          by_cases c : b = s
          · rw [c]
            exact hb
          · exact no2 b (by omega)
      · rintro σ H2 ⟨s2, ⟨v, rfl⟩, no2⟩
        refine ⟨s2, ⟨_, _, rfl⟩, fun u hu b hb => ?_⟩
        by_cases c : u = t
        · rw [c]
          exact no2 b (by omega)
        · exact no u (by omega) b hb
    · rintro σ H1 ⟨s1, ⟨v1, v2, rfl⟩, no⟩
      exact k2 (Gh.interval_no no) _ s1
def sp_is_possible (C : Addr) : Sp := fun vs H Q _ => ∃ (a : Addr) (e : Entrance), vs = [.ref a] ∧ CaseAt C H a e ∧ Good e ∧ ∀ H', Same H H' → Q (.bl e.isPossible) H'
theorem sc_is_possible : FnScope ["case"] ["case"] (defScope s_is_possible) := ⟨rfl, rfl, rfl, by decide +kernel, rfl, by decide +kernel, by decide +kernel⟩
theorem ok_is_possible (T : Txt K mg A) : FnOk P w K mg base CX0 3 A.f_is_possible A.d_is_possible ["case"] (sp_is_possible A.Case) := by
  refine T.d_is_possible.F.ok sc_is_possible (fun vs H Q E h => ?_) (fun cdv Ar outer s H vs Q E hr h => ?_)
  · obtain ⟨a, e, rfl, _⟩ := h
    rfl
  · obtain ⟨a, e, rfl, hc, G, k⟩ := h
    refine ⟨_, (pss_one (ps_ret (pe_cmp (pc_isN (pe_call (ok_infeasible_interval T) (hr.mono (by decide)) (by rfl) T.d_infeasible_interval.g T.d_infeasible_interval.F.kp T.d_infeasible_interval.b .nil pass0 (pa_cons (pv 0) pa_nil))) rfl))), ?_⟩
    refine ⟨_, rfl, a, e, rfl, hc, G, fun s t _ _ hi H' p s' hp => ?_, fun hi H' s' => ?_⟩
    · have z : e.isPossible = decide (V.ref p = V.non) := by
        rw [Gh.possible_eq G.p1, hi, decide_eq_false (by intro q; cases q)]
        rfl
      have q := k _ s'
      rw [z] at q
      exact q
    · have z : e.isPossible = decide (V.non = V.non) := by
        rw [Gh.possible_eq G.p1, hi, decide_eq_true rfl]
        rfl
      have q := k _ s'
      rw [z] at q
      exact q
def sp_needed (C : Addr) : Sp := fun vs H Q _ => ∃ (a : Addr) (e : Entrance) (s t : Nat), vs = [.ref a, .int ((s : Nat) : Int), .int ((t : Nat) : Int)] ∧ CaseAt C H a e ∧ Good e ∧ ∀ H', Same H H' → Q (.int ((Gh.need e s t : Nat) : Int)) H'
theorem sc_needed : FnScope ["case", "first", "last"] ["case", "first", "last"] (defScope s_needed) := ⟨rfl, rfl, rfl, by decide +kernel, rfl, by decide +kernel, by decide +kernel⟩
theorem ok_needed (T : Txt K mg A) : FnOk P w K mg base CX0 2 A.f_needed A.d_needed ["case", "first", "last"] (sp_needed A.Case) := by
  refine T.d_needed.F.ok sc_needed (fun vs H Q E h => ?_) (fun cdv Ar outer s H vs Q E hr h => ?_)
  · obtain ⟨a, e, s, t, rfl, _⟩ := h
    rfl
  · obtain ⟨a, e, s, t, rfl, hc, G, k⟩ := h
    refine ⟨_, (pss_one (ps_ret (pe_op op_fdiv (pe_op op_sub (pe_op op_add (pe_meth (pv 0) T.c_Case T.d_Case_total.m (ok_Case_total T) (hr.mono (by decide)) T.d_Case_total.b .nil pass0 (pa_cons (pv 1) (pa_cons (pv 2) pa_nil))) (pe_fld (pv 0) (by rfl))) pe_int) (pe_fld (pv 0) (by rfl))))), ?_⟩
    obtain ⟨dx, l, h1, h2⟩ := id hc
    refine ⟨_, rfl, a, dx, _, rfl, h1, cF_total l e, _, rfl, _, rfl, a, e, s, t, rfl, hc, fun H1 s1 => ?_⟩
    refine ⟨_, rfl, a, _, dx, _, _, rfl, s1 _ _ h1, T.c_Case, T.n_per_gate, cF_per_gate l e, _, _, rfl, rfl, _, _, rfl, rfl, ?_⟩
    refine ⟨_, rfl, a, _, dx, _, _, rfl, s1 _ _ h1, T.c_Case, T.n_per_gate, cF_per_gate l e, _, _, rfl, rfl, ⟨by have := G.p1; omega, by have := G.p9; omega⟩, ?_⟩
    have q := k _ s1
    unfold Gh.need at q
    rw [← need_int G.p1] at q
    exact q
end
end Gw

set_option Elab.async false
set_option linter.all false
set_option maxRecDepth 100000
set_option maxHeartbeats 2000000
/-! best.py, the sums. -/
namespace Gw
open PySem PySem.Spec PyProof.Rows L2
open PySem.W (Codec)
open Kv435 (Entrance sumBetween)
open Gh (ele pre badAt relax loop1 loop2 loop3 raisedM leastM bestM diffs)
theorem nz_atz {l : List Nat} {k : Nat} {z : Int} (hz : z = (k : Int)) (h : k < l.length) : atI (nz l) z = some (.int ((ele l k : Nat) : Int)) := by
  rw [hz]
  exact nz_atI h
theorem nz_ixz {l : List Nat} {k : Nat} {z : Int} (hz : z = (k : Int)) (h : k < l.length) : ixN (nz l).length z = some k := by
  rw [hz]
  exact nz_ix h
theorem fold_len {α : Type} {g : List Nat → α → List Nat} (hg : ∀ f x, (g f x).length = f.length) : ∀ (l : List α) (f : List Nat), (l.foldl g f).length = f.length
  | [], _ => rfl
  | x :: r, f => by rw [List.foldl_cons, fold_len hg r, hg]
/-- the rounds' parts -/
def inner1 (e : Entrance) (t s : Nat) (f : List Nat) : List Nat := (List.range s).foldl (fun f s => relax s (t + e.maxWait + 1) (Gh.need e s t) 0 f) f
def outer1 (e : Entrance) (t : Nat) (f : List Nat) : List Nat := (List.range t).foldl (fun f t => inner1 e t (t + 1) f) f
theorem inner1_succ (e : Entrance) (t s : Nat) (f : List Nat) : inner1 e t (s + 1) f = relax s (t + e.maxWait + 1) (Gh.need e s t) 0 (inner1 e t s f) := by
  unfold inner1
  rw [List.range_succ, List.foldl_append]
  rfl
theorem outer1_succ (e : Entrance) (t : Nat) (f : List Nat) : outer1 e (t + 1) f = inner1 e t (t + 1) (outer1 e t f) := by
  unfold outer1
  rw [List.range_succ, List.foldl_append]
  rfl
theorem inner1_len (e : Entrance) (t s : Nat) (f : List Nat) : (inner1 e t s f).length = f.length := fold_len (fun f x => Gh.relax_len _ _ _ _ _) _ _
theorem outer1_len (e : Entrance) (t : Nat) (f : List Nat) : (outer1 e t f).length = f.length := fold_len (fun f x => inner1_len _ _ _ _) _ _
def part2 (i : Nat) (f : List Nat) : List Nat := (List.range i).foldl (fun f i => relax i (i + 1) 0 0 f) f
theorem part2_succ (i : Nat) (f : List Nat) : part2 (i + 1) f = relax i (i + 1) 0 0 (part2 i f) := by
  unfold part2
  rw [List.range_succ, List.foldl_append]
  rfl
theorem part2_len (i : Nat) (f : List Nat) : (part2 i f).length = f.length := fold_len (fun f x => Gh.relax_len _ _ _ _ _) _ _
def part3 (M L i : Nat) (f : List Nat) : List Nat := (List.range i).foldl (fun g i => relax (L - i) (L - i - 1) 0 M g) f
theorem part3_succ (M L i : Nat) (f : List Nat) : part3 M L (i + 1) f = relax (L - i) (L - i - 1) 0 M (part3 M L i f) := by
  unfold part3
  rw [List.range_succ, List.foldl_append]
  rfl
theorem part3_len (M L i : Nat) (f : List Nat) : (part3 M L i f).length = f.length := fold_len (fun f x => Gh.relax_len _ _ _ _ _) _ _
theorem raised_parts (e : Entrance) (f : List Nat) (L : Nat) (h : f.length = L + 1) : raisedM e f = part3 e.maxGates L L (part2 L (outer1 e e.minutes f)) := by
  have a1 : loop1 e f = outer1 e e.minutes f := rfl
  have l1 : (outer1 e e.minutes f).length = L + 1 := by rw [outer1_len, h]
  have a2 : loop2 (outer1 e e.minutes f) = part2 L (outer1 e e.minutes f) := by
    unfold loop2 part2
    rw [l1]
    rfl
  have l2 : (part2 L (outer1 e e.minutes f)).length = L + 1 := by rw [part2_len, l1]
  unfold raisedM
  rw [a1, a2]
  unfold loop3 part3
  rw [l2]
  rfl
section
variable {P : Program} {w : World} {K : PySem.W.Frag} {mg : Str → Option Value} {base : Heap} {A : Adr}
def sp_raised (C : Addr) : Sp := fun vs H Q _ => ∃ (a l : Addr) (e : Entrance) (f : List Nat), vs = [.ref a, .ref l] ∧ CaseAt C H a e ∧ Good e ∧ H l = some (.lst (nz f)) ∧ f.length = e.scheduleLength + 1 ∧
  ∀ H' p, Same H H' → H' p = some (.lst (nz (raisedM e f))) → Q (.ref p) H'
theorem sc_raised : FnScope ["case", "sums", "found", "last", "end", "first", "place"] ["case", "sums"] (defScope s_raised) := ⟨rfl, rfl, rfl, by decide +kernel, rfl, by decide +kernel, by decide +kernel⟩
theorem ok_raised (T : Txt K mg A) : FnOk P w K mg base CX0 3 A.f_raised A.d_raised ["case", "sums"] (sp_raised A.Case) := by
  refine T.d_raised.F.ok sc_raised (fun vs H Q E h => ?_) (fun cdv Ar outer s H vs Q E hr h => ?_)
  · obtain ⟨a, l, e, f, rfl, _⟩ := h
    rfl
  · obtain ⟨a, l, e, f, rfl, hc, G, hl, hf, k⟩ := h
    refine ⟨_, (pss_cons (ps_set (i := 2) sc_raised.nd rfl (Or.inl rfl) (pe_callTy call_list_of (by rfl) T.z_list (by decide +kernel) (pa_cons (pv 1) pa_nil)))
        (pss_cons (ps_for PassesOwn.never rfl (pi_range1 (by rfl) T.z_range (pa_cons (pe_meth0 (pv 0) T.c_Case T.d_Case_count.m (ok_Case_count T) (hr.mono (by decide)) T.d_Case_count.b .nil pass0) pa_nil)) (pg_name (i := 3) sc_raised.nd rfl (Or.inl rfl)) (pss_cons (ps_set (i := 4) sc_raised.nd rfl (Or.inl rfl) (pe_op op_add (pe_op op_add (pv 3) (pe_fld (pv 0) (by rfl))) pe_int))
        (pss_one (ps_for PassesOwn.never rfl (pi_range1 (by rfl) T.z_range (pa_cons (pe_op op_add (pv 3) pe_int) pa_nil)) (pg_name (i := 5) sc_raised.nd rfl (Or.inl rfl)) (pss_one (ps_asg (pe_callB (call_max2 rfl) (by rfl) T.z_max (by decide +kernel) (pa_cons (pe_ix ix_list (pv 2) (pv 4) (fun _ _ => rfl)) (pa_cons (pe_op op_add (pe_ix ix_list (pv 2) (pv 5) (fun _ _ => rfl)) (pe_call (ok_needed T) (hr.mono (by decide)) (by rfl) T.d_needed.g T.d_needed.F.kp T.d_needed.b .nil pass0 (pa_cons (pv 0) (pa_cons (pv 5) (pa_cons (pv 3) pa_nil))))) pa_nil))) (pg_sub (pv 2) (pv 4) set_list)))))))
        (pss_cons (ps_for PassesOwn.never rfl (pi_range2 (by rfl) T.z_range (pa_cons pe_int (pa_cons (pe_callB call_len_seq (by rfl) T.z_len (by decide +kernel) (pa_cons (pv 2) pa_nil)) pa_nil))) (pg_name (i := 6) sc_raised.nd rfl (Or.inl rfl)) (pss_one (ps_asg (pe_callB (call_max2 rfl) (by rfl) T.z_max (by decide +kernel) (pa_cons (pe_ix ix_list (pv 2) (pv 6) (fun _ _ => rfl)) (pa_cons (pe_ix ix_list (pv 2) (pe_op op_sub (pv 6) pe_int) (fun _ _ => rfl)) pa_nil))) (pg_sub (pv 2) (pv 6) set_list))))
        (pss_cons (ps_for PassesOwn.never rfl (pi_range3 (by rfl) T.z_range (pa_cons (pe_op op_sub (pe_callB call_len_seq (by rfl) T.z_len (by decide +kernel) (pa_cons (pv 2) pa_nil)) pe_int) (pa_cons pe_int (pa_cons (pe_un un_neg pe_int) pa_nil)))) (pg_name (i := 6) sc_raised.nd rfl (Or.inl rfl)) (pss_one (ps_asg (pe_callB (call_max2 rfl) (by rfl) T.z_max (by decide +kernel) (pa_cons (pe_ix ix_list (pv 2) (pe_op op_sub (pv 6) pe_int) (fun _ _ => rfl)) (pa_cons (pe_op op_sub (pe_ix ix_list (pv 2) (pv 6) (fun _ _ => rfl)) (pe_fld (pv 0) (by rfl))) pa_nil))) (pg_sub (pv 2) (pe_op op_sub (pv 6) pe_int) set_list))))
        (pss_one (ps_ret (pv 2))))))), ?_⟩
    obtain ⟨dx, la, h1, h2⟩ := id hc
    have m10 : e.minutes ≤ 10 := G.m10
    have L30 : e.scheduleLength ≤ 30 := by
      have := G.w6
      unfold Entrance.scheduleLength
      split <;> omega
    generalize hLL : e.scheduleLength = L at hf L30
    -- found = list(sums)
    refine ⟨_, rfl, l, _, rfl, .inl (SqL.of hl), fun p np => ?_⟩
    have s0 : Same H (upd H p (.lst (nz f))) := same_new np
    -- the first loop
    refine ⟨_, rfl, a, dx, _, rfl, s0 _ _ h1, cF_count la e, a, e, rfl, hc.same s0, _, rfl, by omega, by omega, ?_⟩
    refine for_range (lo := 0) (n := e.minutes) (fun t σ H' => Same H H' ∧ (∃ v3 v4 v5 v6, σ = [some (.ref a), some (.ref l), some (.ref p), v3, v4, v5, v6]) ∧ H' p = some (.lst (nz (outer1 e t f))))
      ⟨s0, ⟨none, none, none, none, rfl⟩, upd_same⟩ ?_ ?_
    · rintro t σ H1 ht ⟨s1, ⟨v3, v4, v5, v6, rfl⟩, hp⟩
      have hLm := Gh.length_of ht
      rw [Int.zero_add]
      -- end = last + case.max_wait + 1
      refine ⟨_, rfl, _, rfl, a, _, dx, _, _, rfl, s1 _ _ h1, T.c_Case, T.n_max_wait, cF_max_wait la e, _, _, rfl, rfl, _, _, rfl, rfl, ?_⟩
      refine ⟨_, rfl, _, _, rfl, rfl, _, rfl, by omega, by omega, ?_⟩
      have et : ((t : Int) + 1).toNat = t + 1 := by omega
      rw [et]
      refine for_range (lo := 0) (n := t + 1) (fun s σ H' => Same H H' ∧ (∃ v5 v6, σ = [some (.ref a), some (.ref l), some (.ref p), some (.int ((t : Nat) : Int)), some (.int ((t + e.maxWait + 1 : Nat) : Int)), v5, v6]) ∧ H' p = some (.lst (nz (inner1 e t s (outer1 e t f)))))
        ⟨s1, ⟨v5, v6, rfl⟩, hp⟩ ?_ ?_
      · rintro s σ H2 hs ⟨s2, ⟨v, v', rfl⟩, hq⟩
        have hlen : (inner1 e t s (outer1 e t f)).length = L + 1 := by rw [inner1_len, outer1_len, hf]
        rw [Int.zero_add]
        refine ⟨_, rfl, _, rfl, p, _, _, _, rfl, rfl, SqL.of hq, nz_atz (k := t + e.maxWait + 1) rfl (by omega), _, rfl, _, rfl, p, _, _, _, rfl, rfl, SqL.of hq, nz_atz (k := s) rfl (by omega),
          _, rfl, _, rfl, _, rfl, a, e, s, t, rfl, hc.same s2, G, fun H3 s3 => ?_⟩
        refine ⟨_, _, rfl, rfl, _, _, rfl, _, rfl, _, rfl, p, _, _, _, rfl, rfl, s3 _ _ hq, nz_ixz (k := t + e.maxWait + 1) rfl (by omega), ?_⟩
        refine ⟨same_put np (s2.trans s3), ⟨_, _, rfl⟩, upd_same.trans (congrArg (fun z => some (HO.lst z)) ?_)⟩
        rw [inner1_succ]
        unfold relax
        rw [nz_set]
        exact congrArg (fun z => (nz (inner1 e t s (outer1 e t f))).set (t + e.maxWait + 1) (V.int z)) (max_int (ele (inner1 e t s (outer1 e t f)) (t + e.maxWait + 1)) (ele (inner1 e t s (outer1 e t f)) s + Gh.need e s t))
      · rintro σ H2 ⟨s2, ⟨v, v', rfl⟩, hq⟩
        refine ⟨s2, ⟨_, _, _, _, rfl⟩, ?_⟩
        rw [outer1_succ]
        exact hq
    · rintro σ H1 ⟨s1, ⟨v3, v4, v5, v6, rfl⟩, hp⟩
      have hl1 : (outer1 e e.minutes f).length = L + 1 := by rw [outer1_len, hf]
      -- the second loop
      refine ⟨_, rfl, p, _, rfl, .inl (SqL.of hp), _, _, rfl, ⟨by decide, by decide, by omega, by rw [nz_len, hl1]; omega⟩, ?_⟩
      have en : (((nz (outer1 e e.minutes f)).length : Int) - 1).toNat = L := by rw [nz_len, hl1]; omega
      rw [en]
      refine for_range (lo := 1) (n := L) (fun i σ H' => Same H H' ∧ (∃ v3 v4 v5 v6, σ = [some (.ref a), some (.ref l), some (.ref p), v3, v4, v5, v6]) ∧ H' p = some (.lst (nz (part2 i (outer1 e e.minutes f)))))
        ⟨s1, ⟨v3, v4, v5, v6, rfl⟩, hp⟩ ?_ ?_
      · rintro i σ H2 hi ⟨s2, ⟨v3, v4, v5, v6, rfl⟩, hq⟩
        have hlen : (part2 i (outer1 e e.minutes f)).length = L + 1 := by rw [part2_len, hl1]
        rw [show (1 : Int) + (i : Int) = ((i + 1 : Nat) : Int) by omega]
        refine ⟨_, rfl, _, rfl, p, _, _, _, rfl, rfl, SqL.of hq, nz_atz (k := i + 1) rfl (by omega), _, rfl, _, rfl, _, _, rfl, rfl, p, _, _, _, rfl, rfl, SqL.of hq, nz_atz (k := i) (by omega) (by omega),
          _, _, rfl, _, rfl, _, rfl, p, _, _, _, rfl, rfl, hq, nz_ixz (k := i + 1) rfl (by omega), ?_⟩
        refine ⟨same_put np s2, ⟨_, _, _, _, rfl⟩, upd_same.trans (congrArg (fun z => some (HO.lst z)) ?_)⟩
        rw [part2_succ]
        unfold relax
        rw [nz_set]
        exact congrArg (fun z => (nz (part2 i (outer1 e e.minutes f))).set (i + 1) (V.int z)) (max_int (ele (part2 i (outer1 e e.minutes f)) (i + 1)) (ele (part2 i (outer1 e e.minutes f)) i))
      · rintro σ H2 ⟨s2, ⟨v3, v4, v5, v6, rfl⟩, hq⟩
        have hl2 : (part2 L (outer1 e e.minutes f)).length = L + 1 := by rw [part2_len, hl1]
        -- the third loop
        refine ⟨_, rfl, p, _, rfl, .inl (SqL.of hq), _, _, rfl, rfl, _, rfl, _, _, _, _, rfl, RgC.neg (by rw [nz_len, hl2]; omega) (by rw [nz_len, hl2]; omega) (by decide) (by decide), ?_⟩
        have e3 : (((nz (part2 L (outer1 e e.minutes f))).length : Int) - 1 - 0).toNat = L := by rw [nz_len, hl2]; omega
        rw [e3]
        refine for_rangeC (n := L) (fun i σ H' => Same H H' ∧ (∃ v3 v4 v5 v6, σ = [some (.ref a), some (.ref l), some (.ref p), v3, v4, v5, v6]) ∧ H' p = some (.lst (nz (part3 e.maxGates L i (part2 L (outer1 e e.minutes f))))))
          ⟨s2, ⟨v3, v4, v5, v6, rfl⟩, hq⟩ ?_ ?_
        · rintro i σ H3 hi ⟨s3, ⟨v3, v4, v5, v6, rfl⟩, hr3⟩
          have hlen : (part3 e.maxGates L i (part2 L (outer1 e e.minutes f))).length = L + 1 := by rw [part3_len, hl2]
          rw [show ((nz (part2 L (outer1 e e.minutes f))).length : Int) - 1 + (i : Int) * (-1) = ((L - i : Nat) : Int) by rw [nz_len, hl2]; omega]
          refine ⟨_, rfl, _, rfl, _, _, rfl, rfl, p, _, _, _, rfl, rfl, SqL.of hr3, nz_atz (k := L - i - 1) (by omega) (by omega), _, rfl, _, rfl, p, _, _, _, rfl, rfl, SqL.of hr3, nz_atz (k := L - i) rfl (by omega),
            _, rfl, a, _, dx, _, _, rfl, s3 _ _ h1, T.c_Case, T.n_max_gates, cF_max_gates la e, _, _, rfl, rfl, _, _, rfl, _, rfl, _, rfl, _, _, rfl, rfl, p, _, _, _, rfl, rfl, hr3, nz_ixz (k := L - i - 1) (by omega) (by omega), ?_⟩
          refine ⟨same_put np s3, ⟨_, _, _, _, rfl⟩, upd_same.trans (congrArg (fun z => some (HO.lst z)) ?_)⟩
          rw [part3_succ]
          unfold relax
          rw [nz_set]
          exact congrArg (fun z => (nz (part3 e.maxGates L i (part2 L (outer1 e e.minutes f)))).set (L - i - 1) (V.int z)) (max_sub (ele (part3 e.maxGates L i (part2 L (outer1 e e.minutes f))) (L - i - 1)) (ele (part3 e.maxGates L i (part2 L (outer1 e e.minutes f))) (L - i)) e.maxGates)
        · rintro σ H3 ⟨s3, ⟨v3, v4, v5, v6, rfl⟩, hr3⟩
          refine ⟨_, rfl, k _ _ s3 ?_⟩
          rw [raised_parts e f L hf]
          exact hr3
end
end Gw

set_option Elab.async false
set_option linter.all false
set_option maxRecDepth 100000
set_option maxHeartbeats 2000000
/-! best.py, the end. -/
namespace Gw
open PySem PySem.Spec PyProof.Rows L2
open PySem.W (Codec)
open Kv435 (Entrance sumBetween)
open Gh (ele pre badAt raisedM leastM bestM diffs)
theorem yes_if {σ : L2.St} {H : Hp} {F G : Hp → Prop} (h : F H) : tYes σ H (fun b H3 => if b = true then F H3 else G H3) := by
  show if true = true then F H else G H
  rw [if_pos rfl]
  exact h
theorem rep_nz : ∀ n : Nat, (List.replicate n [V.int 0]).flatten = nz (List.replicate n 0)
  | 0 => rfl
  | n + 1 => by
    rw [List.replicate_succ, List.flatten_cons, rep_nz n, List.replicate_succ]
    rfl
/-- the sums behind i rounds -/
def rounds (e : Entrance) (i : Nat) : List Nat := (List.range i).foldl (fun f _ => raisedM e f) (List.replicate (e.scheduleLength + 1) 0)
theorem rounds_succ (e : Entrance) (i : Nat) : rounds e (i + 1) = raisedM e (rounds e i) := by
  unfold rounds
  rw [List.range_succ, List.foldl_append]
  rfl
theorem rounds_len (e : Entrance) : ∀ i, (rounds e i).length = e.scheduleLength + 1
  | 0 => List.length_replicate
  | i + 1 => by
    rw [rounds_succ]
    exact Gh.raised_len (rounds_len e i)
theorem len30 {e : Entrance} (G : Good e) : e.scheduleLength ≤ 30 := by
  have := G.w6
  have m10 : e.minutes ≤ 10 := G.m10
  unfold Entrance.scheduleLength
  split <;> omega
theorem diffs_get {S : List Nat} {i : Nat} (h : i < S.length - 1) : (diffs S)[i]? = some (ele S (i + 1) - ele S i) := by
  unfold diffs
  rw [List.getElem?_map, List.getElem?_range h]
  rfl
theorem diffs_len (S : List Nat) : (diffs S).length = S.length - 1 := by
  unfold diffs
  rw [List.length_map, List.length_range]
section
variable {P : Program} {w : World} {K : PySem.W.Frag} {mg : Str → Option Value} {base : Heap} {A : Adr}
def sp_least_sums (C : Addr) : Sp := fun vs H Q _ => ∃ (a : Addr) (e : Entrance), vs = [.ref a] ∧ CaseAt C H a e ∧ Good e ∧ ∀ H' p, Same H H' → H' p = some (.lst (nz (leastM e))) → Q (.ref p) H'
theorem sc_least_sums : FnScope ["case", "sums", "turn"] ["case"] (defScope s_least_sums) := ⟨rfl, rfl, rfl, by decide +kernel, rfl, by decide +kernel, by decide +kernel⟩
theorem ok_least_sums (T : Txt K mg A) : FnOk P w K mg base CX0 4 A.f_least_sums A.d_least_sums ["case"] (sp_least_sums A.Case) := by
  refine T.d_least_sums.F.ok sc_least_sums (fun vs H Q E h => ?_) (fun cdv Ar outer s H vs Q E hr h => ?_)
  · obtain ⟨a, e, rfl, _⟩ := h
    rfl
  · obtain ⟨a, e, rfl, hc, G, k⟩ := h
    refine ⟨_, (pss_cons (ps_set (i := 1) sc_least_sums.nd rfl (Or.inl rfl) (pe_op op_rep (pe_lst (pa_cons pe_int pa_nil)) (pe_op op_add (pe_meth0 (pv 0) T.c_Case T.d_Case_length.m (ok_Case_length T) (hr.mono (by decide)) T.d_Case_length.b .nil pass0) pe_int)))
        (pss_cons (ps_for PassesOwn.never rfl (pi_range1 (by rfl) T.z_range (pa_cons (pe_op op_add (pe_meth0 (pv 0) T.c_Case T.d_Case_length.m (ok_Case_length T) (hr.mono (by decide)) T.d_Case_length.b .nil pass0) pe_int) pa_nil)) (pg_name (i := 2) sc_least_sums.nd rfl (Or.inl rfl)) (pss_one (ps_set (i := 1) sc_least_sums.nd rfl (Or.inl rfl) (pe_call (ok_raised T) (hr.mono (by decide)) (by rfl) T.d_raised.g T.d_raised.F.kp T.d_raised.b .nil pass0 (pa_cons (pv 0) (pa_cons (pv 1) pa_nil))))))
        (pss_one (ps_ret (pv 1))))), ?_⟩
    obtain ⟨dx, la, h1, h2⟩ := id hc
    have L30 := len30 G
    refine ⟨(by show 1 ≤ sizeLine; decide), fun p0 n0 => ?_⟩
    have s0 : Same H (upd H p0 (.lst [V.int 0])) := same_new n0
    refine ⟨_, rfl, a, dx, _, rfl, s0 _ _ h1, cF_length la e, a, e, rfl, hc.same s0, fun H1 s1 => ?_⟩
    have ez : ((e.scheduleLength : Int) + 1).toNat = e.scheduleLength + 1 := by omega
    refine ⟨_, _, rfl, rfl, p0, _, _, rfl, rfl, s1 _ _ upd_same, by omega, by omega, ?_, fun p np => ?_⟩
    · rw [ez]
      exact size10 (by rw [List.length_singleton]; omega)
    rw [ez, rep_nz]
    have s2 : Same H (upd H1 p (.lst (nz (List.replicate (e.scheduleLength + 1) 0)))) := s0.trans (s1.trans (same_new np))
    refine ⟨_, rfl, a, dx, _, rfl, s2 _ _ h1, cF_length la e, a, e, rfl, hc.same s2, fun H3 s3 => ?_⟩
    have s23 := s2.trans s3
    refine ⟨_, _, rfl, rfl, _, rfl, by omega, by omega, ?_⟩
    rw [ez]
    refine for_range (lo := 0) (n := e.scheduleLength + 1) (fun i σ H' => Same H H' ∧ ∃ q v, σ = [some (.ref a), some (.ref q), v] ∧ H' q = some (.lst (nz (rounds e i))))
      ⟨s23, p, none, rfl, s3 _ _ upd_same⟩ ?_ ?_
    · rintro i σ H4 hi ⟨s4, q, v, rfl, hq⟩
      refine ⟨_, rfl, _, rfl, a, q, e, rounds e i, rfl, hc.same s4, G, hq, rounds_len e i, fun H5 q' s5 hq' => ?_⟩
      refine ⟨s4.trans s5, q', _, rfl, ?_⟩
      rw [rounds_succ]
      exact hq'
    · rintro σ H4 ⟨s4, q, v, rfl, hq⟩
      exact ⟨_, rfl, k _ _ s4 hq⟩
def sp_best_schedule (C : Addr) : Sp := fun vs H Q _ => ∃ (a : Addr) (e : Entrance), vs = [.ref a] ∧ CaseAt C H a e ∧ Good e ∧
  (∀ g, e.bestSchedule = some g → g.length ≤ 30 → ∀ H' p, Same H H' → H' p = some (.lst (nz g)) → Q (.ref p) H') ∧ (e.bestSchedule = none → ∀ H', Same H H' → Q .non H')
theorem sc_best_schedule : FnScope ["case", "sums", "before", "after"] ["case"] (defScope s_best_schedule) := ⟨rfl, rfl, rfl, by decide +kernel, rfl, by decide +kernel, by decide +kernel⟩
theorem ok_best_schedule (T : Txt K mg A) : FnOk P w K mg base CX0 5 A.f_best_schedule A.d_best_schedule ["case"] (sp_best_schedule A.Case) := by
  refine T.d_best_schedule.F.ok sc_best_schedule (fun vs H Q E h => ?_) (fun cdv Ar outer s H vs Q E hr h => ?_)
  · obtain ⟨a, e, rfl, _⟩ := h
    rfl
  · obtain ⟨a, e, rfl, hc, G, k1, k2⟩ := h
    refine ⟨_, (pss_cons (ps_if (pt_not (pt_val (pe_call (ok_is_possible T) (hr.mono (by decide)) (by rfl) T.d_is_possible.g T.d_is_possible.F.kp T.d_is_possible.b .nil pass0 (pa_cons (pv 0) pa_nil)))) (pss_one (ps_ret pe_non)) pss_nil)
        (pss_cons (ps_set (i := 1) sc_best_schedule.nd rfl (Or.inl rfl) (pe_call (ok_least_sums T) (hr.mono (by decide)) (by rfl) T.d_least_sums.g T.d_least_sums.F.kp T.d_least_sums.b .nil pass0 (pa_cons (pv 0) pa_nil)))
        (pss_one (ps_ret (pe_lc (own := [("before", 2), ("after", 3)]) (g := gTup K 2 (gCons (gName 2) (gCons (gName 3) gNil))) (tt := tYes) (by rfl) sc_best_schedule.nd (pi_zip (by rfl) T.z_zip (pa_cons (pv 1) (pa_cons (pe_slice sl_list (pv 1) (po_some pe_int) po_none) pa_nil))) (blkOk_by (own := [("before", 2), ("after", 3)]) (N := ["case", "sums", "before", "after"]) (sc := defScope s_best_schedule) (by decide +kernel)) (fun _ _ _ _ _ => (pg_tup rfl (pgs_cons (pg_name (i := 2) sc_best_schedule.nd rfl (Or.inl rfl)) (pgs_cons (pg_name (i := 3) sc_best_schedule.nd rfl (Or.inl rfl)) pgs_nil)))) (fun _ _ _ _ _ => pts_nil) (fun _ _ _ _ _ => (pe_op op_sub (pv 3) (pv 2)))))))), ?_⟩
    have L30 := len30 G
    have hbest := Gh.best_eq G.p1
    unfold bestM at hbest
    refine ⟨_, rfl, a, e, rfl, hc, G, fun H1 s1 => ⟨_, rfl, ?_⟩⟩
    have hpos := Gh.possible_eq G.p1
    cases hi : e.infeasibleInterval with
    | some b =>
      rw [hi] at hpos hbest
      refine ifT (by rw [hpos]; rfl) ?_
      exact k2 hbest.symm _ s1
    | none =>
      rw [hi] at hpos hbest
      refine ifF (by rw [hpos]; rfl) ?_
      obtain ⟨slen, sup⟩ := Gh.least_up G.p1 hi
      have hb : e.bestSchedule = some (diffs (leastM e)) := hbest.symm
      refine ⟨_, rfl, a, e, rfl, hc.same s1, G, fun H2 p s2 hp => ?_⟩
      generalize hS : leastM e = S at slen sup hb hp
      have s12 := s1.trans s2
      -- zip(sums, sums[1:])
      refine ⟨_, rfl, _, rfl, _, rfl, p, _, rfl, SqL.of hp, fun c nc => ?_⟩
      rw [show (1 : Int) = ((1 : Nat) : Int) from rfl, cut_from, ← nz_drop]
      have s3 : Same H2 (upd H2 c (.lst (nz (S.drop 1)))) := same_new nc
      refine ⟨p, c, _, _, rfl, SqL.of (s3 _ _ hp), SqL.of upd_same, fun D nD => ?_⟩
      have s4 : Same (upd H2 c (.lst (nz (S.drop 1)))) (upd (upd H2 c (.lst (nz (S.drop 1)))) D (.lst [])) := same_new nD
      refine lc_it (walk_zip (xs := nz S) (ys := nz (S.drop 1)) (n := e.scheduleLength) (by rw [nz_len, nz_len, List.length_drop, slen]; omega))
        (fun i H' => Same H H' ∧ H' p = some (.lst (nz S)) ∧ H' c = some (.lst (nz (S.drop 1))) ∧ H' D = some (.lst (nz ((diffs S).take i))))
        ⟨s12.trans (s3.trans s4), s4 _ _ (s3 _ _ hp), s4 _ _ upd_same, upd_same⟩ (fun i H' _ ⟨_, q1, q2, _⟩ => ⟨SqL.of q1, SqL.of q2⟩) ?_ ?_
      · rintro i x H5 H6 hi' ⟨s5, q1, q2, q3⟩ ⟨t, x1, x2, rfl, nt, rfl, g1, g2⟩
        have e1 : x1 = .int ((ele S i : Nat) : Int) := by
          exact (Option.some.inj ((nz_at (l := S) (i := i) (by omega)).symm.trans g1)).symm
        have e2 : x2 = .int ((ele S (i + 1) : Nat) : Int) := by
          have y := Option.some.inj ((nz_at (l := S.drop 1) (i := i) (by rw [List.length_drop]; omega)).symm.trans g2)
          have z : ele (S.drop 1) i = ele S (i + 1) := by
            unfold ele
            rw [List.getD_eq_getElem?_getD, List.getD_eq_getElem?_getD, List.getElem?_drop, Nat.add_comm]
          rw [z] at y
          exact y.symm
        subst e1 e2
        have s6 : Same H5 (upd H5 t (.tup [.int ((ele S i : Nat) : Int), .int ((ele S (i + 1) : Nat) : Int)])) := same_new nt
        refine ⟨t, _, rfl, .inl (.inl upd_same), rfl, _, _, rfl, _, _, rfl, rfl, rfl, yes_if ?_⟩
        refine ⟨_, rfl, _, rfl, _, _, rfl, rfl, _, s6 _ _ q3, small1000 (by rw [nz_len, List.length_take]; have := diffs_len S; omega), ?_⟩
        have nD2 : H D = none := by
          have z := nD
          cases hH : H D with
          | none => rfl
          | some o =>
            rw [(s12.trans s3) _ _ hH] at z
            cases z
        have npD : p ≠ D := fun z => by
          rw [z] at hp
          have y := s3 _ _ hp
          rw [nD] at y
          cases y
        have ncD : c ≠ D := fun z => by
          have y : upd H2 c (.lst (nz (S.drop 1))) c = some (.lst (nz (S.drop 1))) := upd_same
          rw [z] at y
          rw [z, y] at nD
          cases nD
        refine ⟨same_put nD2 (s5.trans s6), ?_, ?_, upd_same.trans (congrArg (fun z => some (HO.lst z)) ?_)⟩
        · rw [upd_ne npD]
          exact s6 _ _ q1
        · rw [upd_ne ncD]
          exact s6 _ _ q2
        · rw [List.take_add_one, diffs_get (by omega), nz_append]
          have z : ((ele S (i + 1) - ele S i : Nat) : Int) = ((ele S (i + 1) : Nat) : Int) - ((ele S i : Nat) : Int) := by
            have := sup i hi'
            omega
          show _ = _ ++ [V.int ((ele S (i + 1) - ele S i : Nat) : Int)]
          rw [z]
      · rintro H5 ⟨s5, q1, q2, q3⟩
        refine k1 _ hb (by rw [diffs_len, slen]; omega) _ _ s5 ?_
        rw [List.take_of_length_le (by rw [diffs_len, slen]; omega)] at q3
        exact q3
end
end Gw

set_option Elab.async false
set_option linter.all false
set_option maxRecDepth 100000
set_option maxHeartbeats 2000000
/-! queues.py. -/
namespace Gw
open PySem PySem.Spec PyProof.Rows L2
open PySem.W (Codec)
open Kv435 (Entrance sumBetween)
open Gh (ele pre admM minAdm longM)
theorem min_int (a p g : Nat) : (if (p : Int) * (g : Int) < (a : Int) then (p : Int) * (g : Int) else (a : Int)) = ((min a (p * g) : Nat) : Int) := by
  rw [show (p : Int) * (g : Int) = ((p * g : Nat) : Int) from (Int.natCast_mul _ _).symm]
  generalize p * g = b
  by_cases h : (b : Int) < (a : Int)
  · rw [if_pos h]
    omega
  · rw [if_neg h]
    omega
theorem max_diff (a b t : Nat) : (if (b : Int) - (t : Int) > (a : Int) then (b : Int) - (t : Int) else (a : Int)) = ((max a (b - t) : Nat) : Int) := by
  by_cases h : (b : Int) - (t : Int) > (a : Int)
  · rw [if_pos h]
    omega
  · rw [if_neg h]
    omega
theorem atI_neg {xs : List V} {k : Nat} {v : V} (hk : xs.length = k + 1) (h : xs[k]? = some v) : atI xs (-1) = some v := by
  have e : ixN xs.length (-1) = some k := by
    unfold ixN
    rw [if_neg (by decide), if_pos (by omega)]
    congr 1
    omega
  unfold atI
  rw [e]
  exact h
theorem from_zero (l : List Nat) (t : Nat) : sumBetween l 0 t = pre l (t + 1) := by
  have q := Gh.sum_split l (s := 0) (t := t) (by omega)
  rw [Gh.pre_zero, Nat.zero_add] at q
  exact q
theorem none_of {H H' : Hp} (s : Same H H') {p : Addr} (h : H' p = none) : H p = none := s.free h
section
variable {P : Program} {w : World} {K : PySem.W.Frag} {mg : Str → Option Value} {base : Heap} {A : Adr}
def sp_arriving (C : Addr) : Sp := fun vs H Q _ => ∃ (a : Addr) (e : Entrance) (m : Nat), vs = [.ref a, .int ((m : Nat) : Int)] ∧ CaseAt C H a e ∧ Q (.int ((ele e.arrivals m : Nat) : Int)) H
theorem sc_arriving : FnScope ["case", "minute"] ["case", "minute"] (defScope s_arriving) := ⟨rfl, rfl, rfl, by decide +kernel, rfl, by decide +kernel, by decide +kernel⟩
theorem ok_arriving (T : Txt K mg A) : FnOk P w K mg base CX0 2 A.f_arriving A.d_arriving ["case", "minute"] (sp_arriving A.Case) := by
  refine T.d_arriving.F.ok sc_arriving (fun vs H Q E h => ?_) (fun cdv Ar outer s H vs Q E hr h => ?_)
  · obtain ⟨a, e, m, rfl, _⟩ := h
    rfl
  · obtain ⟨a, e, m, rfl, hc, k⟩ := h
    refine ⟨_, (pss_one (ps_ret (pe_ifExp (pt_cmp (pc_lt (pv 1) (pe_meth0 (pv 0) T.c_Case T.d_Case_count.m (ok_Case_count T) (hr.mono (by decide)) T.d_Case_count.b .nil pass0)) (nobehind _ (by decide) (by decide))) (pe_ix ix_list (pe_fld (pv 0) (by rfl)) (pv 1) (fun _ _ => rfl)) pe_int))), ?_⟩
    obtain ⟨dx, la, h1, h2⟩ := id hc
    refine ⟨_, rfl, _, rfl, a, dx, _, rfl, h1, cF_count la e, a, e, rfl, hc, _, _, rfl, rfl, _, rfl, ?_⟩
    by_cases c : m < e.minutes
    · refine ifT (decide_eq_true (by omega)) ?_
      exact ⟨_, rfl, a, _, dx, _, _, rfl, h1, T.c_Case, T.n_arrivals, cF_arrivals la e, _, rfl, la, _, _, _, rfl, rfl, SqL.of h2, nz_atI c, k⟩
    · refine ifF (decide_eq_false (by omega)) ?_
      rw [Gh.ele_out (show e.arrivals.length ≤ m from Nat.le_of_not_lt c)] at k
      exact k
def sp_admissions (C : Addr) : Sp := fun vs H Q _ => ∃ (a l : Addr) (e : Entrance) (g : List Nat), vs = [.ref a, .ref l] ∧ CaseAt C H a e ∧ Good e ∧ H l = some (.lst (nz g)) ∧ g.length ≤ 100 ∧
  ∀ H' t p1 p2, Same H H' → H' t = some (.tup [.ref p1, .ref p2]) → H' p1 = some (.lst (nz (admM e g g.length).admitted)) → H' p2 = some (.lst (nz (admM e g g.length).waiting)) → Q (.ref t) H'
theorem sc_admissions : FnScope ["case", "schedule", "admitted", "waiting", "queue", "minute", "gates", "people"] ["case", "schedule"] (defScope s_admissions) := ⟨rfl, rfl, rfl, by decide +kernel, rfl, by decide +kernel, by decide +kernel⟩
theorem ok_admissions (T : Txt K mg A) : FnOk P w K mg base CX0 3 A.f_admissions A.d_admissions ["case", "schedule"] (sp_admissions A.Case) := by
  refine T.d_admissions.F.ok sc_admissions (fun vs H Q E h => ?_) (fun cdv Ar outer s H vs Q E hr h => ?_)
  · obtain ⟨a, l, e, g, rfl, _⟩ := h
    rfl
  · obtain ⟨a, l, e, g, rfl, hc, G, hl, hlen, k⟩ := h
    refine ⟨_, (pss_cons (ps_set (i := 2) sc_admissions.nd rfl (Or.inl rfl) (pe_lst pa_nil))
        (pss_cons (ps_set (i := 3) sc_admissions.nd rfl (Or.inl rfl) (pe_lst pa_nil))
        (pss_cons (ps_set (i := 4) sc_admissions.nd rfl (Or.inl rfl) pe_int)
        (pss_cons (ps_for PassesOwn.never rfl (pi_enum (by rfl) T.z_enumerate (pa_cons (pv 1) pa_nil)) (pg_tup rfl (pgs_cons (pg_name (i := 5) sc_admissions.nd rfl (Or.inl rfl)) (pgs_cons (pg_name (i := 6) sc_admissions.nd rfl (Or.inl rfl)) pgs_nil))) (pss_cons (ps_set (i := 4) sc_admissions.nd rfl (Or.inl rfl) (pe_op op_add (pv 4) (pe_call (ok_arriving T) (hr.mono (by decide)) (by rfl) T.d_arriving.g T.d_arriving.F.kp T.d_arriving.b .nil pass0 (pa_cons (pv 0) (pa_cons (pv 5) pa_nil)))))
        (pss_cons (ps_set (i := 7) sc_admissions.nd rfl (Or.inl rfl) (pe_callB (call_min2 rfl) (by rfl) T.z_min (by decide +kernel) (pa_cons (pv 4) (pa_cons (pe_op op_mul (pe_fld (pv 0) (by rfl)) (pv 6)) pa_nil))))
        (pss_cons (ps_set (i := 4) sc_admissions.nd rfl (Or.inl rfl) (pe_op op_sub (pv 4) (pv 7)))
        (pss_cons (ps_expr (pe_bm PySem.F.plainAttrs_list PySem.F.slot_list_append PySem.F.type_list_append mt_append (pv 2) (pa_cons (pv 7) pa_nil)))
        (pss_one (ps_expr (pe_bm PySem.F.plainAttrs_list PySem.F.slot_list_append PySem.F.type_list_append mt_append (pv 3) (pa_cons (pv 4) pa_nil)))))))))
        (pss_one (ps_ret (pe_tup (pa_cons (pv 2) (pa_cons (pv 3) pa_nil))))))))), ?_⟩
    obtain ⟨dx, la, h1, h2⟩ := id hc
    refine ⟨Nat.zero_le _, fun p1 n1 => ⟨Nat.zero_le _, fun p2 n2 => ?_⟩⟩
    have s1 : Same H (upd H p1 (.lst [])) := same_new n1
    have s2 : Same (upd H p1 (.lst [])) (upd (upd H p1 (.lst [])) p2 (.lst [])) := same_new n2
    have n2' : H p2 = none := none_of s1 n2
    have n12 : p1 ≠ p2 := ne_of_none upd_same n2
    refine ⟨_, rfl, l, _, rfl, SqL.of ((s1.trans s2) _ _ hl), ?_⟩
    refine for_it (walk_enum (xs := nz g)) (fun i σ H' => Same H H' ∧ (∃ z v5 v6 v7, σ = [some (.ref a), some (.ref l), some (.ref p1), some (.ref p2), some (.int z), v5, v6, v7] ∧ z = (((admM e g i).queue : Nat) : Int)) ∧
        H' p1 = some (.lst (nz (admM e g i).admitted)) ∧ H' p2 = some (.lst (nz (admM e g i).waiting)))
      ⟨s1.trans s2, ⟨_, none, none, none, rfl, rfl⟩, s2 _ _ upd_same, upd_same⟩ (fun i σ H' _ ⟨s3, _⟩ => SqL.of (s3 _ _ hl)) ?_ ?_
    · rintro i x σ H3 H4 hi ⟨s3, ⟨z, v5, v6, v7, rfl, rfl⟩, q1, q2⟩ ⟨t, x1, x2, rfl, nt, rfl, g1, g2⟩
      rw [nz_len] at hi
      have e1 : x1 = .int ((i : Nat) : Int) := (Option.some.inj g1).symm
      have e2 : x2 = .int ((ele g i : Nat) : Int) := (Option.some.inj ((nz_at hi).symm.trans g2)).symm
      subst e1 e2
      have s4 : Same H3 (upd H3 t (.tup [.int ((i : Nat) : Int), .int ((ele g i : Nat) : Int)])) := same_new nt
      have s34 := s3.trans s4
      refine ⟨t, _, rfl, .inl (.inl upd_same), rfl, _, _, rfl, _, _, rfl, rfl, ?_⟩
      -- queue = queue + arriving(case, minute)
      refine ⟨_, rfl, _, rfl, _, rfl, a, e, i, rfl, hc.same s34, _, _, rfl, rfl, ?_⟩
      -- people = min(queue, case.per_gate * gates)
      refine ⟨_, rfl, _, rfl, a, _, dx, _, _, rfl, s34 _ _ h1, T.c_Case, T.n_per_gate, cF_per_gate la e, _, rfl, _, _, rfl, rfl, .inl ⟨by omega, by have := G.p9; omega⟩, _, _, rfl, ?_⟩
      -- queue = queue - people
      refine ⟨_, rfl, _, rfl, _, _, rfl, rfl, ?_⟩
      -- the two appends
      have hlA := (Gh.adm_len e g i).1
      have hlW := (Gh.adm_len e g i).2
      refine ⟨_, rfl, .inl ⟨rfl, _, SqL.of (s4 _ _ q1)⟩, _, rfl, p1, _, _, rfl, rfl, s4 _ _ q1, small1000 (by rw [nz_len, hlA]; omega), ?_⟩
      refine ⟨_, rfl, .inl ⟨rfl, _, SqL.of ((upd_ne n12.symm).trans (s4 _ _ q2))⟩, _, rfl, p2, _, _, rfl, rfl, (upd_ne n12.symm).trans (s4 _ _ q2), small1000 (by rw [nz_len, hlW]; omega), ?_⟩
      have hm := min_int ((admM e g i).queue + ele e.arrivals i) e.perGate (ele g i)
      rw [Gh.admM_succ]
      unfold Gh.admStep
      dsimp only
      refine ⟨same_put n2' (same_put n1 s34), ⟨_, _, _, _, rfl, ?_⟩, (upd_ne n12).trans (upd_same.trans (congrArg (fun z => some (HO.lst z)) ?_)), upd_same.trans (congrArg (fun z => some (HO.lst z)) ?_)⟩
      · refine Eq.trans (congrArg (fun z => (((admM e g i).queue + ele e.arrivals i : Nat) : Int) - z) hm) ?_
        omega
      · rw [nz_append]
        exact congrArg (fun z => nz (admM e g i).admitted ++ [V.int z]) hm
      · rw [nz_append]
        refine congrArg (fun z => nz (admM e g i).waiting ++ [V.int z]) ?_
        refine Eq.trans (congrArg (fun z => (((admM e g i).queue + ele e.arrivals i : Nat) : Int) - z) hm) ?_
        omega
    · rintro σ H3 ⟨s3, ⟨z, v5, v6, v7, rfl, rfl⟩, q1, q2⟩
      rw [nz_len] at q1 q2
      refine ⟨_, rfl, _, rfl, (by show 2 ≤ sizeLine; decide), fun t nt => ?_⟩
      have s4 := same_new (o := .tup [.ref p1, .ref p2]) nt
      exact k _ t p1 p2 (s3.trans s4) upd_same (s4 _ _ q1) (s4 _ _ q2)
def sp_are_all_admitted (C : Addr) : Sp := fun vs H Q _ => ∃ (a l : Addr) (e : Entrance) (g : List Nat), vs = [.ref a, .ref l] ∧ CaseAt C H a e ∧ Good e ∧ H l = some (.lst (nz g)) ∧ g.length ≤ 100 ∧
  ∀ H', Same H H' → Q (.bl (decide ((admM e g g.length).queue = 0))) H'
theorem sc_are_all_admitted : FnScope ["case", "schedule", "admitted", "waiting"] ["case", "schedule"] (defScope s_are_all_admitted) := ⟨rfl, rfl, rfl, by decide +kernel, rfl, by decide +kernel, by decide +kernel⟩
theorem ok_are_all_admitted (T : Txt K mg A) : FnOk P w K mg base CX0 4 A.f_are_all_admitted A.d_are_all_admitted ["case", "schedule"] (sp_are_all_admitted A.Case) := by
  refine T.d_are_all_admitted.F.ok sc_are_all_admitted (fun vs H Q E h => ?_) (fun cdv Ar outer s H vs Q E hr h => ?_)
  · obtain ⟨a, l, e, g, rfl, _⟩ := h
    rfl
  · obtain ⟨a, l, e, g, rfl, hc, G, hl, hlen, k⟩ := h
    refine ⟨_, (pss_cons (ps_asg (pe_call (ok_admissions T) (hr.mono (by decide)) (by rfl) T.d_admissions.g T.d_admissions.F.kp T.d_admissions.b .nil pass0 (pa_cons (pv 0) (pa_cons (pv 1) pa_nil))) (pg_tup rfl (pgs_cons (pg_name (i := 2) sc_are_all_admitted.nd rfl (Or.inl rfl)) (pgs_cons (pg_name (i := 3) sc_are_all_admitted.nd rfl (Or.inl rfl)) pgs_nil))))
        (pss_one (ps_ret (pe_or (pe_cmpR (op_eqD hr.units) (pv 3) (pe_lst pa_nil) (nomark _)) (pe_one (pe_cmp (pc_eqI (pe_ix ix_list (pv 3) (pe_un un_neg pe_int) (fun _ _ => rfl)) pe_int) (nobehind _ (by decide) (by decide)))))))), ?_⟩
    refine ⟨_, rfl, _, rfl, a, l, e, g, rfl, hc, G, hl, hlen, fun H1 t p1 p2 s1 ht q1 q2 => ?_⟩
    refine ⟨t, _, rfl, .inl (.inl ht), rfl, _, _, rfl, _, _, rfl, rfl, ?_⟩
    refine ⟨_, rfl, Nat.zero_le _, fun p np => ?_⟩
    have s2 : Same H1 (upd H1 p (.lst [])) := same_new np
    refine ⟨_, _, dp_nz (SqL.of (s2 _ _ q2)), dp_nil (SqL.of upd_same), PySem.W.ke_shaped_ints _, PySem.W.ke_shaped_ints [], _, rfl, ?_⟩
    have q := k _ (s1.trans s2)
    have hW := (Gh.adm_len e g g.length).2
    cases hg : g.length with
    | zero =>
      rw [hg] at hW q
      rw [hg] at q2
      refine ifT ?_ ?_
      · rfl
      · exact q
    | succ n =>
      rw [hg] at hW q q2
      have hlast := Gh.wait_last e g n
      refine ifF ?_ ?_
      · rw [eqv_nil]
        refine decide_eq_false fun z => ?_
        rw [z] at hW
        cases hW
      · have q2' := s2 _ _ q2
        refine ⟨_, rfl, _, rfl, p2, _, _, _, rfl, rfl, SqL.of q2', atI_neg (k := n) (v := .int (((admM e g (n + 1)).queue : Nat) : Int)) ?_ ?_, _, _, rfl, rfl, ?_⟩
        · rw [nz_len, hW]
        · rw [nz_get, hlast]
          rfl
        · have z : decide ((admM e g (n + 1)).queue = 0) = decide ((((admM e g (n + 1)).queue : Nat) : Int) = 0) := by
            apply Bool.eq_iff_iff.mpr
            rw [decide_eq_true_iff, decide_eq_true_iff]
            omega
          rw [z] at q
          exact q
def sp_minute_admitted : Sp := fun vs H Q _ => ∃ (l : Addr) (adm : List Nat) (n : Nat), vs = [.ref l, .int ((n : Nat) : Int)] ∧ H l = some (.lst (nz adm)) ∧ ∀ H', Same H H' → Q (.int ((minAdm adm n : Nat) : Int)) H'
theorem sc_minute_admitted : FnScope ["admitted", "people", "total", "minute", "some"] ["admitted", "people"] (defScope s_minute_admitted) := ⟨rfl, rfl, rfl, by decide +kernel, rfl, by decide +kernel, by decide +kernel⟩
theorem ok_minute_admitted (T : Txt K mg A) : FnOk P w K mg base CX0 1 A.f_minute_admitted A.d_minute_admitted ["admitted", "people"] (sp_minute_admitted) := by
  refine T.d_minute_admitted.F.ok sc_minute_admitted (fun vs H Q E h => ?_) (fun cdv Ar outer s H vs Q E hr h => ?_)
  · obtain ⟨l, adm, n, rfl, _⟩ := h
    rfl
  · obtain ⟨l, adm, n, rfl, hl, k⟩ := h
    refine ⟨_, (pss_cons (ps_set (i := 2) sc_minute_admitted.nd rfl (Or.inl rfl) pe_int)
        (pss_cons (ps_for PassesOwn.never rfl (pi_enum (by rfl) T.z_enumerate (pa_cons (pv 0) pa_nil)) (pg_tup rfl (pgs_cons (pg_name (i := 3) sc_minute_admitted.nd rfl (Or.inl rfl)) (pgs_cons (pg_name (i := 4) sc_minute_admitted.nd rfl (Or.inl rfl)) pgs_nil))) (pss_cons (ps_set (i := 2) sc_minute_admitted.nd rfl (Or.inl rfl) (pe_op op_add (pv 2) (pv 4)))
        (pss_one (ps_if (pt_cmp (pc_ge (pv 2) (pv 1)) (nobehind _ (by decide) (by decide))) (pss_one (ps_ret (pv 3))) pss_nil))))
        (pss_one (ps_ret (pe_callB call_len_seq (by rfl) T.z_len (by decide +kernel) (pa_cons (pv 0) pa_nil)))))), ?_⟩
    refine ⟨_, rfl, l, _, rfl, SqL.of hl, ?_⟩
    refine for_it (walk_enum (xs := nz adm)) (fun i σ H' => Same H H' ∧ (∃ v3 v4, σ = [some (.ref l), some (.int ((n : Nat) : Int)), some (.int ((pre adm i : Nat) : Int)), v3, v4]) ∧ ∀ j, j < i → pre adm (j + 1) < n)
      ⟨Same.refl H, ⟨none, none, rfl⟩, fun j hj => absurd hj (Nat.not_lt_zero _)⟩ (fun i σ H' _ ⟨s3, _⟩ => SqL.of (s3 _ _ hl)) ?_ ?_
    · rintro i x σ H3 H4 hi ⟨s3, ⟨v3, v4, rfl⟩, no⟩ ⟨t, x1, x2, rfl, nt, rfl, g1, g2⟩
      rw [nz_len] at hi
      have e1 : x1 = .int ((i : Nat) : Int) := (Option.some.inj g1).symm
      have e2 : x2 = .int ((ele adm i : Nat) : Int) := (Option.some.inj ((nz_at hi).symm.trans g2)).symm
      subst e1 e2
      have s4 : Same H3 (upd H3 t (.tup [.int ((i : Nat) : Int), .int ((ele adm i : Nat) : Int)])) := same_new nt
      refine ⟨t, _, rfl, .inl (.inl upd_same), rfl, _, _, rfl, _, _, rfl, rfl, ?_⟩
      refine ⟨_, rfl, _, rfl, _, _, rfl, rfl, _, rfl, _, rfl, _, _, rfl, rfl, _, rfl, ?_⟩
      have hp := Gh.pre_succ adm i
      by_cases c : n ≤ pre adm (i + 1)
      · refine ifT (decide_eq_true (by omega)) ?_
        refine ⟨_, rfl, ?_⟩
        have q := k _ (s3.trans s4)
        rw [Gh.minAdm_found hi c no] at q
        exact q
      · refine ifF (decide_eq_false (by omega)) ?_
        refine ⟨s3.trans s4, ⟨some (.int ((i : Nat) : Int)), some (.int ((ele adm i : Nat) : Int)), ?_⟩, fun j hj => ?_⟩
        · rw [hp]
          rfl
        · by_cases y : j = i
          · rw [y]
            omega
          · exact no j (by omega)
    · rintro σ H3 ⟨s3, ⟨v3, v4, rfl⟩, no⟩
      refine ⟨_, rfl, l, _, rfl, .inl (SqL.of (s3 _ _ hl)), ?_⟩
      rw [nz_len] at no
      have q := k _ s3
      rw [Gh.minAdm_none no, ← nz_len adm] at q
      exact q
end
end Gw

set_option Elab.async false
set_option linter.all false
set_option maxRecDepth 100000
set_option maxHeartbeats 2000000
/-! queues.py, the rest. -/
namespace Gw
open PySem PySem.Spec PyProof.Rows L2
open PySem.W (Codec)
open Kv435 (Entrance sumBetween)
open Gh (ele pre admM minAdm longM)
/-- the tests of an interval over a schedule -/
def enoughAt (e : Entrance) (g : List Nat) (s t : Nat) : Bool := decide (sumBetween e.arrivals s t ≤ e.perGate * sumBetween g s (t + e.maxWait))
theorem feasible_no_gate {e : Entrance} {g : List Nat} (h : (g.all fun x => decide (x ≤ e.maxGates)) = false) : e.isFeasible g = false := by
  unfold Entrance.isFeasible
  rw [h, Bool.and_false, Bool.false_and]
theorem feasible_no {e : Entrance} {g : List Nat} {s t : Nat} (hs : s ≤ t) (ht : t < e.minutes) (h : enoughAt e g s t = false) : e.isFeasible g = false := by
  unfold Entrance.isFeasible
  have z : ((List.range e.minutes).all fun t => (List.range (t + 1)).all fun s => decide (sumBetween e.arrivals s t ≤ e.perGate * sumBetween g s (t + e.maxWait))) = false := by
    rw [List.all_eq_false]
    refine ⟨t, List.mem_range.mpr ht, ?_⟩
    intro q
    rw [List.all_eq_true] at q
    have y := q s (List.mem_range.mpr (by omega))
    have y' : enoughAt e g s t = true := y
    rw [h] at y'
    cases y'
  rw [z, Bool.and_false]
theorem feasible_yes {e : Entrance} {g : List Nat} (hl : g.length = e.scheduleLength) (h : (g.all fun x => decide (x ≤ e.maxGates)) = true) (h2 : ∀ t, t < e.minutes → ∀ s, s ≤ t → enoughAt e g s t = true) : e.isFeasible g = true := by
  unfold Entrance.isFeasible
  rw [h, hl, beq_self_eq_true, Bool.true_and, Bool.true_and, List.all_eq_true]
  intro t ht
  rw [List.all_eq_true]
  intro s hs
  rw [List.mem_range] at ht hs
  exact h2 t ht s (by omega)
theorem enough_iff {e : Entrance} {g : List Nat} {s t : Nat} : decide (((sumBetween e.arrivals s t : Nat) : Int) ≤ ((e.perGate : Nat) : Int) * ((sumBetween g s (t + e.maxWait) : Nat) : Int)) = enoughAt e g s t := by
  unfold enoughAt
  apply Bool.eq_iff_iff.mpr
  rw [decide_eq_true_iff, decide_eq_true_iff, ← Int.natCast_mul]
  omega
/-- a list of truth values -/
def bz (l : List Bool) : List V := l.map V.bl
theorem bz_len (l : List Bool) : (bz l).length = l.length := List.length_map _
section
variable {P : Program} {w : World} {K : PySem.W.Frag} {mg : Str → Option Value} {base : Heap} {A : Adr}
def sp_longest_wait (C : Addr) : Sp := fun vs H Q _ => ∃ (a l : Addr) (e : Entrance) (g : List Nat), vs = [.ref a, .ref l] ∧ CaseAt C H a e ∧ Good e ∧ H l = some (.lst (nz g)) ∧ g.length ≤ 100 ∧
  ∀ H', Same H H' → Q (.int ((longM e (admM e g g.length).admitted e.minutes : Nat) : Int)) H'
theorem sc_longest_wait : FnScope ["case", "schedule", "admitted", "waiting", "longest", "minute"] ["case", "schedule"] (defScope s_longest_wait) := ⟨rfl, rfl, rfl, by decide +kernel, rfl, by decide +kernel, by decide +kernel⟩
theorem ok_longest_wait (T : Txt K mg A) : FnOk P w K mg base CX0 4 A.f_longest_wait A.d_longest_wait ["case", "schedule"] (sp_longest_wait A.Case) := by
  refine T.d_longest_wait.F.ok sc_longest_wait (fun vs H Q E h => ?_) (fun cdv Ar outer s H vs Q E hr h => ?_)
  · obtain ⟨a, l, e, g, rfl, _⟩ := h
    rfl
  · obtain ⟨a, l, e, g, rfl, hc, G, hl, hlen, k⟩ := h
    refine ⟨_, (pss_cons (ps_asg (pe_call (ok_admissions T) (hr.mono (by decide)) (by rfl) T.d_admissions.g T.d_admissions.F.kp T.d_admissions.b .nil pass0 (pa_cons (pv 0) (pa_cons (pv 1) pa_nil))) (pg_tup rfl (pgs_cons (pg_name (i := 2) sc_longest_wait.nd rfl (Or.inl rfl)) (pgs_cons (pg_name (i := 3) sc_longest_wait.nd rfl (Or.inl rfl)) pgs_nil))))
        (pss_cons (ps_set (i := 4) sc_longest_wait.nd rfl (Or.inl rfl) pe_int)
        (pss_cons (ps_for PassesOwn.never rfl (pi_range1 (by rfl) T.z_range (pa_cons (pe_meth0 (pv 0) T.c_Case T.d_Case_count.m (ok_Case_count T) (hr.mono (by decide)) T.d_Case_count.b .nil pass0) pa_nil)) (pg_name (i := 5) sc_longest_wait.nd rfl (Or.inl rfl)) (pss_one (ps_if (pt_cmp (pc_gt (pe_ix ix_list (pe_fld (pv 0) (by rfl)) (pv 5) (fun _ _ => rfl)) pe_int) (nobehind _ (by decide) (by decide))) (pss_one (ps_set (i := 4) sc_longest_wait.nd rfl (Or.inl rfl) (pe_callB (call_max2 rfl) (by rfl) T.z_max (by decide +kernel) (pa_cons (pv 4) (pa_cons (pe_op op_sub (pe_call (ok_minute_admitted T) (hr.mono (by decide)) (by rfl) T.d_minute_admitted.g T.d_minute_admitted.F.kp T.d_minute_admitted.b .nil pass0 (pa_cons (pv 2) (pa_cons (pe_meth (pv 0) T.c_Case T.d_Case_total.m (ok_Case_total T) (hr.mono (by decide)) T.d_Case_total.b .nil pass0 (pa_cons pe_int (pa_cons (pv 5) pa_nil))) pa_nil))) (pv 5)) pa_nil))))) pss_nil)))
        (pss_one (ps_ret (pv 4)))))), ?_⟩
    obtain ⟨dx, la, h1, h2⟩ := id hc
    have m10 : e.minutes ≤ 10 := G.m10
    refine ⟨_, rfl, _, rfl, a, l, e, g, rfl, hc, G, hl, hlen, fun H1 t p1 p2 s1 ht q1 q2 => ?_⟩
    generalize (admM e g g.length).admitted = adm at q1 k
    refine ⟨t, _, rfl, .inl (.inl ht), rfl, _, _, rfl, _, _, rfl, rfl, ?_⟩
    refine ⟨_, rfl, a, dx, _, rfl, s1 _ _ h1, cF_count la e, a, e, rfl, hc.same s1, _, rfl, by omega, by omega, ?_⟩
    refine for_range (lo := 0) (n := e.minutes) (fun t σ H' => Same H H' ∧ H' p1 = some (.lst (nz adm)) ∧ ∃ v3 v5, σ = [some (.ref a), some (.ref l), some (.ref p1), v3, some (.int ((longM e adm t : Nat) : Int)), v5])
      ⟨s1, q1, some (.ref p2), none, rfl⟩ ?_ ?_
    · rintro t σ H2 ht ⟨s2, q, v3, v5, rfl⟩
      rw [Int.zero_add]
      refine ⟨_, rfl, a, _, dx, _, _, rfl, s2 _ _ h1, T.c_Case, T.n_arrivals, cF_arrivals la e, _, rfl, la, _, _, _, rfl, rfl, SqL.of (s2 _ _ h2), nz_atI ht, _, _, rfl, rfl, _, rfl, ?_⟩
      rw [Gh.longM_succ]
      unfold Gh.longStep
      by_cases c : 0 < ele e.arrivals t
      · refine ifT (decide_eq_true (by omega)) ?_
        refine ⟨_, rfl, _, rfl, _, rfl, a, dx, _, rfl, s2 _ _ h1, cF_total la e, _, rfl, a, e, 0, t, rfl, hc.same s2, fun H3 s3 => ?_⟩
        refine ⟨p1, adm, _, rfl, s3 _ _ q, fun H4 s4 => ?_⟩
        refine ⟨_, rfl, _, _, rfl, rfl, _, _, rfl, ?_⟩
        refine ⟨s2.trans (s3.trans s4), s4 _ _ (s3 _ _ q), v3, some (V.int ((t : Nat) : Int)), ?_⟩
        rw [if_pos c, ← from_zero]
        exact congrArg (fun z => [some (V.ref a), some (V.ref l), some (V.ref p1), v3, some (V.int z), some (V.int ((t : Nat) : Int))]) (max_diff (longM e adm t) (minAdm adm (sumBetween e.arrivals 0 t)) t)
      · refine ifF (decide_eq_false (by omega)) ?_
        refine ⟨s2, q, v3, some (V.int ((t : Nat) : Int)), ?_⟩
        rw [if_neg c]
        rfl
    · rintro σ H2 ⟨s2, q, v3, v5, rfl⟩
      exact ⟨_, rfl, k _ s2⟩
def sp_is_enough (C : Addr) : Sp := fun vs H Q _ => ∃ (a l : Addr) (e : Entrance) (g : List Nat) (s t : Nat), vs = [.ref a, .ref l, .int ((s : Nat) : Int), .int ((t : Nat) : Int)] ∧ CaseAt C H a e ∧ Good e ∧ H l = some (.lst (nz g)) ∧
  ∀ H', Same H H' → Q (.bl (enoughAt e g s t)) H'
theorem sc_is_enough : FnScope ["case", "schedule", "first", "last"] ["case", "schedule", "first", "last"] (defScope s_is_enough) := ⟨rfl, rfl, rfl, by decide +kernel, rfl, by decide +kernel, by decide +kernel⟩
theorem ok_is_enough (T : Txt K mg A) : FnOk P w K mg base CX0 2 A.f_is_enough A.d_is_enough ["case", "schedule", "first", "last"] (sp_is_enough A.Case) := by
  refine T.d_is_enough.F.ok sc_is_enough (fun vs H Q E h => ?_) (fun cdv Ar outer s H vs Q E hr h => ?_)
  · obtain ⟨a, l, e, g, s, t, rfl, _⟩ := h
    rfl
  · obtain ⟨a, l, e, g, s, t, rfl, hc, G, hl, k⟩ := h
    refine ⟨_, (pss_one (ps_ret (pe_cmp (pc_le (pe_meth (pv 0) T.c_Case T.d_Case_total.m (ok_Case_total T) (hr.mono (by decide)) T.d_Case_total.b .nil pass0 (pa_cons (pv 2) (pa_cons (pv 3) pa_nil))) (pe_op op_mul (pe_fld (pv 0) (by rfl)) (pe_callB (cr_sum rfl) (by rfl) T.z_sum (by decide +kernel) (pa_cons (pe_slice sl_list (pv 1) (po_some (pv 2)) (po_some (pe_op op_add (pe_op op_add (pv 3) (pe_fld (pv 0) (by rfl))) pe_int))) pa_nil)))) (nobehind _ (by decide) (by decide))))), ?_⟩
    obtain ⟨dx, la, h1, h2⟩ := id hc
    refine ⟨_, rfl, a, dx, _, rfl, h1, cF_total la e, _, rfl, _, rfl, a, e, s, t, rfl, hc, fun H1 s1 => ?_⟩
    refine ⟨_, rfl, a, _, dx, _, _, rfl, s1 _ _ h1, T.c_Case, T.n_per_gate, cF_per_gate la e, ?_⟩
    refine ⟨_, rfl, _, rfl, _, rfl, _, rfl, _, rfl, a, _, dx, _, _, rfl, s1 _ _ h1, T.c_Case, T.n_max_wait, cF_max_wait la e, _, _, rfl, rfl, _, _, rfl, rfl, _, rfl, l, _, rfl, SqL.of (s1 _ _ hl), fun p np => ?_⟩
    refine ⟨p, ((g.drop s).take (t + e.maxWait + 1 - s)).map fun n => ((n : Nat) : Int), rfl, ?_, _, _, rfl, rfl, .inl ⟨by omega, by have := G.p9; omega⟩, _, _, rfl, rfl, ?_⟩
    · refine SqL.of ?_
      rw [upd_same, show (t : Int) + (e.maxWait : Int) + 1 = ((t + e.maxWait + 1 : Nat) : Int) by omega, cut_nat, ← nz_drop, ← nz_take, nz_ints]
    · have q := k _ (s1.trans (same_new (o := .lst (cutV (nz g) (some (s : Int)) (some ((t : Int) + (e.maxWait : Int) + 1)))) np))
      have z := sum_ints ((g.drop s).take (t + e.maxWait + 1 - s))
      rw [← enough_iff] at q
      unfold sumBetween at q
      rw [← z] at q
      exact q
def sp_is_feasible (C : Addr) : Sp := fun vs H Q _ => ∃ (a l : Addr) (e : Entrance) (g : List Nat), vs = [.ref a, .ref l] ∧ CaseAt C H a e ∧ Good e ∧ H l = some (.lst (nz g)) ∧ g.length = e.scheduleLength ∧
  ∀ H', Same H H' → Q (.bl (e.isFeasible g)) H'
theorem sc_is_feasible : FnScope ["case", "schedule", "gates", "last", "first"] ["case", "schedule"] (defScope s_is_feasible) := ⟨rfl, rfl, rfl, by decide +kernel, rfl, by decide +kernel, by decide +kernel⟩
theorem ok_is_feasible (T : Txt K mg A) : FnOk P w K mg base CX0 3 A.f_is_feasible A.d_is_feasible ["case", "schedule"] (sp_is_feasible A.Case) := by
  refine T.d_is_feasible.F.ok sc_is_feasible (fun vs H Q E h => ?_) (fun cdv Ar outer s H vs Q E hr h => ?_)
  · obtain ⟨a, l, e, g, rfl, _⟩ := h
    rfl
  · obtain ⟨a, l, e, g, rfl, hc, G, hl, hlen, k⟩ := h
    refine ⟨_, (pss_cons (ps_if (pt_not (pt_val (pe_callB (cr_all rfl) (by rfl) T.z_all (by decide +kernel) (pa_cons (pe_lc (own := [("gates", 2)]) (g := gName 2) (tt := tYes) (te := tLe (tVar 2) (tFld K (tVar 0) "max_gates")) (by rfl) sc_is_feasible.nd (pi_list (pv 1)) (blkOk_by (own := [("gates", 2)]) (N := ["case", "schedule", "gates", "last", "first"]) (sc := defScope s_is_feasible) (by decide +kernel)) (fun _ _ _ _ _ => (pg_name (i := 2) sc_is_feasible.nd rfl (Or.inl rfl))) (fun _ _ _ _ _ => pts_nil) (fun _ _ _ _ _ => (pe_cmp (pc_le (pv 2) (pe_fld (pv 0) (by rfl))) (nobehind _ (by decide) (by decide))))) pa_nil)))) (pss_one (ps_ret pe_bl)) pss_nil)
        (pss_cons (ps_for PassesOwn.never rfl (pi_range1 (by rfl) T.z_range (pa_cons (pe_meth0 (pv 0) T.c_Case T.d_Case_count.m (ok_Case_count T) (hr.mono (by decide)) T.d_Case_count.b .nil pass0) pa_nil)) (pg_name (i := 3) sc_is_feasible.nd rfl (Or.inl rfl)) (pss_one (ps_for PassesOwn.never rfl (pi_range1 (by rfl) T.z_range (pa_cons (pe_op op_add (pv 3) pe_int) pa_nil)) (pg_name (i := 4) sc_is_feasible.nd rfl (Or.inl rfl)) (pss_one (ps_if (pt_not (pt_val (pe_call (ok_is_enough T) (hr.mono (by decide)) (by rfl) T.d_is_enough.g T.d_is_enough.F.kp T.d_is_enough.b .nil pass0 (pa_cons (pv 0) (pa_cons (pv 1) (pa_cons (pv 4) (pa_cons (pv 3) pa_nil))))))) (pss_one (ps_ret pe_bl)) pss_nil)))))
        (pss_one (ps_ret pe_bl)))), ?_⟩
    obtain ⟨dx, la, h1, h2⟩ := id hc
    have m10 : e.minutes ≤ 10 := G.m10
    have L30 := len30 G
    refine ⟨_, rfl, l, rfl, ⟨_, SqL.of hl⟩, fun D nD => ?_⟩
    have s0 : Same H (upd H D (.lst [])) := same_new nD
    refine lc_it (walk_list (xs := nz g)) (fun i H' => Same H H' ∧ H' D = some (.lst (bz ((g.map fun x => decide (x ≤ e.maxGates)).take i))))
      ⟨s0, upd_same⟩ (fun i H' _ ⟨s1, _⟩ => SqL.of (s1 _ _ hl)) ?_ ?_
    · rintro i x H1 H2 hi ⟨s1, hD⟩ ⟨rfl, gx⟩
      rw [nz_len] at hi
      have ex : x = .int ((ele g i : Nat) : Int) := (Option.some.inj ((nz_at hi).symm.trans gx)).symm
      subst ex
      refine ⟨rfl, yes_if ?_⟩
      refine ⟨_, rfl, _, rfl, a, _, dx, _, _, rfl, s1 _ _ h1, T.c_Case, T.n_max_gates, cF_max_gates la e, _, _, rfl, rfl, _, hD, small1000 (by rw [bz_len, List.length_take]; omega), ?_⟩
      refine ⟨same_put nD s1, upd_same.trans (congrArg (fun z => some (HO.lst z)) ?_)⟩
      have z : (g.map fun x => decide (x ≤ e.maxGates))[i]? = some (decide (ele g i ≤ e.maxGates)) := by
        rw [List.getElem?_map, Gh.ele_lt hi]
        rfl
      have y : decide (((ele g i : Nat) : Int) ≤ ((e.maxGates : Nat) : Int)) = decide (ele g i ≤ e.maxGates) := by
        apply Bool.eq_iff_iff.mpr
        rw [decide_eq_true_iff, decide_eq_true_iff]
        omega
      rw [List.take_add_one, z]
      unfold bz
      rw [List.map_append]
      exact congrArg (fun z => List.map V.bl ((g.map fun x => decide (x ≤ e.maxGates)).take i) ++ [V.bl z]) y
    · rintro H1 ⟨s1, hD⟩
      rw [nz_len, List.take_of_length_le (by rw [List.length_map]; omega)] at hD
      refine ⟨D, _, rfl, SqL.of hD, _, rfl, ?_⟩
      have hall : (g.map fun x => decide (x ≤ e.maxGates)).all id = (g.all fun x => decide (x ≤ e.maxGates)) := by
        rw [List.all_map]
        rfl
      cases hb : (g.all fun x => decide (x ≤ e.maxGates)) with
      | false =>
        refine ifT (by rw [hall, hb]; rfl) ?_
        have q := k _ s1
        rw [feasible_no_gate hb] at q
        exact q
      | true =>
        refine ifF (by rw [hall, hb]; rfl) ?_
        refine ⟨_, rfl, a, dx, _, rfl, s1 _ _ h1, cF_count la e, a, e, rfl, hc.same s1, _, rfl, by omega, by omega, ?_⟩
        refine for_range (lo := 0) (n := e.minutes) (fun t σ H' => Same H H' ∧ (∃ v2 v3 v4, σ = [some (.ref a), some (.ref l), v2, v3, v4]) ∧ ∀ u, u < t → ∀ s, s ≤ u → enoughAt e g s u = true)
          ⟨s1, ⟨none, none, none, rfl⟩, fun u hu => absurd hu (Nat.not_lt_zero _)⟩ ?_ ?_
        · rintro t σ H2 ht ⟨s2, ⟨v2, v3, v4, rfl⟩, yes⟩
          rw [Int.zero_add]
          refine ⟨_, rfl, _, _, rfl, rfl, _, rfl, by omega, by omega, ?_⟩
          have et : ((t : Int) + 1).toNat = t + 1 := by omega
          rw [et]
          refine for_range (lo := 0) (n := t + 1) (fun s σ H' => Same H H' ∧ (∃ v2 v4, σ = [some (.ref a), some (.ref l), v2, some (.int ((t : Nat) : Int)), v4]) ∧ ∀ b, b < s → enoughAt e g b t = true)
            ⟨s2, ⟨v2, v4, rfl⟩, fun b hb => absurd hb (Nat.not_lt_zero _)⟩ ?_ ?_
          · rintro s σ H3 hs ⟨s3, ⟨v2, v4, rfl⟩, yes2⟩
            rw [Int.zero_add]
            refine ⟨_, rfl, _, rfl, _, rfl, _, rfl, a, l, e, g, s, t, rfl, hc.same s3, G, s3 _ _ hl, fun H4 s4 => ⟨_, rfl, ?_⟩⟩
            have s34 := s3.trans s4
            cases hq : enoughAt e g s t with
            | false =>
              refine ifT rfl ?_
              have q := k _ s34
              rw [feasible_no (by omega) ht hq] at q
              exact q
            | true =>
              refine ifF rfl ⟨s34, ⟨_, _, rfl⟩, fun b hb2 => ?_⟩
              by_cases c : b = s
              · rw [c]
                exact hq
              · exact yes2 b (by omega)
          · rintro σ H3 ⟨s3, ⟨v2, v4, rfl⟩, yes2⟩
            refine ⟨s3, ⟨_, _, _, rfl⟩, fun u hu b hb2 => ?_⟩
            by_cases c : u = t
            · rw [c]
              exact yes2 b (by omega)
            · exact yes u (by omega) b hb2
        · rintro σ H2 ⟨s2, ⟨v2, v3, v4, rfl⟩, yes⟩
          have q := k _ s2
          rw [feasible_yes hlen hb yes] at q
          exact q
def sp_counted : Sp := fun vs H Q _ => ∃ (l : Addr) (g : List Nat), vs = [.ref l] ∧ H l = some (.lst (nz g)) ∧ g.length ≤ 100 ∧ ∀ H' p, Same H H' → H p = none → H' p = some (.lst (nz (g.length :: g))) → Q (.ref p) H'
theorem sc_counted : FnScope ["some"] ["some"] (defScope s_counted) := ⟨rfl, rfl, rfl, by decide +kernel, rfl, by decide +kernel, by decide +kernel⟩
theorem ok_counted (T : Txt K mg A) : FnOk P w K mg base CX0 1 A.f_counted A.d_counted ["some"] (sp_counted) := by
  refine T.d_counted.F.ok sc_counted (fun vs H Q E h => ?_) (fun cdv Ar outer s H vs Q E hr h => ?_)
  · obtain ⟨l, g, rfl, _⟩ := h
    rfl
  · obtain ⟨l, g, rfl, hl, hlen, k⟩ := h
    refine ⟨_, (pss_one (ps_ret (pe_op op_cat (pe_lst (pa_cons (pe_callB call_len_seq (by rfl) T.z_len (by decide +kernel) (pa_cons (pv 0) pa_nil)) pa_nil)) (pv 0)))), ?_⟩
    refine ⟨_, rfl, l, _, rfl, .inl (SqL.of hl), (by show 1 ≤ sizeLine; decide), fun p np => ?_⟩
    have s1 : Same H (upd H p (.lst [V.int ((nz g).length : Int)])) := same_new np
    refine ⟨_, rfl, p, l, _, _, rfl, rfl, upd_same, s1 _ _ hl, size10 (by rw [List.length_singleton, nz_len]; omega), fun q nq => ?_⟩
    refine k _ q (s1.trans (same_new nq)) (s1.free nq) (upd_same.trans (congrArg (fun z => some (HO.lst z)) ?_))
    rw [nz_len]
    rfl
end
end Gw

set_option Elab.async false
set_option linter.all false
set_option maxRecDepth 100000
set_option maxHeartbeats 2000000
/-! changes.py. -/
namespace Gw
open PySem PySem.Spec PyProof.Rows L2
open PySem.W (Codec)
open Kv435 (Entrance sumBetween Planner Operation Response)
open Gh (ele pre)
/-- what a change ends in -/
def ChgEnd (C CF : Addr) (Q : VK) (E : XK) (a : Addr) (H : Hp) (r : Planner × Response) : Prop :=
  (∀ code, code < 0 → r.2 = Response.error code → Err CF E code H) ∧
  (∀ n, r.2 = Response.number n → ∀ H' t p x, Same H H' → H' t = some (.tup [.ref p, .ref x]) → H p = none → H' p = some (.lst (nz [n])) → CaseAt C H' x r.1.entrance → (∀ l, ArrAt C H' x l → ArrAt C H a l ∨ H l = none) → Q (.ref t) H')
theorem ChgEnd.err {C CF : Addr} {Q : VK} {E : XK} {a : Addr} {H : Hp} {r : Planner × Response} {p : Planner} {code : Int} (h : ChgEnd C CF Q E a H r) (z : r = (p, Response.error code)) (hc : code < 0 := by decide) : Err CF E code H := h.1 code hc (congrArg Prod.snd z)
theorem ChgEnd.num {C CF : Addr} {Q : VK} {E : XK} {a : Addr} {H : Hp} {r : Planner × Response} {e : Entrance} {n : Nat} (h : ChgEnd C CF Q E a H r) (z : r = (⟨e⟩, Response.number n)) :
    ∀ H' t p x, Same H H' → H' t = some (.tup [.ref p, .ref x]) → H p = none → H' p = some (.lst (nz [n])) → CaseAt C H' x e → (∀ l, ArrAt C H' x l → ArrAt C H a l ∨ H l = none) → Q (.ref t) H' := by
  subst z
  exact h.2 n rfl
/-- the operation of a change -/
def chgOp : Nat → List Nat → Option Operation
  | 1, [x] => some (.addMinute x)
  | 2, [x, y] => some (.setArrivals x y)
  | 3, [] => some .removeLastMinute
  | 4, [x] => some (.setPerGate x)
  | 5, [x] => some (.setMaxGates x)
  | 6, [x] => some (.setMaxWait x)
  | _, _ => none
section
variable {P : Program} {w : World} {K : PySem.W.Frag} {mg : Str → Option Value} {base : Heap} {A : Adr}
def sp_add_minute (C CF : Addr) : Sp := fun vs H Q E => ∃ (a : Addr) (e : Entrance) (n : Nat), vs = [.ref a, .int ((n : Nat) : Int)] ∧ CaseAt C H a e ∧ Good e ∧ ChgEnd C CF Q E a H (Planner.run ⟨e⟩ (.addMinute n))
theorem sc_add_minute : FnScope ["case", "arrivals"] ["case", "arrivals"] (defScope s_add_minute) := ⟨rfl, rfl, rfl, by decide +kernel, rfl, by decide +kernel, by decide +kernel⟩
theorem ok_add_minute (T : Txt K mg A) : FnOk P w K mg base (L2.CX P w) 4 A.f_add_minute A.d_add_minute ["case", "arrivals"] (sp_add_minute A.Case A.Refusal) := by
  refine T.d_add_minute.F.okX sc_add_minute (fun vs H Q E h => ?_) (fun cdv Ar outer s H vs Q E hr h => ?_)
  · obtain ⟨a, e, n, rfl, _⟩ := h
    rfl
  · obtain ⟨a, e, n, rfl, hc, G, k⟩ := h
    refine ⟨_, (pss_cons (ps_expr (pe_call (ok_require T) (hr.mono (by decide)) (by rfl) T.d_require.g T.d_require.F.kp T.d_require.b .nil (passes_call (takes_of rfl rfl rfl rfl) fun _ _ _ _ h => h) (pa_cons (pe_cmp (pc_le (pv 1) (pe_gint (by rfl) T.k_MOST_ARRIVALS)) (nobehind _ (by decide) (by decide))) (pa_cons (pe_gint (by rfl) T.k_OUTSIDE) pa_nil))))
        (pss_cons (ps_expr (pe_call (ok_require T) (hr.mono (by decide)) (by rfl) T.d_require.g T.d_require.F.kp T.d_require.b .nil (passes_call (takes_of rfl rfl rfl rfl) fun _ _ _ _ h => h) (pa_cons (pe_cmp (pc_lt (pe_meth0 (pv 0) T.c_Case T.d_Case_count.m (ok_Case_count T) (hr.mono (by decide)) T.d_Case_count.b .nil pass0) (pe_gint (by rfl) T.k_MOST_MINUTES)) (nobehind _ (by decide) (by decide))) (pa_cons (pe_gint (by rfl) T.k_FULL) pa_nil))))
        (pss_one (ps_ret (pe_tup (pa_cons (pe_lst (pa_cons (pe_meth0 (pv 0) T.c_Case T.d_Case_count.m (ok_Case_count T) (hr.mono (by decide)) T.d_Case_count.b .nil pass0) pa_nil)) (pa_cons (pe_meth (pv 0) T.c_Case T.d_Case_with_minutes.m (ok_Case_with_minutes T) (hr.mono (by decide)) T.d_Case_with_minutes.b .nil pass0 (pa_cons (pe_op op_cat (pe_fld (pv 0) (by rfl)) (pe_lst (pa_cons (pv 1) pa_nil))) pa_nil)) pa_nil))))))), ?_⟩
    obtain ⟨dx, la, h1, h2⟩ := id hc
    refine ⟨_, rfl, _, _, rfl, rfl, _, _, rfl, fun hb => ?_, fun hb => ?_⟩
    · have c1 : n ≤ 40 := by have := of_decide_eq_true hb; omega
      refine ⟨_, rfl, a, dx, _, rfl, h1, cF_count la e, a, e, rfl, hc, _, _, rfl, rfl, _, _, rfl, fun hb2 => ?_, fun hb2 => ?_⟩
      · have c2 : e.minutes < 10 := by have := of_decide_eq_true hb2; omega
        have z : Planner.run ⟨e⟩ (.addMinute n) = (⟨{ e with arrivals := e.arrivals ++ [n] }⟩, .number e.minutes) := by
          show (if 40 < n then _ else if 10 ≤ e.minutes then _ else _) = _
          rw [if_neg (by omega), if_neg (by omega)]
        refine ⟨_, rfl, a, dx, _, rfl, h1, cF_count la e, a, e, rfl, hc, (by show 1 ≤ sizeLine; decide), fun p np => ?_⟩
        have s1 : Same H (upd H p (.lst [V.int ((e.minutes : Nat) : Int)])) := same_new np
        refine ⟨_, rfl, a, dx, _, rfl, s1 _ _ h1, cF_with_minutes la e, ?_⟩
        refine ⟨_, rfl, a, _, dx, _, _, rfl, s1 _ _ h1, T.c_Case, T.n_arrivals, cF_arrivals la e, _, rfl, (by show 1 ≤ sizeLine; decide), fun q nq => ?_⟩
        have s2 := same_new (o := .lst [V.int ((n : Nat) : Int)]) nq
        refine ⟨la, q, _, _, rfl, rfl, s2 _ _ (s1 _ _ h2), upd_same, size10 (by rw [List.length_singleton, nz_len]; have := G.m10; omega), fun r nr => ?_⟩
        have s3 := same_new (o := .lst (nz e.arrivals ++ [V.int ((n : Nat) : Int)])) nr
        have s13 := s1.trans (s2.trans s3)
        refine ⟨a, r, e, e.arrivals ++ [n], rfl, hc.same s13, ?_, fun H4 x s4 cx ar => ?_⟩
        · rw [upd_same, nz_append]
          rfl
        · refine ⟨(by show 2 ≤ sizeLine; decide), fun t nt => ?_⟩
          have s5 := same_new (o := .tup [.ref p, .ref x]) nt
          exact k.num z _ t p x (s13.trans (s4.trans s5)) upd_same np (s5 _ _ (s4 _ _ (s3 _ _ (s2 _ _ upd_same)))) (cx.same s5) fun l2 h => by
            rw [ar l2 (ArrAt.back cx s5 h)]
            exact Or.inr (s1.free (s2.free nr))
      · have c2 : ¬ e.minutes < 10 := by have := of_decide_eq_false hb2; omega
        refine k.err (p := ⟨e⟩) ?_
        show (if 40 < n then _ else if 10 ≤ e.minutes then _ else _) = _
        rw [if_neg (by omega), if_pos (by omega)]
    · have c1 : ¬ n ≤ 40 := by have := of_decide_eq_false hb; omega
      refine k.err (p := ⟨e⟩) ?_
      show (if 40 < n then _ else _) = _
      rw [if_pos (by omega)]
def sp_set_arrivals (C CF : Addr) : Sp := fun vs H Q E => ∃ (a : Addr) (e : Entrance) (m n : Nat), vs = [.ref a, .int ((m : Nat) : Int), .int ((n : Nat) : Int)] ∧ CaseAt C H a e ∧ Good e ∧ ChgEnd C CF Q E a H (Planner.run ⟨e⟩ (.setArrivals m n))
theorem sc_set_arrivals : FnScope ["case", "minute", "arrivals"] ["case", "minute", "arrivals"] (defScope s_set_arrivals) := ⟨rfl, rfl, rfl, by decide +kernel, rfl, by decide +kernel, by decide +kernel⟩
theorem ok_set_arrivals (T : Txt K mg A) : FnOk P w K mg base (L2.CX P w) 5 A.f_set_arrivals A.d_set_arrivals ["case", "minute", "arrivals"] (sp_set_arrivals A.Case A.Refusal) := by
  refine T.d_set_arrivals.F.okX sc_set_arrivals (fun vs H Q E h => ?_) (fun cdv Ar outer s H vs Q E hr h => ?_)
  · obtain ⟨a, e, m, n, rfl, _⟩ := h
    rfl
  · obtain ⟨a, e, m, n, rfl, hc, G, k⟩ := h
    refine ⟨_, (pss_cons (ps_expr (pe_call (ok_require T) (hr.mono (by decide)) (by rfl) T.d_require.g T.d_require.F.kp T.d_require.b .nil (passes_call (takes_of rfl rfl rfl rfl) fun _ _ _ _ h => h) (pa_cons (pe_cmp (pc_lt (pv 1) (pe_meth0 (pv 0) T.c_Case T.d_Case_count.m (ok_Case_count T) (hr.mono (by decide)) T.d_Case_count.b .nil pass0)) (nobehind _ (by decide) (by decide))) (pa_cons (pe_gint (by rfl) T.k_NO_MINUTE) pa_nil))))
        (pss_cons (ps_expr (pe_call (ok_require T) (hr.mono (by decide)) (by rfl) T.d_require.g T.d_require.F.kp T.d_require.b .nil (passes_call (takes_of rfl rfl rfl rfl) fun _ _ _ _ h => h) (pa_cons (pe_cmp (pc_le (pv 2) (pe_gint (by rfl) T.k_MOST_ARRIVALS)) (nobehind _ (by decide) (by decide))) (pa_cons (pe_gint (by rfl) T.k_OUTSIDE) pa_nil))))
        (pss_one (ps_ret (pe_tup (pa_cons (pe_lst (pa_cons (pe_ix ix_list (pe_fld (pv 0) (by rfl)) (pv 1) (fun _ _ => rfl)) pa_nil)) (pa_cons (pe_meth (pv 0) T.c_Case T.d_Case_with_arrivals.m (ok_Case_with_arrivals T) (hr.mono (by decide)) T.d_Case_with_arrivals.b .nil pass0 (pa_cons (pv 1) (pa_cons (pv 2) pa_nil))) pa_nil))))))), ?_⟩
    obtain ⟨dx, la, h1, h2⟩ := id hc
    refine ⟨_, rfl, _, rfl, a, dx, _, rfl, h1, cF_count la e, a, e, rfl, hc, _, _, rfl, rfl, _, _, rfl, fun hb => ?_, fun hb => ?_⟩
    · have c1 : m < e.minutes := by have := of_decide_eq_true hb; omega
      refine ⟨_, rfl, _, _, rfl, rfl, _, _, rfl, fun hb2 => ?_, fun hb2 => ?_⟩
      · have c2 : n ≤ 40 := by have := of_decide_eq_true hb2; omega
        have z : Planner.run ⟨e⟩ (.setArrivals m n) = (⟨e.withArrivals m n⟩, .number (ele e.arrivals m)) := by
          show (if e.minutes ≤ m then _ else if 40 < n then _ else _) = _
          rw [if_neg (by omega), if_neg (by omega)]
          rfl
        refine ⟨_, rfl, a, _, dx, _, _, rfl, h1, T.c_Case, T.n_arrivals, cF_arrivals la e, _, rfl, la, _, _, _, rfl, rfl, SqL.of h2, nz_atI c1, (by show 1 ≤ sizeLine; decide), fun p np => ?_⟩
        have s1 : Same H (upd H p (.lst [V.int ((ele e.arrivals m : Nat) : Int)])) := same_new np
        refine ⟨_, rfl, a, dx, _, rfl, s1 _ _ h1, cF_with_arrivals la e, _, rfl, _, rfl, a, e, m, n, rfl, hc.same s1, c1, G.m10, fun H4 x s4 cx ar => ?_⟩
        refine ⟨(by show 2 ≤ sizeLine; decide), fun t nt => ?_⟩
        have s5 := same_new (o := .tup [.ref p, .ref x]) nt
        exact k.num z _ t p x (s1.trans (s4.trans s5)) upd_same np (s5 _ _ (s4 _ _ upd_same)) (cx.same s5) fun l2 h => Or.inr (s1.free (ar l2 (ArrAt.back cx s5 h)))
      · have c2 : ¬ n ≤ 40 := by have := of_decide_eq_false hb2; omega
        refine k.err (p := ⟨e⟩) ?_
        show (if e.minutes ≤ m then _ else if 40 < n then _ else _) = _
        rw [if_neg (by omega), if_pos (by omega)]
    · have c1 : ¬ m < e.minutes := by have := of_decide_eq_false hb; omega
      refine k.err (p := ⟨e⟩) ?_
      show (if e.minutes ≤ m then _ else _) = _
      rw [if_pos (by omega)]
def sp_remove_last_minute (C CF : Addr) : Sp := fun vs H Q E => ∃ (a : Addr) (e : Entrance), vs = [.ref a] ∧ CaseAt C H a e ∧ Good e ∧ ChgEnd C CF Q E a H (Planner.run ⟨e⟩ .removeLastMinute)
theorem sc_remove_last_minute : FnScope ["case"] ["case"] (defScope s_remove_last_minute) := ⟨rfl, rfl, rfl, by decide +kernel, rfl, by decide +kernel, by decide +kernel⟩
theorem ok_remove_last_minute (T : Txt K mg A) : FnOk P w K mg base (L2.CX P w) 4 A.f_remove_last_minute A.d_remove_last_minute ["case"] (sp_remove_last_minute A.Case A.Refusal) := by
  refine T.d_remove_last_minute.F.okX sc_remove_last_minute (fun vs H Q E h => ?_) (fun cdv Ar outer s H vs Q E hr h => ?_)
  · obtain ⟨a, e, rfl, _⟩ := h
    rfl
  · obtain ⟨a, e, rfl, hc, G, k⟩ := h
    refine ⟨_, (pss_cons (ps_expr (pe_call (ok_require T) (hr.mono (by decide)) (by rfl) T.d_require.g T.d_require.F.kp T.d_require.b .nil (passes_call (takes_of rfl rfl rfl rfl) fun _ _ _ _ h => h) (pa_cons (pe_cmp (pc_gt (pe_meth0 (pv 0) T.c_Case T.d_Case_count.m (ok_Case_count T) (hr.mono (by decide)) T.d_Case_count.b .nil pass0) pe_int) (nobehind _ (by decide) (by decide))) (pa_cons (pe_gint (by rfl) T.k_NO_MINUTES) pa_nil))))
        (pss_one (ps_ret (pe_tup (pa_cons (pe_lst (pa_cons (pe_op op_sub (pe_meth0 (pv 0) T.c_Case T.d_Case_count.m (ok_Case_count T) (hr.mono (by decide)) T.d_Case_count.b .nil pass0) pe_int) pa_nil)) (pa_cons (pe_meth (pv 0) T.c_Case T.d_Case_with_minutes.m (ok_Case_with_minutes T) (hr.mono (by decide)) T.d_Case_with_minutes.b .nil pass0 (pa_cons (pe_slice sl_list (pe_fld (pv 0) (by rfl)) po_none (po_some (pe_un un_neg pe_int))) pa_nil)) pa_nil)))))), ?_⟩
    obtain ⟨dx, la, h1, h2⟩ := id hc
    refine ⟨_, rfl, a, dx, _, rfl, h1, cF_count la e, a, e, rfl, hc, _, _, rfl, rfl, _, _, rfl, fun hb => ?_, fun hb => ?_⟩
    · have c1 : 0 < e.minutes := by have := of_decide_eq_true hb; omega
      have z : Planner.run ⟨e⟩ .removeLastMinute = (⟨{ e with arrivals := e.arrivals.dropLast }⟩, .number (e.minutes - 1)) := by
        show (if e.minutes = 0 then _ else _) = _
        rw [if_neg (by omega)]
      refine ⟨_, rfl, a, dx, _, rfl, h1, cF_count la e, a, e, rfl, hc, _, _, rfl, rfl, (by show 1 ≤ sizeLine; decide), fun p np => ?_⟩
      have s1 : Same H (upd H p (.lst [V.int (((e.minutes : Nat) : Int) - 1)])) := same_new np
      refine ⟨_, rfl, a, dx, _, rfl, s1 _ _ h1, cF_with_minutes la e, ?_⟩
      refine ⟨_, rfl, a, _, dx, _, _, rfl, s1 _ _ h1, T.c_Case, T.n_arrivals, cF_arrivals la e, _, rfl, _, rfl, la, _, rfl, SqL.of (s1 _ _ h2), fun r nr => ?_⟩
      have s3 := same_new (o := .lst (cutV (nz e.arrivals) none (some (-1)))) nr
      have s13 := s1.trans s3
      refine ⟨a, r, e, e.arrivals.dropLast, rfl, hc.same s13, ?_, fun H4 x s4 cx ar => ?_⟩
      · rw [upd_same, cut_last, List.dropLast_eq_take, List.dropLast_eq_take, nz_take, nz_len]
      · refine ⟨(by show 2 ≤ sizeLine; decide), fun t nt => ?_⟩
        have s5 := same_new (o := .tup [.ref p, .ref x]) nt
        refine k.num z _ t p x (s13.trans (s4.trans s5)) upd_same np (s5 _ _ (s4 _ _ (s3 _ _ (upd_same.trans ?_)))) (cx.same s5) fun l2 h => by
            rw [ar l2 (ArrAt.back cx s5 h)]
            exact Or.inr (s1.free nr)
        show some (HO.lst [V.int (((e.minutes : Nat) : Int) - 1)]) = some (HO.lst [V.int ((e.minutes - 1 : Nat) : Int)])
        rw [show ((e.minutes - 1 : Nat) : Int) = ((e.minutes : Nat) : Int) - 1 by omega]
    · have c1 : ¬ 0 < e.minutes := by have := of_decide_eq_false hb; omega
      refine k.err (p := ⟨e⟩) ?_
      show (if e.minutes = 0 then _ else _) = _
      rw [if_pos (by omega)]
theorem valid_is {p g w : Nat} (b : Bool) (h : b = true ↔ 1 ≤ p ∧ p ≤ 9 ∧ g ≤ 6 ∧ w ≤ 6) : Kv435.validSettings p g w = b := by
  apply Bool.eq_iff_iff.mpr
  rw [h]
  unfold Kv435.validSettings
  rw [Bool.and_eq_true, Bool.and_eq_true, Bool.and_eq_true, decide_eq_true_iff, decide_eq_true_iff, decide_eq_true_iff, decide_eq_true_iff]
  omega
def sp_set_per_gate (C CF : Addr) : Sp := fun vs H Q E => ∃ (a : Addr) (e : Entrance) (n : Nat), vs = [.ref a, .int ((n : Nat) : Int)] ∧ CaseAt C H a e ∧ Good e ∧ ChgEnd C CF Q E a H (Planner.run ⟨e⟩ (.setPerGate n))
theorem sc_set_per_gate : FnScope ["case", "people"] ["case", "people"] (defScope s_set_per_gate) := ⟨rfl, rfl, rfl, by decide +kernel, rfl, by decide +kernel, by decide +kernel⟩
theorem ok_set_per_gate (T : Txt K mg A) : FnOk P w K mg base (L2.CX P w) 4 A.f_set_per_gate A.d_set_per_gate ["case", "people"] (sp_set_per_gate A.Case A.Refusal) := by
  refine T.d_set_per_gate.F.okX sc_set_per_gate (fun vs H Q E h => ?_) (fun cdv Ar outer s H vs Q E hr h => ?_)
  · obtain ⟨a, e, n, rfl, _⟩ := h
    rfl
  · obtain ⟨a, e, n, rfl, hc, G, k⟩ := h
    refine ⟨_, (pss_cons (ps_expr (pe_call (ok_require T) (hr.mono (by decide)) (by rfl) T.d_require.g T.d_require.F.kp T.d_require.b .nil (passes_call (takes_of rfl rfl rfl rfl) fun _ _ _ _ h => h) (pa_cons (pe_chain op_le op_le pe_int (pv 1) (pe_gint (by rfl) T.k_MOST_PER_GATE)) (pa_cons (pe_gint (by rfl) T.k_OUTSIDE) pa_nil))))
        (pss_one (ps_ret (pe_tup (pa_cons (pe_lst (pa_cons (pe_fld (pv 0) (by rfl)) pa_nil)) (pa_cons (pe_meth (pv 0) T.c_Case T.d_Case_with_per_gate.m (ok_Case_with_per_gate T) (hr.mono (by decide)) T.d_Case_with_per_gate.b .nil pass0 (pa_cons (pv 1) pa_nil)) pa_nil)))))), ?_⟩
    obtain ⟨dx, la, h1, h2⟩ := id hc
    have bad : ¬ (1 ≤ n ∧ n ≤ 9) → Err A.Refusal E (-22) H := fun c => by
      refine k.err (p := ⟨e⟩) ?_
      show (if Kv435.validSettings n e.maxGates e.maxWait = false then _ else _) = _
      rw [if_pos (valid_is false ⟨fun q => Bool.noConfusion q, fun q => absurd ⟨q.1, q.2.1⟩ c⟩)]
    refine ⟨_, rfl, _, _, rfl, rfl, _, rfl, ?_⟩
    by_cases c0 : 1 ≤ n
    · refine ifT (decide_eq_true (by omega)) ?_
      refine ⟨_, _, rfl, rfl, _, _, rfl, fun hb => ?_, fun hb => ?_⟩
      · have c1 : n ≤ 9 := by have := of_decide_eq_true hb; omega
        have z : Planner.run ⟨e⟩ (.setPerGate n) = (⟨{ e with perGate := n }⟩, .number e.perGate) := by
          show (if Kv435.validSettings n e.maxGates e.maxWait = false then _ else _) = _
          rw [valid_is true ⟨fun _ => ⟨c0, c1, G.g6, G.w6⟩, fun _ => rfl⟩, if_neg (by decide)]
        refine ⟨_, rfl, a, _, dx, _, _, rfl, h1, T.c_Case, T.n_per_gate, cF_per_gate la e, (by show 1 ≤ sizeLine; decide), fun p np => ?_⟩
        have s1 : Same H (upd H p (.lst [V.int ((e.perGate : Nat) : Int)])) := same_new np
        refine ⟨_, rfl, a, dx, _, rfl, s1 _ _ h1, cF_with_per_gate la e, _, rfl, a, e, n, rfl, hc.same s1, fun H4 x s4 cx ar => ?_⟩
        refine ⟨(by show 2 ≤ sizeLine; decide), fun t nt => ?_⟩
        have s5 := same_new (o := .tup [.ref p, .ref x]) nt
        exact k.num z _ t p x (s1.trans (s4.trans s5)) upd_same np (s5 _ _ (s4 _ _ upd_same)) (cx.same s5) fun l2 h => Or.inl (ArrAt.back hc s1 (ar l2 (ArrAt.back cx s5 h)))
      · exact bad fun q => by have := of_decide_eq_false hb; omega
    · refine ifF (decide_eq_false (by omega)) ?_
      exact ⟨_, _, rfl, fun hb => (by cases hb), fun hb => bad fun q => c0 q.1⟩
def sp_set_max_gates (C CF : Addr) : Sp := fun vs H Q E => ∃ (a : Addr) (e : Entrance) (n : Nat), vs = [.ref a, .int ((n : Nat) : Int)] ∧ CaseAt C H a e ∧ Good e ∧ ChgEnd C CF Q E a H (Planner.run ⟨e⟩ (.setMaxGates n))
theorem sc_set_max_gates : FnScope ["case", "gates"] ["case", "gates"] (defScope s_set_max_gates) := ⟨rfl, rfl, rfl, by decide +kernel, rfl, by decide +kernel, by decide +kernel⟩
theorem ok_set_max_gates (T : Txt K mg A) : FnOk P w K mg base (L2.CX P w) 4 A.f_set_max_gates A.d_set_max_gates ["case", "gates"] (sp_set_max_gates A.Case A.Refusal) := by
  refine T.d_set_max_gates.F.okX sc_set_max_gates (fun vs H Q E h => ?_) (fun cdv Ar outer s H vs Q E hr h => ?_)
  · obtain ⟨a, e, n, rfl, _⟩ := h
    rfl
  · obtain ⟨a, e, n, rfl, hc, G, k⟩ := h
    refine ⟨_, (pss_cons (ps_expr (pe_call (ok_require T) (hr.mono (by decide)) (by rfl) T.d_require.g T.d_require.F.kp T.d_require.b .nil (passes_call (takes_of rfl rfl rfl rfl) fun _ _ _ _ h => h) (pa_cons (pe_cmp (pc_le (pv 1) (pe_gint (by rfl) T.k_MOST_GATES)) (nobehind _ (by decide) (by decide))) (pa_cons (pe_gint (by rfl) T.k_OUTSIDE) pa_nil))))
        (pss_one (ps_ret (pe_tup (pa_cons (pe_lst (pa_cons (pe_fld (pv 0) (by rfl)) pa_nil)) (pa_cons (pe_meth (pv 0) T.c_Case T.d_Case_with_max_gates.m (ok_Case_with_max_gates T) (hr.mono (by decide)) T.d_Case_with_max_gates.b .nil pass0 (pa_cons (pv 1) pa_nil)) pa_nil)))))), ?_⟩
    obtain ⟨dx, la, h1, h2⟩ := id hc
    refine ⟨_, rfl, _, _, rfl, rfl, _, _, rfl, fun hb => ?_, fun hb => ?_⟩
    · have c1 : n ≤ 6 := by have := of_decide_eq_true hb; omega
      have z : Planner.run ⟨e⟩ (.setMaxGates n) = (⟨{ e with maxGates := n }⟩, .number e.maxGates) := by
        show (if Kv435.validSettings e.perGate n e.maxWait = false then _ else _) = _
        rw [valid_is true ⟨fun _ => ⟨G.p1, G.p9, c1, G.w6⟩, fun _ => rfl⟩, if_neg (by decide)]
      refine ⟨_, rfl, a, _, dx, _, _, rfl, h1, T.c_Case, T.n_max_gates, cF_max_gates la e, (by show 1 ≤ sizeLine; decide), fun p np => ?_⟩
      have s1 : Same H (upd H p (.lst [V.int ((e.maxGates : Nat) : Int)])) := same_new np
      refine ⟨_, rfl, a, dx, _, rfl, s1 _ _ h1, cF_with_max_gates la e, _, rfl, a, e, n, rfl, hc.same s1, fun H4 x s4 cx ar => ?_⟩
      refine ⟨(by show 2 ≤ sizeLine; decide), fun t nt => ?_⟩
      have s5 := same_new (o := .tup [.ref p, .ref x]) nt
      exact k.num z _ t p x (s1.trans (s4.trans s5)) upd_same np (s5 _ _ (s4 _ _ upd_same)) (cx.same s5) fun l2 h => Or.inl (ArrAt.back hc s1 (ar l2 (ArrAt.back cx s5 h)))
    · refine k.err (p := ⟨e⟩) ?_
      show (if Kv435.validSettings e.perGate n e.maxWait = false then _ else _) = _
      rw [if_pos (valid_is false ⟨fun q => Bool.noConfusion q, fun q => by have := of_decide_eq_false hb; omega⟩)]
def sp_set_max_wait (C CF : Addr) : Sp := fun vs H Q E => ∃ (a : Addr) (e : Entrance) (n : Nat), vs = [.ref a, .int ((n : Nat) : Int)] ∧ CaseAt C H a e ∧ Good e ∧ ChgEnd C CF Q E a H (Planner.run ⟨e⟩ (.setMaxWait n))
theorem sc_set_max_wait : FnScope ["case", "minutes"] ["case", "minutes"] (defScope s_set_max_wait) := ⟨rfl, rfl, rfl, by decide +kernel, rfl, by decide +kernel, by decide +kernel⟩
theorem ok_set_max_wait (T : Txt K mg A) : FnOk P w K mg base (L2.CX P w) 4 A.f_set_max_wait A.d_set_max_wait ["case", "minutes"] (sp_set_max_wait A.Case A.Refusal) := by
  refine T.d_set_max_wait.F.okX sc_set_max_wait (fun vs H Q E h => ?_) (fun cdv Ar outer s H vs Q E hr h => ?_)
  · obtain ⟨a, e, n, rfl, _⟩ := h
    rfl
  · obtain ⟨a, e, n, rfl, hc, G, k⟩ := h
    refine ⟨_, (pss_cons (ps_expr (pe_call (ok_require T) (hr.mono (by decide)) (by rfl) T.d_require.g T.d_require.F.kp T.d_require.b .nil (passes_call (takes_of rfl rfl rfl rfl) fun _ _ _ _ h => h) (pa_cons (pe_cmp (pc_le (pv 1) (pe_gint (by rfl) T.k_MOST_WAIT)) (nobehind _ (by decide) (by decide))) (pa_cons (pe_gint (by rfl) T.k_OUTSIDE) pa_nil))))
        (pss_one (ps_ret (pe_tup (pa_cons (pe_lst (pa_cons (pe_fld (pv 0) (by rfl)) pa_nil)) (pa_cons (pe_meth (pv 0) T.c_Case T.d_Case_with_max_wait.m (ok_Case_with_max_wait T) (hr.mono (by decide)) T.d_Case_with_max_wait.b .nil pass0 (pa_cons (pv 1) pa_nil)) pa_nil)))))), ?_⟩
    obtain ⟨dx, la, h1, h2⟩ := id hc
    refine ⟨_, rfl, _, _, rfl, rfl, _, _, rfl, fun hb => ?_, fun hb => ?_⟩
    · have c1 : n ≤ 6 := by have := of_decide_eq_true hb; omega
      have z : Planner.run ⟨e⟩ (.setMaxWait n) = (⟨{ e with maxWait := n }⟩, .number e.maxWait) := by
        show (if Kv435.validSettings e.perGate e.maxGates n = false then _ else _) = _
        rw [valid_is true ⟨fun _ => ⟨G.p1, G.p9, G.g6, c1⟩, fun _ => rfl⟩, if_neg (by decide)]
      refine ⟨_, rfl, a, _, dx, _, _, rfl, h1, T.c_Case, T.n_max_wait, cF_max_wait la e, (by show 1 ≤ sizeLine; decide), fun p np => ?_⟩
      have s1 : Same H (upd H p (.lst [V.int ((e.maxWait : Nat) : Int)])) := same_new np
      refine ⟨_, rfl, a, dx, _, rfl, s1 _ _ h1, cF_with_max_wait la e, _, rfl, a, e, n, rfl, hc.same s1, fun H4 x s4 cx ar => ?_⟩
      refine ⟨(by show 2 ≤ sizeLine; decide), fun t nt => ?_⟩
      have s5 := same_new (o := .tup [.ref p, .ref x]) nt
      exact k.num z _ t p x (s1.trans (s4.trans s5)) upd_same np (s5 _ _ (s4 _ _ upd_same)) (cx.same s5) fun l2 h => Or.inl (ArrAt.back hc s1 (ar l2 (ArrAt.back cx s5 h)))
    · refine k.err (p := ⟨e⟩) ?_
      show (if Kv435.validSettings e.perGate e.maxGates n = false then _ else _) = _
      rw [if_pos (valid_is false ⟨fun q => Bool.noConfusion q, fun q => by have := of_decide_eq_false hb; omega⟩)]
def sp_changed (C CF : Addr) : Sp := fun vs H Q E => ∃ (a ln : Addr) (e : Entrance) (c : Nat) (ns : List Nat) (op : Operation), vs = [.ref a, .int ((c : Nat) : Int), .ref ln] ∧ CaseAt C H a e ∧ Good e ∧ H ln = some (.lst (nz ns)) ∧ chgOp c ns = some op ∧
  ChgEnd C CF Q E a H (Planner.run ⟨e⟩ op)
theorem sc_changed : FnScope ["case", "number", "n"] ["case", "number", "n"] (defScope s_changed) := ⟨rfl, rfl, rfl, by decide +kernel, rfl, by decide +kernel, by decide +kernel⟩
theorem ok_changed (T : Txt K mg A) : FnOk P w K mg base (L2.CX P w) 6 A.f_changed A.d_changed ["case", "number", "n"] (sp_changed A.Case A.Refusal) := by
  refine T.d_changed.F.okX sc_changed (fun vs H Q E h => ?_) (fun cdv Ar outer s H vs Q E hr h => ?_)
  · obtain ⟨a, ln, e, c, ns, op, rfl, _⟩ := h
    rfl
  · obtain ⟨a, ln, e, c, ns, op, rfl, hc, G, hl, ho, k⟩ := h
    refine ⟨_, (pss_cons (ps_if (pt_cmp (pc_eqI (pv 1) pe_int) (nobehind _ (by decide) (by decide))) (pss_one (ps_ret (pe_call (ok_add_minute T) (hr.mono (by decide)) (by rfl) T.d_add_minute.g T.d_add_minute.F.kp T.d_add_minute.b .nil (passes_call (takes_of rfl rfl rfl rfl) fun _ _ _ _ h => h) (pa_cons (pv 0) (pa_cons (pe_ix ix_list (pv 2) pe_int (fun _ _ => rfl)) pa_nil))))) pss_nil)
        (pss_cons (ps_if (pt_cmp (pc_eqI (pv 1) pe_int) (nobehind _ (by decide) (by decide))) (pss_one (ps_ret (pe_call (ok_set_arrivals T) (hr.mono (by decide)) (by rfl) T.d_set_arrivals.g T.d_set_arrivals.F.kp T.d_set_arrivals.b .nil (passes_call (takes_of rfl rfl rfl rfl) fun _ _ _ _ h => h) (pa_cons (pv 0) (pa_cons (pe_ix ix_list (pv 2) pe_int (fun _ _ => rfl)) (pa_cons (pe_ix ix_list (pv 2) pe_int (fun _ _ => rfl)) pa_nil)))))) pss_nil)
        (pss_cons (ps_if (pt_cmp (pc_eqI (pv 1) pe_int) (nobehind _ (by decide) (by decide))) (pss_one (ps_ret (pe_call (ok_remove_last_minute T) (hr.mono (by decide)) (by rfl) T.d_remove_last_minute.g T.d_remove_last_minute.F.kp T.d_remove_last_minute.b .nil (passes_call (takes_of rfl rfl rfl rfl) fun _ _ _ _ h => h) (pa_cons (pv 0) pa_nil)))) pss_nil)
        (pss_cons (ps_if (pt_cmp (pc_eqI (pv 1) pe_int) (nobehind _ (by decide) (by decide))) (pss_one (ps_ret (pe_call (ok_set_per_gate T) (hr.mono (by decide)) (by rfl) T.d_set_per_gate.g T.d_set_per_gate.F.kp T.d_set_per_gate.b .nil (passes_call (takes_of rfl rfl rfl rfl) fun _ _ _ _ h => h) (pa_cons (pv 0) (pa_cons (pe_ix ix_list (pv 2) pe_int (fun _ _ => rfl)) pa_nil))))) pss_nil)
        (pss_one (ps_ret (pe_ifExp (pt_cmp (pc_eqI (pv 1) pe_int) (nobehind _ (by decide) (by decide))) (pe_call (ok_set_max_gates T) (hr.mono (by decide)) (by rfl) T.d_set_max_gates.g T.d_set_max_gates.F.kp T.d_set_max_gates.b .nil (passes_call (takes_of rfl rfl rfl rfl) fun _ _ _ _ h => h) (pa_cons (pv 0) (pa_cons (pe_ix ix_list (pv 2) pe_int (fun _ _ => rfl)) pa_nil))) (pe_call (ok_set_max_wait T) (hr.mono (by decide)) (by rfl) T.d_set_max_wait.g T.d_set_max_wait.F.kp T.d_set_max_wait.b .nil (passes_call (takes_of rfl rfl rfl rfl) fun _ _ _ _ h => h) (pa_cons (pv 0) (pa_cons (pe_ix ix_list (pv 2) pe_int (fun _ _ => rfl)) pa_nil)))))))))), ?_⟩
    unfold chgOp at ho
    split at ho <;> (first | cases ho | skip)
    · rename_i x
      refine ⟨_, rfl, _, _, rfl, rfl, _, rfl, ifT rfl ?_⟩
      exact ⟨_, rfl, _, rfl, ln, _, _, _, rfl, rfl, SqL.of hl, atI_nat (j := 0) rfl, a, e, x, rfl, hc, G, k⟩
    · rename_i x y
      refine ⟨_, rfl, _, _, rfl, rfl, _, rfl, ifF rfl ?_⟩
      refine ⟨_, rfl, _, _, rfl, rfl, _, rfl, ifT rfl ?_⟩
      exact ⟨_, rfl, _, rfl, ln, _, _, _, rfl, rfl, SqL.of hl, atI_nat (j := 0) rfl, _, rfl, ln, _, _, _, rfl, rfl, SqL.of hl, atI_nat (j := 1) rfl, a, e, x, y, rfl, hc, G, k⟩
    · refine ⟨_, rfl, _, _, rfl, rfl, _, rfl, ifF rfl ?_⟩
      refine ⟨_, rfl, _, _, rfl, rfl, _, rfl, ifF rfl ?_⟩
      refine ⟨_, rfl, _, _, rfl, rfl, _, rfl, ifT rfl ?_⟩
      exact ⟨_, rfl, a, e, rfl, hc, G, k⟩
    · rename_i x
      refine ⟨_, rfl, _, _, rfl, rfl, _, rfl, ifF rfl ?_⟩
      refine ⟨_, rfl, _, _, rfl, rfl, _, rfl, ifF rfl ?_⟩
      refine ⟨_, rfl, _, _, rfl, rfl, _, rfl, ifF rfl ?_⟩
      refine ⟨_, rfl, _, _, rfl, rfl, _, rfl, ifT rfl ?_⟩
      exact ⟨_, rfl, _, rfl, ln, _, _, _, rfl, rfl, SqL.of hl, atI_nat (j := 0) rfl, a, e, x, rfl, hc, G, k⟩
    · rename_i x
      refine ⟨_, rfl, _, _, rfl, rfl, _, rfl, ifF rfl ?_⟩
      refine ⟨_, rfl, _, _, rfl, rfl, _, rfl, ifF rfl ?_⟩
      refine ⟨_, rfl, _, _, rfl, rfl, _, rfl, ifF rfl ?_⟩
      refine ⟨_, rfl, _, _, rfl, rfl, _, rfl, ifF rfl ?_⟩
      refine ⟨_, rfl, _, _, rfl, rfl, _, rfl, ifT rfl ?_⟩
      exact ⟨_, rfl, _, rfl, ln, _, _, _, rfl, rfl, SqL.of hl, atI_nat (j := 0) rfl, a, e, x, rfl, hc, G, k⟩
    · rename_i x
      refine ⟨_, rfl, _, _, rfl, rfl, _, rfl, ifF rfl ?_⟩
      refine ⟨_, rfl, _, _, rfl, rfl, _, rfl, ifF rfl ?_⟩
      refine ⟨_, rfl, _, _, rfl, rfl, _, rfl, ifF rfl ?_⟩
      refine ⟨_, rfl, _, _, rfl, rfl, _, rfl, ifF rfl ?_⟩
      refine ⟨_, rfl, _, _, rfl, rfl, _, rfl, ifF rfl ?_⟩
      exact ⟨_, rfl, _, rfl, ln, _, _, _, rfl, rfl, SqL.of hl, atI_nat (j := 0) rfl, a, e, x, rfl, hc, G, k⟩
end
end Gw

set_option Elab.async false
set_option linter.all false
set_option maxRecDepth 100000
set_option maxHeartbeats 2000000
/-! queries.py, first half. -/
namespace Gw
open PySem PySem.Spec PyProof.Rows L2
open PySem.W (Codec)
open Kv435 (Entrance sumBetween Planner Operation Response)
open Gh (ele pre admM longM)
/-- what a query ends in -/
def TellEnd (CF : Addr) (Q : VK) (E : XK) (H : Hp) (r : Response) : Prop :=
  (∀ code, r = Response.error code → Err CF E code H) ∧
  (∀ H' p, Same H H' → H p = none → H' p = some (.lst ((Kv435Neutral.resultRow r).map V.int)) → Q (.ref p) H')
theorem row_nz (n : Nat) (vs : List Nat) : (Kv435Neutral.resultRow ⟨((n : Nat) : Int), vs⟩).map V.int = nz (n :: vs) := by
  unfold Kv435Neutral.resultRow Kv435Neutral.integers nz
  rw [List.map_cons, List.map_cons, List.map_map]
  rfl
theorem TellEnd.err {CF : Addr} {Q : VK} {E : XK} {H : Hp} {r : Response} {code : Int} (h : TellEnd CF Q E H r) (z : r = Response.error code) : Err CF E code H := h.1 code z
theorem TellEnd.row {CF : Addr} {Q : VK} {E : XK} {H : Hp} {r : Response} {n : Nat} {vs : List Nat} (h : TellEnd CF Q E H r) (z : r = ⟨((n : Nat) : Int), vs⟩) :
    ∀ H' p, Same H H' → H p = none → H' p = some (.lst (nz (n :: vs))) → Q (.ref p) H' := by
  subst z
  intro H' p s hp hq
  rw [← row_nz] at hq
  exact h.2 H' p s hp hq
theorem TellEnd.bad {CF : Addr} {Q : VK} {E : XK} {H : Hp} {r : Response} {code : Int} (h : TellEnd CF Q E H r) (z : r = Response.error code) :
    ∀ H' p, Same H H' → H p = none → H' p = some (.lst [.int code]) → Q (.ref p) H' := by
  subst z
  exact h.2
theorem TellEnd.same {CF : Addr} {Q : VK} {E : XK} {H H1 : Hp} {r : Response} (h : TellEnd CF Q E H r) (s : Same H H1) : TellEnd CF Q E H1 r :=
  ⟨fun code z => (h.1 code z).same s, fun H' p s' hp hq => h.2 H' p (s.trans s') (s.free hp) hq⟩
theorem ref_non (p : Addr) : decide (V.ref p = V.non) = false := decide_eq_false (by intro q; cases q)
theorem non_non : decide (V.non = V.non) = true := decide_eq_true rfl
section
variable {P : Program} {w : World} {K : PySem.W.Frag} {mg : Str → Option Value} {base : Heap} {A : Adr}
def sp_told_best (C CF : Addr) : Sp := fun vs H Q E => ∃ (a : Addr) (e : Entrance), vs = [.ref a] ∧ CaseAt C H a e ∧ Good e ∧ TellEnd CF Q E H (Planner.run ⟨e⟩ .bestSchedule).2
theorem sc_told_best : FnScope ["case", "found"] ["case"] (defScope s_told_best) := ⟨rfl, rfl, rfl, by decide +kernel, rfl, by decide +kernel, by decide +kernel⟩
theorem ok_told_best (T : Txt K mg A) : FnOk P w K mg base (L2.CX P w) 6 A.f_told_best A.d_told_best ["case"] (sp_told_best A.Case A.Refusal) := by
  refine T.d_told_best.F.okX sc_told_best (fun vs H Q E h => ?_) (fun cdv Ar outer s H vs Q E hr h => ?_)
  · obtain ⟨a, e, rfl, _⟩ := h
    rfl
  · obtain ⟨a, e, rfl, hc, G, k⟩ := h
    refine ⟨_, (pss_cons (ps_set (i := 1) sc_told_best.nd rfl (Or.inl rfl) (pe_call (ok_best_schedule T) (hr.mono (by decide)) (by rfl) T.d_best_schedule.g T.d_best_schedule.F.kp T.d_best_schedule.b .nil pass0 (pa_cons (pv 0) pa_nil)))
        (pss_cons (ps_expr (pe_call (ok_require T) (hr.mono (by decide)) (by rfl) T.d_require.g T.d_require.F.kp T.d_require.b .nil (passes_call (takes_of rfl rfl rfl rfl) fun _ _ _ _ h => h) (pa_cons (pe_cmp (pc_notN (pv 1)) rfl) (pa_cons (pe_gint (by rfl) T.k_NONE_FOUND) pa_nil))))
        (pss_one (ps_ret (pe_call (ok_counted T) (hr.mono (by decide)) (by rfl) T.d_counted.g T.d_counted.F.kp T.d_counted.b .nil pass0 (pa_cons (pv 1) pa_nil)))))), ?_⟩
    refine ⟨_, rfl, a, e, rfl, hc, G, fun g hb hlen H1 p s1 hp => ?_, fun hb H1 s1 => ?_⟩
    · refine ⟨_, rfl, _, _, rfl, fun hx => ?_, fun hx => ?_⟩
      · have z : (Planner.run ⟨e⟩ .bestSchedule).2 = ⟨((g.length : Nat) : Int), g⟩ := by
          show (match e.bestSchedule with | none => _ | some gates => _ : Planner × Response).2 = _
          rw [hb]
          rfl
        refine ⟨_, rfl, p, g, rfl, hp, by omega, fun H2 q s2 nq hq => ?_⟩
        exact k.row z _ q (s1.trans s2) (s1.free nq) hq
      · rw [ref_non] at hx
        cases hx
    · refine ⟨_, rfl, _, _, rfl, fun hx => ?_, fun hx => ?_⟩
      · rw [non_non] at hx
        cases hx
      · refine (k.err ?_).same s1
        show (match e.bestSchedule with | none => _ | some gates => _ : Planner × Response).2 = _
        rw [hb]
def sp_told_gate_minutes (C CF : Addr) : Sp := fun vs H Q E => ∃ (a : Addr) (e : Entrance), vs = [.ref a] ∧ CaseAt C H a e ∧ Good e ∧ TellEnd CF Q E H (Response.optional (e.bestSchedule.map List.sum))
theorem sc_told_gate_minutes : FnScope ["case", "found"] ["case"] (defScope s_told_gate_minutes) := ⟨rfl, rfl, rfl, by decide +kernel, rfl, by decide +kernel, by decide +kernel⟩
theorem ok_told_gate_minutes (T : Txt K mg A) : FnOk P w K mg base (L2.CX P w) 6 A.f_told_gate_minutes A.d_told_gate_minutes ["case"] (sp_told_gate_minutes A.Case A.Refusal) := by
  refine T.d_told_gate_minutes.F.okX sc_told_gate_minutes (fun vs H Q E h => ?_) (fun cdv Ar outer s H vs Q E hr h => ?_)
  · obtain ⟨a, e, rfl, _⟩ := h
    rfl
  · obtain ⟨a, e, rfl, hc, G, k⟩ := h
    refine ⟨_, (pss_cons (ps_set (i := 1) sc_told_gate_minutes.nd rfl (Or.inl rfl) (pe_call (ok_best_schedule T) (hr.mono (by decide)) (by rfl) T.d_best_schedule.g T.d_best_schedule.F.kp T.d_best_schedule.b .nil pass0 (pa_cons (pv 0) pa_nil)))
        (pss_cons (ps_expr (pe_call (ok_require T) (hr.mono (by decide)) (by rfl) T.d_require.g T.d_require.F.kp T.d_require.b .nil (passes_call (takes_of rfl rfl rfl rfl) fun _ _ _ _ h => h) (pa_cons (pe_cmp (pc_notN (pv 1)) rfl) (pa_cons (pe_gint (by rfl) T.k_NONE_FOUND) pa_nil))))
        (pss_one (ps_ret (pe_lst (pa_cons (pe_callB (cr_sum rfl) (by rfl) T.z_sum (by decide +kernel) (pa_cons (pv 1) pa_nil)) pa_nil)))))), ?_⟩
    refine ⟨_, rfl, a, e, rfl, hc, G, fun g hb hlen H1 p s1 hp => ?_, fun hb H1 s1 => ?_⟩
    · refine ⟨_, rfl, _, _, rfl, fun hx => ?_, fun hx => ?_⟩
      · have z : Response.optional (e.bestSchedule.map List.sum) = ⟨((g.sum : Nat) : Int), []⟩ := by
          rw [hb]
          rfl
        refine ⟨_, rfl, p, g.map fun n => ((n : Nat) : Int), rfl, by rw [← nz_ints]; exact SqL.of hp, (by show 1 ≤ sizeLine; decide), fun q nq => ?_⟩
        refine k.row z _ q (s1.trans (same_new nq)) (s1.free nq) (upd_same.trans ?_)
        rw [sum_ints]
        rfl
      · rw [ref_non] at hx
        cases hx
    · refine ⟨_, rfl, _, _, rfl, fun hx => ?_, fun hx => ?_⟩
      · rw [non_non] at hx
        cases hx
      · refine (k.err ?_).same s1
        rw [hb]
        rfl
def sp_told_interval (C CF : Addr) : Sp := fun vs H Q E => ∃ (a : Addr) (e : Entrance), vs = [.ref a] ∧ CaseAt C H a e ∧ Good e ∧ TellEnd CF Q E H (Planner.run ⟨e⟩ .infeasibleInterval).2
theorem sc_told_interval : FnScope ["case", "found", "first", "last"] ["case"] (defScope s_told_interval) := ⟨rfl, rfl, rfl, by decide +kernel, rfl, by decide +kernel, by decide +kernel⟩
theorem ok_told_interval (T : Txt K mg A) : FnOk P w K mg base (L2.CX P w) 4 A.f_told_interval A.d_told_interval ["case"] (sp_told_interval A.Case A.Refusal) := by
  refine T.d_told_interval.F.okX sc_told_interval (fun vs H Q E h => ?_) (fun cdv Ar outer s H vs Q E hr h => ?_)
  · obtain ⟨a, e, rfl, _⟩ := h
    rfl
  · obtain ⟨a, e, rfl, hc, G, k⟩ := h
    refine ⟨_, (pss_cons (ps_set (i := 1) sc_told_interval.nd rfl (Or.inl rfl) (pe_call (ok_infeasible_interval T) (hr.mono (by decide)) (by rfl) T.d_infeasible_interval.g T.d_infeasible_interval.F.kp T.d_infeasible_interval.b .nil pass0 (pa_cons (pv 0) pa_nil)))
        (pss_cons (ps_expr (pe_call (ok_require T) (hr.mono (by decide)) (by rfl) T.d_require.g T.d_require.F.kp T.d_require.b .nil (passes_call (takes_of rfl rfl rfl rfl) fun _ _ _ _ h => h) (pa_cons (pe_cmp (pc_notN (pv 1)) rfl) (pa_cons (pe_gint (by rfl) T.k_NONE_FOUND) pa_nil))))
        (pss_cons (ps_asg (pv 1) (pg_tup rfl (pgs_cons (pg_name (i := 2) sc_told_interval.nd rfl (Or.inl rfl)) (pgs_cons (pg_name (i := 3) sc_told_interval.nd rfl (Or.inl rfl)) pgs_nil))))
        (pss_one (ps_ret (pe_lst (pa_cons (pv 2) (pa_cons (pv 3) (pa_cons (pe_meth (pv 0) T.c_Case T.d_Case_total.m (ok_Case_total T) (hr.mono (by decide)) T.d_Case_total.b .nil pass0 (pa_cons (pv 2) (pa_cons (pv 3) pa_nil))) pa_nil))))))))), ?_⟩
    obtain ⟨dx, la, h1, h2⟩ := id hc
    refine ⟨_, rfl, a, e, rfl, hc, G, fun s t hst ht hi H1 p s1 hp => ?_, fun hi H1 s1 => ?_⟩
    · refine ⟨_, rfl, _, _, rfl, fun hx => ?_, fun hx => ?_⟩
      · have z : (Planner.run ⟨e⟩ .infeasibleInterval).2 = ⟨((s : Nat) : Int), [t, sumBetween e.arrivals s t]⟩ := by
          show (match e.infeasibleInterval with | none => _ | some interval => _ : Planner × Response).2 = _
          rw [hi]
        refine ⟨_, rfl, p, _, rfl, .inl (.inl hp), rfl, _, _, rfl, _, _, rfl, rfl, ?_⟩
        refine ⟨_, rfl, _, rfl, _, rfl, a, dx, _, rfl, s1 _ _ h1, cF_total la e, _, rfl, _, rfl, a, e, s, t, rfl, hc.same s1, fun H2 s2 => ⟨(by show 3 ≤ sizeLine; decide), fun q nq => ?_⟩⟩
        exact k.row z _ q (s1.trans (s2.trans (same_new nq))) (s1.free (s2.free nq)) upd_same
      · rw [ref_non] at hx
        cases hx
    · refine ⟨_, rfl, _, _, rfl, fun hx => ?_, fun hx => ?_⟩
      · rw [non_non] at hx
        cases hx
      · refine (k.err ?_).same s1
        show (match e.infeasibleInterval with | none => _ | some interval => _ : Planner × Response).2 = _
        rw [hi]
/-! ### given schedules -/
theorem all_nine (g : List Nat) : (g.map fun x => decide (((x : Nat) : Int) ≤ 9)).all id = (g.all fun x => decide (x ≤ 9)) := by
  rw [List.all_map]
  congr
  funext x
  apply Bool.eq_iff_iff.mpr
  show decide (((x : Nat) : Int) ≤ 9) = true ↔ _
  rw [decide_eq_true_iff, decide_eq_true_iff]
  omega
def sp_require_schedule (C CF : Addr) : Sp := fun vs H Q E => ∃ (a l : Addr) (e : Entrance) (g : List Nat), vs = [.ref a, .ref l] ∧ CaseAt C H a e ∧ Good e ∧ H l = some (.lst (nz g)) ∧ g.length ≤ 100 ∧
  (e.isSchedule g = false → Err CF E (-22) H) ∧ (e.isSchedule g = true → ∀ H', Same H H' → Q .non H')
theorem sc_require_schedule : FnScope ["case", "schedule", "gates"] ["case", "schedule"] (defScope s_require_schedule) := ⟨rfl, rfl, rfl, by decide +kernel, rfl, by decide +kernel, by decide +kernel⟩
theorem ok_require_schedule (T : Txt K mg A) : FnOk P w K mg base (L2.CX P w) 4 A.f_require_schedule A.d_require_schedule ["case", "schedule"] (sp_require_schedule A.Case A.Refusal) := by
  refine T.d_require_schedule.F.okX sc_require_schedule (fun vs H Q E h => ?_) (fun cdv Ar outer s H vs Q E hr h => ?_)
  · obtain ⟨a, l, e, g, rfl, _⟩ := h
    rfl
  · obtain ⟨a, l, e, g, rfl, hc, G, hl, hlen, k1, k2⟩ := h
    refine ⟨_, (pss_cons (ps_expr (pe_call (ok_require T) (hr.mono (by decide)) (by rfl) T.d_require.g T.d_require.F.kp T.d_require.b .nil (passes_call (takes_of rfl rfl rfl rfl) fun _ _ _ _ h => h) (pa_cons (pe_cmp (pc_eqI (pe_callB call_len_seq (by rfl) T.z_len (by decide +kernel) (pa_cons (pv 1) pa_nil)) (pe_meth0 (pv 0) T.c_Case T.d_Case_length.m (ok_Case_length T) (hr.mono (by decide)) T.d_Case_length.b .nil pass0)) (nobehind _ (by decide) (by decide))) (pa_cons (pe_gint (by rfl) T.k_OUTSIDE) pa_nil))))
        (pss_one (ps_expr (pe_call (ok_require T) (hr.mono (by decide)) (by rfl) T.d_require.g T.d_require.F.kp T.d_require.b .nil (passes_call (takes_of rfl rfl rfl rfl) fun _ _ _ _ h => h) (pa_cons (pe_callB (cr_all rfl) (by rfl) T.z_all (by decide +kernel) (pa_cons (pe_lc (own := [("gates", 2)]) (g := gName 2) (tt := tYes) (by rfl) sc_require_schedule.nd (pi_list (pv 1)) (blkOk_by (own := [("gates", 2)]) (N := ["case", "schedule", "gates"]) (sc := defScope s_require_schedule) (by decide +kernel)) (fun _ _ _ _ _ => (pg_name (i := 2) sc_require_schedule.nd rfl (Or.inl rfl))) (fun _ _ _ _ _ => pts_nil) (fun _ _ _ _ _ => (pe_cmp (pc_le (pv 2) (pe_gint (by rfl) T.k_MOST_ELEMENT)) (nobehind _ (by decide) (by decide))))) pa_nil)) (pa_cons (pe_gint (by rfl) T.k_OUTSIDE) pa_nil)))))), ?_⟩
    obtain ⟨dx, la, h1, h2⟩ := id hc
    refine ⟨_, rfl, l, _, rfl, .inl (SqL.of hl), _, rfl, a, dx, _, rfl, h1, cF_length la e, a, e, rfl, hc, fun H1 s1 => ⟨_, _, rfl, rfl, _, _, rfl, fun hb => ?_, fun hb => ?_⟩⟩
    · have c1 : g.length = e.scheduleLength := by
        have := of_decide_eq_true hb
        rw [nz_len] at this
        omega
      refine ⟨_, rfl, l, rfl, ⟨_, SqL.of (s1 _ _ hl)⟩, fun D nD => ?_⟩
      refine lc_it (walk_list (xs := nz g)) (fun i H' => Same H1 H' ∧ H' D = some (.lst (bz ((g.map fun x => decide (((x : Nat) : Int) ≤ 9)).take i))))
        ⟨same_new nD, upd_same⟩ (fun i H' _ ⟨s2, _⟩ => SqL.of (s2 _ _ (s1 _ _ hl))) ?_ ?_
      · rintro i x H2 H3 hi ⟨s2, hD⟩ ⟨rfl, gx⟩
        rw [nz_len] at hi
        have ex : x = .int ((ele g i : Nat) : Int) := (Option.some.inj ((nz_at hi).symm.trans gx)).symm
        subst ex
        refine ⟨rfl, yes_if ?_⟩
        refine ⟨_, rfl, _, _, rfl, rfl, _, hD, small1000 (by rw [bz_len, List.length_take]; omega), ?_⟩
        refine ⟨same_put nD s2, upd_same.trans (congrArg (fun z => some (HO.lst z)) ?_)⟩
        have z : (g.map fun x => decide (((x : Nat) : Int) ≤ 9))[i]? = some (decide (((ele g i : Nat) : Int) ≤ 9)) := by
          rw [List.getElem?_map, Gh.ele_lt hi]
          rfl
        rw [List.take_add_one, z]
        unfold bz
        rw [List.map_append]
        rfl
      · rintro H2 ⟨s2, hD⟩
        rw [nz_len, List.take_of_length_le (by rw [List.length_map]; omega)] at hD
        refine ⟨D, _, rfl, SqL.of hD, _, _, rfl, fun hx => ?_, fun hx => ?_⟩
        · refine k2 ?_ _ (s1.trans s2)
          rw [all_nine] at hx
          unfold Entrance.isSchedule
          rw [hx, c1, beq_self_eq_true]
          rfl
        · refine (k1 ?_).same (s1.trans s2)
          rw [all_nine] at hx
          unfold Entrance.isSchedule
          rw [hx, Bool.and_false]
    · refine (k1 ?_).same s1
      have c1 : ¬ g.length = e.scheduleLength := by
        have := of_decide_eq_false hb
        rw [nz_len] at this
        omega
      unfold Entrance.isSchedule
      rw [beq_eq_false_iff_ne.mpr c1, Bool.false_and]
/-- the operation upon a schedule -/
def schOp : Nat → List Nat → Option Operation
  | 12, g => some (.isFeasible g)
  | 13, g => some (.admitted g)
  | 14, g => some (.queueLengths g)
  | 15, g => some (.longestWait g)
  | _, _ => none
theorem sch_bad {e : Entrance} {c : Nat} {g : List Nat} {op : Operation} (h : schOp c g = some op) (hb : e.isSchedule g = false) : (Planner.run ⟨e⟩ op).2 = Response.error (-22) := by
  unfold schOp at h
  split at h <;> (first | (cases h; show (if e.isSchedule g = false then (_ : Planner × Response) else _).2 = _; rw [if_pos hb]) | cases h)
def sp_told_of_schedule (C CF : Addr) : Sp := fun vs H Q E => ∃ (a l : Addr) (e : Entrance) (c : Nat) (g : List Nat) (op : Operation), vs = [.ref a, .int ((c : Nat) : Int), .ref l] ∧ CaseAt C H a e ∧ Good e ∧ H l = some (.lst (nz g)) ∧ g.length ≤ 100 ∧
  schOp c g = some op ∧ TellEnd CF Q E H (Planner.run ⟨e⟩ op).2
theorem sc_told_of_schedule : FnScope ["case", "number", "schedule", "admitted", "waiting"] ["case", "number", "schedule"] (defScope s_told_of_schedule) := ⟨rfl, rfl, rfl, by decide +kernel, rfl, by decide +kernel, by decide +kernel⟩
theorem ok_told_of_schedule (T : Txt K mg A) : FnOk P w K mg base (L2.CX P w) 5 A.f_told_of_schedule A.d_told_of_schedule ["case", "number", "schedule"] (sp_told_of_schedule A.Case A.Refusal) := by
  refine T.d_told_of_schedule.F.okX sc_told_of_schedule (fun vs H Q E h => ?_) (fun cdv Ar outer s H vs Q E hr h => ?_)
  · obtain ⟨a, l, e, c, g, op, rfl, _⟩ := h
    rfl
  · obtain ⟨a, l, e, c, g, op, rfl, hc, G, hl, hlen, ho, k⟩ := h
    refine ⟨_, (pss_cons (ps_expr (pe_call (ok_require_schedule T) (hr.mono (by decide)) (by rfl) T.d_require_schedule.g T.d_require_schedule.F.kp T.d_require_schedule.b .nil (passes_call (takes_of rfl rfl rfl rfl) fun _ _ _ _ h => h) (pa_cons (pv 0) (pa_cons (pv 2) pa_nil))))
        (pss_cons (ps_if (pt_cmp (pc_eqI (pv 1) pe_int) (nobehind _ (by decide) (by decide))) (pss_one (ps_ret (pe_lst (pa_cons (pe_callTy call_int1 (by rfl) T.z_int (by decide +kernel) (pa_cons (pe_call (ok_is_feasible T) (hr.mono (by decide)) (by rfl) T.d_is_feasible.g T.d_is_feasible.F.kp T.d_is_feasible.b .nil pass0 (pa_cons (pv 0) (pa_cons (pv 2) pa_nil))) pa_nil)) pa_nil)))) pss_nil)
        (pss_cons (ps_asg (pe_call (ok_admissions T) (hr.mono (by decide)) (by rfl) T.d_admissions.g T.d_admissions.F.kp T.d_admissions.b .nil pass0 (pa_cons (pv 0) (pa_cons (pv 2) pa_nil))) (pg_tup rfl (pgs_cons (pg_name (i := 3) sc_told_of_schedule.nd rfl (Or.inl rfl)) (pgs_cons (pg_name (i := 4) sc_told_of_schedule.nd rfl (Or.inl rfl)) pgs_nil))))
        (pss_cons (ps_if (pt_cmp (pc_eqI (pv 1) pe_int) (nobehind _ (by decide) (by decide))) (pss_one (ps_ret (pe_call (ok_counted T) (hr.mono (by decide)) (by rfl) T.d_counted.g T.d_counted.F.kp T.d_counted.b .nil pass0 (pa_cons (pv 3) pa_nil)))) pss_nil)
        (pss_cons (ps_if (pt_cmp (pc_eqI (pv 1) pe_int) (nobehind _ (by decide) (by decide))) (pss_one (ps_ret (pe_call (ok_counted T) (hr.mono (by decide)) (by rfl) T.d_counted.g T.d_counted.F.kp T.d_counted.b .nil pass0 (pa_cons (pv 4) pa_nil)))) pss_nil)
        (pss_cons (ps_expr (pe_call (ok_require T) (hr.mono (by decide)) (by rfl) T.d_require.g T.d_require.F.kp T.d_require.b .nil (passes_call (takes_of rfl rfl rfl rfl) fun _ _ _ _ h => h) (pa_cons (pe_call (ok_are_all_admitted T) (hr.mono (by decide)) (by rfl) T.d_are_all_admitted.g T.d_are_all_admitted.F.kp T.d_are_all_admitted.b .nil pass0 (pa_cons (pv 0) (pa_cons (pv 2) pa_nil))) (pa_cons (pe_gint (by rfl) T.k_NONE_FOUND) pa_nil))))
        (pss_one (ps_ret (pe_lst (pa_cons (pe_call (ok_longest_wait T) (hr.mono (by decide)) (by rfl) T.d_longest_wait.g T.d_longest_wait.F.kp T.d_longest_wait.b .nil pass0 (pa_cons (pv 0) (pa_cons (pv 2) pa_nil))) pa_nil)))))))))), ?_⟩
    refine ⟨_, rfl, _, rfl, a, l, e, g, rfl, hc, G, hl, hlen, fun hb => k.err (sch_bad ho hb), fun hb H1 s1 => ?_⟩
    have hL : g.length = e.scheduleLength := by
      unfold Entrance.isSchedule at hb
      rw [Bool.and_eq_true] at hb
      exact beq_iff_eq.mp hb.1
    have nb : ¬ e.isSchedule g = false := by
      rw [hb]
      decide
    unfold schOp at ho
    split at ho
    · cases ho
      have z : (Planner.run ⟨e⟩ (.isFeasible g)).2 = ⟨((Kv435.flag (e.isFeasible g) : Nat) : Int), []⟩ := by
        show (if e.isSchedule g = false then (_ : Planner × Response) else _).2 = _
        rw [if_neg nb]
        rfl
      refine ⟨_, rfl, _, _, rfl, rfl, _, rfl, ifT rfl ?_⟩
      refine ⟨_, rfl, _, rfl, a, l, e, g, rfl, hc.same s1, G, s1 _ _ hl, hL, fun H2 s2 => .inr ⟨_, rfl, (by show 1 ≤ sizeLine; decide), fun q nq => ?_⟩⟩
      refine k.row z _ q (s1.trans (s2.trans (same_new nq))) (s1.free (s2.free nq)) (upd_same.trans ?_)
      cases e.isFeasible g <;> rfl
    · cases ho
      have z : (Planner.run ⟨e⟩ (.admitted g)).2 = ⟨(((e.admitted g).length : Nat) : Int), e.admitted g⟩ := by
        show (if e.isSchedule g = false then (_ : Planner × Response) else _).2 = _
        rw [if_neg nb]
        rfl
      refine ⟨_, rfl, _, _, rfl, rfl, _, rfl, ifF rfl ?_⟩
      refine ⟨_, rfl, _, rfl, a, l, e, g, rfl, hc.same s1, G, s1 _ _ hl, hlen, fun H2 t p1 p2 s2 ht q1 q2 => ?_⟩
      refine ⟨t, _, rfl, .inl (.inl ht), rfl, _, _, rfl, _, _, rfl, rfl, ?_⟩
      rw [hL, ← Gh.admitted_eq] at q1
      refine ⟨_, rfl, _, _, rfl, rfl, _, rfl, ifT rfl ?_⟩
      refine ⟨_, rfl, p1, e.admitted g, rfl, q1, by rw [Gh.admitted_eq, (Gh.adm_len e g _).1]; omega, fun H3 q s3 nq hq => ?_⟩
      exact k.row z _ q (s1.trans (s2.trans s3)) (s1.free (s2.free nq)) hq
    · cases ho
      have z : (Planner.run ⟨e⟩ (.queueLengths g)).2 = ⟨(((e.queueLengths g).length : Nat) : Int), e.queueLengths g⟩ := by
        show (if e.isSchedule g = false then (_ : Planner × Response) else _).2 = _
        rw [if_neg nb]
        rfl
      refine ⟨_, rfl, _, _, rfl, rfl, _, rfl, ifF rfl ?_⟩
      refine ⟨_, rfl, _, rfl, a, l, e, g, rfl, hc.same s1, G, s1 _ _ hl, hlen, fun H2 t p1 p2 s2 ht q1 q2 => ?_⟩
      refine ⟨t, _, rfl, .inl (.inl ht), rfl, _, _, rfl, _, _, rfl, rfl, ?_⟩
      rw [hL, ← Gh.waiting_eq] at q2
      refine ⟨_, rfl, _, _, rfl, rfl, _, rfl, ifF rfl ?_⟩
      refine ⟨_, rfl, _, _, rfl, rfl, _, rfl, ifT rfl ?_⟩
      refine ⟨_, rfl, p2, e.queueLengths g, rfl, q2, by rw [Gh.waiting_eq, (Gh.adm_len e g _).2]; omega, fun H3 q s3 nq hq => ?_⟩
      exact k.row z _ q (s1.trans (s2.trans s3)) (s1.free (s2.free nq)) hq
    · cases ho
      have z0 : (Planner.run ⟨e⟩ (.longestWait g)).2 = Response.optional (e.longestWait g) := by
        show (if e.isSchedule g = false then (_ : Planner × Response) else _).2 = _
        rw [if_neg nb]
      rw [Gh.longest_eq, ← hL] at z0
      refine ⟨_, rfl, _, _, rfl, rfl, _, rfl, ifF rfl ?_⟩
      refine ⟨_, rfl, _, rfl, a, l, e, g, rfl, hc.same s1, G, s1 _ _ hl, hlen, fun H2 t p1 p2 s2 ht q1 q2 => ?_⟩
      have s12 := s1.trans s2
      refine ⟨t, _, rfl, .inl (.inl ht), rfl, _, _, rfl, _, _, rfl, rfl, ?_⟩
      refine ⟨_, rfl, _, _, rfl, rfl, _, rfl, ifF rfl ?_⟩
      refine ⟨_, rfl, _, _, rfl, rfl, _, rfl, ifF rfl ?_⟩
      refine ⟨_, rfl, _, rfl, a, l, e, g, rfl, hc.same s12, G, s12 _ _ hl, hlen, fun H3 s3 => ⟨_, _, rfl, fun hx => ?_, fun hx => ?_⟩⟩
      · rw [if_pos (of_decide_eq_true hx)] at z0
        refine ⟨_, rfl, _, rfl, a, l, e, g, rfl, hc.same (s12.trans s3), G, s3 _ _ (s12 _ _ hl), hlen, fun H4 s4 => ⟨(by show 1 ≤ sizeLine; decide), fun q nq => ?_⟩⟩
        exact k.row z0 _ q (s12.trans (s3.trans (s4.trans (same_new nq)))) (s12.free (s3.free (s4.free nq))) upd_same
      · rw [if_neg (of_decide_eq_false hx)] at z0
        exact (k.err z0).same (s12.trans s3)
    · cases ho
end
end Gw

set_option Elab.async false
set_option linter.all false
set_option maxRecDepth 100000
set_option maxHeartbeats 2000000
/-! queries.py, second half. -/
namespace Gw
open PySem PySem.Spec PyProof.Rows L2
open PySem.W (Codec)
open Kv435 (Entrance sumBetween Planner Operation Response)
open Gh (ele pre lastOf)
/-- a query that hands back its codes, too -/
def TellRow (Q : VK) (H : Hp) (r : Response) : Prop := ∀ H' p, Same H H' → H p = none → H' p = some (.lst ((Kv435Neutral.resultRow r).map V.int)) → Q (.ref p) H'
theorem TellRow.row {Q : VK} {H : Hp} {r : Response} {n : Nat} {vs : List Nat} (h : TellRow Q H r) (z : r = ⟨((n : Nat) : Int), vs⟩) :
    ∀ H' p, Same H H' → H p = none → H' p = some (.lst (nz (n :: vs))) → Q (.ref p) H' := by
  subst z
  intro H' p s hp hq
  rw [← row_nz] at hq
  exact h H' p s hp hq
theorem TellRow.bad {Q : VK} {H : Hp} {r : Response} {code : Int} (h : TellRow Q H r) (z : r = Response.error code) :
    ∀ H' p, Same H H' → H p = none → H' p = some (.lst [.int code]) → Q (.ref p) H' := by
  subst z
  exact h
theorem Good.gates {e : Entrance} (G : Good e) {n : Nat} (h : n ≤ 6) : Good { e with maxGates := n } := ⟨G.p1, G.p9, h, G.w6, G.m10⟩
theorem Good.wait {e : Entrance} (G : Good e) {n : Nat} (h : n ≤ 6) : Good { e with maxWait := n } := ⟨G.p1, G.p9, G.g6, h, G.m10⟩
theorem Good.arr {e : Entrance} (G : Good e) (m n : Nat) : Good (e.withArrivals m n) := ⟨G.p1, G.p9, G.g6, G.w6, by
  show (e.arrivals.set m n).length ≤ 10
  rw [List.length_set]
  exact G.m10⟩
section
variable {P : Program} {w : World} {K : PySem.W.Frag} {mg : Str → Option Value} {base : Heap} {A : Adr}
def sp_min_max_gates (C CF : Addr) : Sp := fun vs H Q _ => ∃ (a : Addr) (e : Entrance), vs = [.ref a] ∧ CaseAt C H a e ∧ Good e ∧ TellRow Q H (Planner.run ⟨e⟩ .minMaxGates).2
theorem sc_min_max_gates : FnScope ["case", "gates"] ["case"] (defScope s_min_max_gates) := ⟨rfl, rfl, rfl, by decide +kernel, rfl, by decide +kernel, by decide +kernel⟩
theorem ok_min_max_gates (T : Txt K mg A) : FnOk P w K mg base CX0 4 A.f_min_max_gates A.d_min_max_gates ["case"] (sp_min_max_gates A.Case A.Refusal) := by
  refine T.d_min_max_gates.F.ok sc_min_max_gates (fun vs H Q E h => ?_) (fun cdv Ar outer s H vs Q E hr h => ?_)
  · obtain ⟨a, e, rfl, _⟩ := h
    rfl
  · obtain ⟨a, e, rfl, hc, G, k⟩ := h
    refine ⟨_, (pss_cons (ps_for PassesOwn.never rfl (pi_range1 (by rfl) T.z_range (pa_cons (pe_op op_add (pe_gint (by rfl) T.k_MOST_GATES) pe_int) pa_nil)) (pg_name (i := 1) sc_min_max_gates.nd rfl (Or.inl rfl)) (pss_one (ps_if (pt_val (pe_call (ok_is_possible T) (hr.mono (by decide)) (by rfl) T.d_is_possible.g T.d_is_possible.F.kp T.d_is_possible.b .nil pass0 (pa_cons (pe_meth (pv 0) T.c_Case T.d_Case_with_max_gates.m (ok_Case_with_max_gates T) (hr.mono (by decide)) T.d_Case_with_max_gates.b .nil pass0 (pa_cons (pv 1) pa_nil)) pa_nil))) (pss_one (ps_ret (pe_lst (pa_cons (pv 1) pa_nil)))) pss_nil)))
        (pss_one (ps_ret (pe_lst (pa_cons (pe_gint (by rfl) T.k_NONE_FOUND) pa_nil))))), ?_⟩
    obtain ⟨dx, la, h1, h2⟩ := id hc
    have z0 : (Planner.run ⟨e⟩ .minMaxGates).2 = Response.optional ((List.range 7).find? fun gates => Entrance.isPossible { e with maxGates := gates }) := rfl
    refine ⟨_, _, rfl, rfl, _, rfl, by decide, by decide, ?_⟩
    rw [show ((6 : Int) + 1).toNat = 7 from rfl]
    refine for_range (lo := 0) (n := 7) (fun i σ H' => Same H H' ∧ (∃ v, σ = [some (.ref a), v]) ∧ ∀ j, j < i → Entrance.isPossible { e with maxGates := j } = false)
      ⟨Same.refl H, ⟨none, rfl⟩, fun j hj => absurd hj (Nat.not_lt_zero _)⟩ ?_ ?_
    · rintro i σ H1 hi ⟨s1, ⟨v, rfl⟩, no⟩
      rw [Int.zero_add]
      refine ⟨_, rfl, a, dx, _, rfl, s1 _ _ h1, cF_with_max_gates la e, _, rfl, a, e, i, rfl, hc.same s1, fun H2 x s2 cx _ => ?_⟩
      refine ⟨x, _, rfl, cx, G.gates (by omega), fun H3 s3 => ⟨_, rfl, ?_⟩⟩
      have s13 := s1.trans (s2.trans s3)
      cases hp : Entrance.isPossible { e with maxGates := i } with
      | true =>
        refine ifT rfl ?_
        refine ⟨_, rfl, (by show 1 ≤ sizeLine; decide), fun q nq => ?_⟩
        have z : (Planner.run ⟨e⟩ .minMaxGates).2 = ⟨((i : Nat) : Int), []⟩ := by
          rw [z0, Gh.range_find (p := fun gates => Entrance.isPossible { e with maxGates := gates }) hi hp no]
          rfl
        exact k.row z _ q (s13.trans (same_new nq)) (s13.free nq) upd_same
      | false =>
        refine ifF rfl ⟨s13, ⟨_, rfl⟩, fun j hj => ?_⟩
        by_cases c : j = i
        · rw [c]
          exact hp
        · exact no j (by omega)
    · rintro σ H1 ⟨s1, ⟨v, rfl⟩, no⟩
      refine ⟨(by show 1 ≤ sizeLine; decide), fun q nq => ?_⟩
      have z : (Planner.run ⟨e⟩ .minMaxGates).2 = Response.error (-33) := by
        rw [z0, Gh.range_none (p := fun gates => Entrance.isPossible { e with maxGates := gates }) no]
        rfl
      exact k.bad z _ q (s1.trans (same_new nq)) (s1.free nq) upd_same
def sp_min_max_wait (C CF : Addr) : Sp := fun vs H Q _ => ∃ (a : Addr) (e : Entrance), vs = [.ref a] ∧ CaseAt C H a e ∧ Good e ∧ TellRow Q H (Planner.run ⟨e⟩ .minMaxWait).2
theorem sc_min_max_wait : FnScope ["case", "minutes"] ["case"] (defScope s_min_max_wait) := ⟨rfl, rfl, rfl, by decide +kernel, rfl, by decide +kernel, by decide +kernel⟩
theorem ok_min_max_wait (T : Txt K mg A) : FnOk P w K mg base CX0 4 A.f_min_max_wait A.d_min_max_wait ["case"] (sp_min_max_wait A.Case A.Refusal) := by
  refine T.d_min_max_wait.F.ok sc_min_max_wait (fun vs H Q E h => ?_) (fun cdv Ar outer s H vs Q E hr h => ?_)
  · obtain ⟨a, e, rfl, _⟩ := h
    rfl
  · obtain ⟨a, e, rfl, hc, G, k⟩ := h
    refine ⟨_, (pss_cons (ps_for PassesOwn.never rfl (pi_range1 (by rfl) T.z_range (pa_cons (pe_op op_add (pe_gint (by rfl) T.k_MOST_WAIT) pe_int) pa_nil)) (pg_name (i := 1) sc_min_max_wait.nd rfl (Or.inl rfl)) (pss_one (ps_if (pt_val (pe_call (ok_is_possible T) (hr.mono (by decide)) (by rfl) T.d_is_possible.g T.d_is_possible.F.kp T.d_is_possible.b .nil pass0 (pa_cons (pe_meth (pv 0) T.c_Case T.d_Case_with_max_wait.m (ok_Case_with_max_wait T) (hr.mono (by decide)) T.d_Case_with_max_wait.b .nil pass0 (pa_cons (pv 1) pa_nil)) pa_nil))) (pss_one (ps_ret (pe_lst (pa_cons (pv 1) pa_nil)))) pss_nil)))
        (pss_one (ps_ret (pe_lst (pa_cons (pe_gint (by rfl) T.k_NONE_FOUND) pa_nil))))), ?_⟩
    obtain ⟨dx, la, h1, h2⟩ := id hc
    have z0 : (Planner.run ⟨e⟩ .minMaxWait).2 = Response.optional ((List.range 7).find? fun minutes => Entrance.isPossible { e with maxWait := minutes }) := rfl
    refine ⟨_, _, rfl, rfl, _, rfl, by decide, by decide, ?_⟩
    rw [show ((6 : Int) + 1).toNat = 7 from rfl]
    refine for_range (lo := 0) (n := 7) (fun i σ H' => Same H H' ∧ (∃ v, σ = [some (.ref a), v]) ∧ ∀ j, j < i → Entrance.isPossible { e with maxWait := j } = false)
      ⟨Same.refl H, ⟨none, rfl⟩, fun j hj => absurd hj (Nat.not_lt_zero _)⟩ ?_ ?_
    · rintro i σ H1 hi ⟨s1, ⟨v, rfl⟩, no⟩
      rw [Int.zero_add]
      refine ⟨_, rfl, a, dx, _, rfl, s1 _ _ h1, cF_with_max_wait la e, _, rfl, a, e, i, rfl, hc.same s1, fun H2 x s2 cx _ => ?_⟩
      refine ⟨x, _, rfl, cx, G.wait (by omega), fun H3 s3 => ⟨_, rfl, ?_⟩⟩
      have s13 := s1.trans (s2.trans s3)
      cases hp : Entrance.isPossible { e with maxWait := i } with
      | true =>
        refine ifT rfl ?_
        refine ⟨_, rfl, (by show 1 ≤ sizeLine; decide), fun q nq => ?_⟩
        have z : (Planner.run ⟨e⟩ .minMaxWait).2 = ⟨((i : Nat) : Int), []⟩ := by
          rw [z0, Gh.range_find (p := fun minutes => Entrance.isPossible { e with maxWait := minutes }) hi hp no]
          rfl
        exact k.row z _ q (s13.trans (same_new nq)) (s13.free nq) upd_same
      | false =>
        refine ifF rfl ⟨s13, ⟨_, rfl⟩, fun j hj => ?_⟩
        by_cases c : j = i
        · rw [c]
          exact hp
        · exact no j (by omega)
    · rintro σ H1 ⟨s1, ⟨v, rfl⟩, no⟩
      refine ⟨(by show 1 ≤ sizeLine; decide), fun q nq => ?_⟩
      have z : (Planner.run ⟨e⟩ .minMaxWait).2 = Response.error (-33) := by
        rw [z0, Gh.range_none (p := fun minutes => Entrance.isPossible { e with maxWait := minutes }) no]
        rfl
      exact k.bad z _ q (s1.trans (same_new nq)) (s1.free nq) upd_same
def sp_if_arrivals (C CF : Addr) : Sp := fun vs H Q E => ∃ (a : Addr) (e : Entrance) (m n : Nat), vs = [.ref a, .int ((m : Nat) : Int), .int ((n : Nat) : Int)] ∧ CaseAt C H a e ∧ Good e ∧ TellEnd CF Q E H (Planner.run ⟨e⟩ (.gateMinutesIfArrivals m n)).2
theorem sc_if_arrivals : FnScope ["case", "minute", "arrivals"] ["case", "minute", "arrivals"] (defScope s_if_arrivals) := ⟨rfl, rfl, rfl, by decide +kernel, rfl, by decide +kernel, by decide +kernel⟩
theorem ok_if_arrivals (T : Txt K mg A) : FnOk P w K mg base (L2.CX P w) 7 A.f_if_arrivals A.d_if_arrivals ["case", "minute", "arrivals"] (sp_if_arrivals A.Case A.Refusal) := by
  refine T.d_if_arrivals.F.okX sc_if_arrivals (fun vs H Q E h => ?_) (fun cdv Ar outer s H vs Q E hr h => ?_)
  · obtain ⟨a, e, m, n, rfl, _⟩ := h
    rfl
  · obtain ⟨a, e, m, n, rfl, hc, G, k⟩ := h
    refine ⟨_, (pss_cons (ps_expr (pe_call (ok_require T) (hr.mono (by decide)) (by rfl) T.d_require.g T.d_require.F.kp T.d_require.b .nil (passes_call (takes_of rfl rfl rfl rfl) fun _ _ _ _ h => h) (pa_cons (pe_cmp (pc_lt (pv 1) (pe_meth0 (pv 0) T.c_Case T.d_Case_count.m (ok_Case_count T) (hr.mono (by decide)) T.d_Case_count.b .nil pass0)) (nobehind _ (by decide) (by decide))) (pa_cons (pe_gint (by rfl) T.k_NO_MINUTE) pa_nil))))
        (pss_cons (ps_expr (pe_call (ok_require T) (hr.mono (by decide)) (by rfl) T.d_require.g T.d_require.F.kp T.d_require.b .nil (passes_call (takes_of rfl rfl rfl rfl) fun _ _ _ _ h => h) (pa_cons (pe_cmp (pc_le (pv 2) (pe_gint (by rfl) T.k_MOST_ARRIVALS)) (nobehind _ (by decide) (by decide))) (pa_cons (pe_gint (by rfl) T.k_OUTSIDE) pa_nil))))
        (pss_one (ps_ret (pe_call (ok_told_gate_minutes T) (hr.mono (by decide)) (by rfl) T.d_told_gate_minutes.g T.d_told_gate_minutes.F.kp T.d_told_gate_minutes.b .nil (passes_call (takes_of rfl rfl rfl rfl) fun _ _ _ _ h => h) (pa_cons (pe_meth (pv 0) T.c_Case T.d_Case_with_arrivals.m (ok_Case_with_arrivals T) (hr.mono (by decide)) T.d_Case_with_arrivals.b .nil pass0 (pa_cons (pv 1) (pa_cons (pv 2) pa_nil))) pa_nil)))))), ?_⟩
    obtain ⟨dx, la, h1, h2⟩ := id hc
    refine ⟨_, rfl, _, rfl, a, dx, _, rfl, h1, cF_count la e, a, e, rfl, hc, _, _, rfl, rfl, _, _, rfl, fun hb => ?_, fun hb => ?_⟩
    · have c1 : m < e.minutes := by have := of_decide_eq_true hb; omega
      refine ⟨_, rfl, _, _, rfl, rfl, _, _, rfl, fun hb2 => ?_, fun hb2 => ?_⟩
      · have c2 : n ≤ 40 := by have := of_decide_eq_true hb2; omega
        have z : (Planner.run ⟨e⟩ (.gateMinutesIfArrivals m n)).2 = Response.optional ((e.withArrivals m n).bestSchedule.map List.sum) := by
          show (if e.minutes ≤ m then (_ : Planner × Response) else if 40 < n then _ else _).2 = _
          rw [if_neg (by omega), if_neg (by omega)]
        refine ⟨_, rfl, a, dx, _, rfl, h1, cF_with_arrivals la e, _, rfl, _, rfl, a, e, m, n, rfl, hc, c1, G.m10, fun H1 x s1 cx _ => ?_⟩
        rw [z] at k
        exact ⟨x, _, rfl, cx, G.arr m n, k.same s1⟩
      · have c2 : ¬ n ≤ 40 := by have := of_decide_eq_false hb2; omega
        refine k.err ?_
        show (if e.minutes ≤ m then (_ : Planner × Response) else if 40 < n then _ else _).2 = _
        rw [if_neg (by omega), if_pos (by omega)]
    · have c1 : ¬ m < e.minutes := by have := of_decide_eq_false hb; omega
      refine k.err ?_
      show (if e.minutes ≤ m then (_ : Planner × Response) else _).2 = _
      rw [if_pos (by omega)]
def sp_if_max_wait (C CF : Addr) : Sp := fun vs H Q E => ∃ (a : Addr) (e : Entrance) (n : Nat), vs = [.ref a, .int ((n : Nat) : Int)] ∧ CaseAt C H a e ∧ Good e ∧ TellEnd CF Q E H (Planner.run ⟨e⟩ (.gateMinutesIfMaxWait n)).2
theorem sc_if_max_wait : FnScope ["case", "minutes"] ["case", "minutes"] (defScope s_if_max_wait) := ⟨rfl, rfl, rfl, by decide +kernel, rfl, by decide +kernel, by decide +kernel⟩
theorem ok_if_max_wait (T : Txt K mg A) : FnOk P w K mg base (L2.CX P w) 7 A.f_if_max_wait A.d_if_max_wait ["case", "minutes"] (sp_if_max_wait A.Case A.Refusal) := by
  refine T.d_if_max_wait.F.okX sc_if_max_wait (fun vs H Q E h => ?_) (fun cdv Ar outer s H vs Q E hr h => ?_)
  · obtain ⟨a, e, n, rfl, _⟩ := h
    rfl
  · obtain ⟨a, e, n, rfl, hc, G, k⟩ := h
    refine ⟨_, (pss_cons (ps_expr (pe_call (ok_require T) (hr.mono (by decide)) (by rfl) T.d_require.g T.d_require.F.kp T.d_require.b .nil (passes_call (takes_of rfl rfl rfl rfl) fun _ _ _ _ h => h) (pa_cons (pe_cmp (pc_le (pv 1) (pe_gint (by rfl) T.k_MOST_WAIT)) (nobehind _ (by decide) (by decide))) (pa_cons (pe_gint (by rfl) T.k_OUTSIDE) pa_nil))))
        (pss_one (ps_ret (pe_call (ok_told_gate_minutes T) (hr.mono (by decide)) (by rfl) T.d_told_gate_minutes.g T.d_told_gate_minutes.F.kp T.d_told_gate_minutes.b .nil (passes_call (takes_of rfl rfl rfl rfl) fun _ _ _ _ h => h) (pa_cons (pe_meth (pv 0) T.c_Case T.d_Case_with_max_wait.m (ok_Case_with_max_wait T) (hr.mono (by decide)) T.d_Case_with_max_wait.b .nil pass0 (pa_cons (pv 1) pa_nil)) pa_nil))))), ?_⟩
    obtain ⟨dx, la, h1, h2⟩ := id hc
    refine ⟨_, rfl, _, _, rfl, rfl, _, _, rfl, fun hb => ?_, fun hb => ?_⟩
    · have c1 : n ≤ 6 := by have := of_decide_eq_true hb; omega
      have z : (Planner.run ⟨e⟩ (.gateMinutesIfMaxWait n)).2 = Response.optional ((Entrance.bestSchedule { e with maxWait := n }).map List.sum) := by
        show (if 6 < n then (_ : Planner × Response) else _).2 = _
        rw [if_neg (by omega)]
      refine ⟨_, rfl, a, dx, _, rfl, h1, cF_with_max_wait la e, _, rfl, a, e, n, rfl, hc, fun H1 x s1 cx _ => ?_⟩
      rw [z] at k
      exact ⟨x, _, rfl, cx, G.wait c1, k.same s1⟩
    · refine k.err ?_
      show (if 6 < n then (_ : Planner × Response) else _).2 = _
      rw [if_pos (by have := of_decide_eq_false hb; omega)]
def sp_max_arrivals (C CF : Addr) : Sp := fun vs H Q E => ∃ (a : Addr) (e : Entrance) (m : Nat), vs = [.ref a, .int ((m : Nat) : Int)] ∧ CaseAt C H a e ∧ Good e ∧ TellEnd CF Q E H (Planner.run ⟨e⟩ (.maxArrivals m)).2
theorem sc_max_arrivals : FnScope ["case", "minute", "most", "people"] ["case", "minute"] (defScope s_max_arrivals) := ⟨rfl, rfl, rfl, by decide +kernel, rfl, by decide +kernel, by decide +kernel⟩
theorem ok_max_arrivals (T : Txt K mg A) : FnOk P w K mg base (L2.CX P w) 5 A.f_max_arrivals A.d_max_arrivals ["case", "minute"] (sp_max_arrivals A.Case A.Refusal) := by
  refine T.d_max_arrivals.F.okX sc_max_arrivals (fun vs H Q E h => ?_) (fun cdv Ar outer s H vs Q E hr h => ?_)
  · obtain ⟨a, e, m, rfl, _⟩ := h
    rfl
  · obtain ⟨a, e, m, rfl, hc, G, k⟩ := h
    refine ⟨_, (pss_cons (ps_expr (pe_call (ok_require T) (hr.mono (by decide)) (by rfl) T.d_require.g T.d_require.F.kp T.d_require.b .nil (passes_call (takes_of rfl rfl rfl rfl) fun _ _ _ _ h => h) (pa_cons (pe_cmp (pc_lt (pv 1) (pe_meth0 (pv 0) T.c_Case T.d_Case_count.m (ok_Case_count T) (hr.mono (by decide)) T.d_Case_count.b .nil pass0)) (nobehind _ (by decide) (by decide))) (pa_cons (pe_gint (by rfl) T.k_NO_MINUTE) pa_nil))))
        (pss_cons (ps_expr (pe_call (ok_require T) (hr.mono (by decide)) (by rfl) T.d_require.g T.d_require.F.kp T.d_require.b .nil (passes_call (takes_of rfl rfl rfl rfl) fun _ _ _ _ h => h) (pa_cons (pe_call (ok_is_possible T) (hr.mono (by decide)) (by rfl) T.d_is_possible.g T.d_is_possible.F.kp T.d_is_possible.b .nil pass0 (pa_cons (pv 0) pa_nil)) (pa_cons (pe_gint (by rfl) T.k_NONE_FOUND) pa_nil))))
        (pss_cons (ps_set (i := 2) sc_max_arrivals.nd rfl (Or.inl rfl) pe_int)
        (pss_cons (ps_for (passes_of rfl) rfl (pi_range1 (by rfl) T.z_range (pa_cons (pe_op op_add (pe_gint (by rfl) T.k_MOST_ARRIVALS) pe_int) pa_nil)) (pg_name (i := 3) sc_max_arrivals.nd rfl (Or.inl rfl)) (pss_one (ps_if (pt_val (pe_call (ok_is_possible T) (hr.mono (by decide)) (by rfl) T.d_is_possible.g T.d_is_possible.F.kp T.d_is_possible.b .nil pass0 (pa_cons (pe_meth (pv 0) T.c_Case T.d_Case_with_arrivals.m (ok_Case_with_arrivals T) (hr.mono (by decide)) T.d_Case_with_arrivals.b .nil pass0 (pa_cons (pv 1) (pa_cons (pv 3) pa_nil))) pa_nil))) (pss_one (ps_set (i := 2) sc_max_arrivals.nd rfl (Or.inl rfl) (pv 3))) pss_nil)))
        (pss_one (ps_ret (pe_lst (pa_cons (pv 2) pa_nil)))))))), ?_⟩
    obtain ⟨dx, la, h1, h2⟩ := id hc
    refine ⟨_, rfl, _, rfl, a, dx, _, rfl, h1, cF_count la e, a, e, rfl, hc, _, _, rfl, rfl, _, _, rfl, fun hb => ?_, fun hb => ?_⟩
    · have c1 : m < e.minutes := by have := of_decide_eq_true hb; omega
      refine ⟨_, rfl, a, e, rfl, hc, G, fun H1 s1 => ⟨_, _, rfl, fun hb2 => ?_, fun hb2 => ?_⟩⟩
      · have z : (Planner.run ⟨e⟩ (.maxArrivals m)).2 = ⟨((lastOf (fun arrivals => (e.withArrivals m arrivals).isPossible) 41 : Nat) : Int), []⟩ := by
          show (if e.minutes ≤ m then (_ : Planner × Response) else if e.isPossible = false then _ else _).2 = _
          rw [if_neg (by omega), hb2, if_neg (by decide)]
          rfl
        refine ⟨_, _, rfl, rfl, _, rfl, by decide, by decide, ?_⟩
        rw [show ((40 : Int) + 1).toNat = 41 from rfl]
        refine for_range (lo := 0) (n := 41) (fun i σ H' => Same H H' ∧ ∃ v, σ = [some (.ref a), some (.int ((m : Nat) : Int)), some (.int ((lastOf (fun arrivals => (e.withArrivals m arrivals).isPossible) i : Nat) : Int)), v])
          ⟨s1, none, rfl⟩ ?_ ?_
        · rintro i σ H2 hi ⟨s2, v, rfl⟩
          rw [Int.zero_add]
          refine ⟨_, rfl, a, dx, _, rfl, s2 _ _ h1, cF_with_arrivals la e, _, rfl, _, rfl, a, e, m, i, rfl, hc.same s2, c1, G.m10, fun H3 x s3 cx _ => ?_⟩
          refine ⟨x, _, rfl, cx, G.arr m i, fun H4 s4 => ⟨_, rfl, ?_⟩⟩
          have s24 := s2.trans (s3.trans s4)
          have zl := Gh.lastOf_succ (fun arrivals => (e.withArrivals m arrivals).isPossible) i
          cases hp : (e.withArrivals m i).isPossible with
          | true =>
            refine ifT rfl ?_
            refine ⟨_, rfl, s24, some (.int ((i : Nat) : Int)), ?_⟩
            rw [zl, if_pos hp]
            rfl
          | false =>
            refine ifF rfl ⟨s24, some (.int ((i : Nat) : Int)), ?_⟩
            rw [zl, if_neg (by rw [hp]; decide)]
            rfl
        · rintro σ H2 ⟨s2, v, rfl⟩
          refine ⟨_, rfl, (by show 1 ≤ sizeLine; decide), fun q nq => ?_⟩
          exact k.row z _ q (s2.trans (same_new nq)) (s2.free nq) upd_same
      · refine (k.err ?_).same s1
        show (if e.minutes ≤ m then (_ : Planner × Response) else if e.isPossible = false then _ else _).2 = _
        rw [if_neg (by omega), if_pos hb2]
    · have c1 : ¬ m < e.minutes := by have := of_decide_eq_false hb; omega
      refine k.err ?_
      show (if e.minutes ≤ m then (_ : Planner × Response) else _).2 = _
      rw [if_pos (by omega)]
def sp_total_arrivals (C CF : Addr) : Sp := fun vs H Q E => ∃ (a : Addr) (e : Entrance) (s t : Nat), vs = [.ref a, .int ((s : Nat) : Int), .int ((t : Nat) : Int)] ∧ CaseAt C H a e ∧ Good e ∧ TellEnd CF Q E H (Planner.run ⟨e⟩ (.totalArrivals s t)).2
theorem sc_total_arrivals : FnScope ["case", "first", "last"] ["case", "first", "last"] (defScope s_total_arrivals) := ⟨rfl, rfl, rfl, by decide +kernel, rfl, by decide +kernel, by decide +kernel⟩
theorem ok_total_arrivals (T : Txt K mg A) : FnOk P w K mg base (L2.CX P w) 4 A.f_total_arrivals A.d_total_arrivals ["case", "first", "last"] (sp_total_arrivals A.Case A.Refusal) := by
  refine T.d_total_arrivals.F.okX sc_total_arrivals (fun vs H Q E h => ?_) (fun cdv Ar outer s H vs Q E hr h => ?_)
  · obtain ⟨a, e, s, t, rfl, _⟩ := h
    rfl
  · obtain ⟨a, e, s, t, rfl, hc, G, k⟩ := h
    refine ⟨_, (pss_cons (ps_expr (pe_call (ok_require T) (hr.mono (by decide)) (by rfl) T.d_require.g T.d_require.F.kp T.d_require.b .nil (passes_call (takes_of rfl rfl rfl rfl) fun _ _ _ _ h => h) (pa_cons (pe_and (pe_cmp (pc_lt (pv 1) (pe_meth0 (pv 0) T.c_Case T.d_Case_count.m (ok_Case_count T) (hr.mono (by decide)) T.d_Case_count.b .nil pass0)) (nobehind _ (by decide) (by decide))) (pe_one (pe_cmp (pc_lt (pv 2) (pe_meth0 (pv 0) T.c_Case T.d_Case_count.m (ok_Case_count T) (hr.mono (by decide)) T.d_Case_count.b .nil pass0)) (nobehind _ (by decide) (by decide))))) (pa_cons (pe_gint (by rfl) T.k_NO_MINUTE) pa_nil))))
        (pss_one (ps_ret (pe_lst (pa_cons (pe_meth (pv 0) T.c_Case T.d_Case_total.m (ok_Case_total T) (hr.mono (by decide)) T.d_Case_total.b .nil pass0 (pa_cons (pv 1) (pa_cons (pv 2) pa_nil))) pa_nil))))), ?_⟩
    obtain ⟨dx, la, h1, h2⟩ := id hc
    have bad : ¬ (s < e.minutes ∧ t < e.minutes) → Err A.Refusal E (-2) H := fun c => by
      refine k.err ?_
      show (if e.minutes ≤ s ∨ e.minutes ≤ t then (_ : Planner × Response) else _).2 = _
      rw [if_pos (by omega)]
    refine ⟨_, rfl, _, rfl, a, dx, _, rfl, h1, cF_count la e, a, e, rfl, hc, _, _, rfl, rfl, _, rfl, ?_⟩
    by_cases c0 : s < e.minutes
    · refine ifT (decide_eq_true (by omega)) ?_
      refine ⟨_, rfl, _, rfl, a, dx, _, rfl, h1, cF_count la e, a, e, rfl, hc, _, _, rfl, rfl, _, _, rfl, fun hb => ?_, fun hb => ?_⟩
      · have c1 : t < e.minutes := by have := of_decide_eq_true hb; omega
        have z : (Planner.run ⟨e⟩ (.totalArrivals s t)).2 = ⟨((sumBetween e.arrivals s t : Nat) : Int), []⟩ := by
          show (if e.minutes ≤ s ∨ e.minutes ≤ t then (_ : Planner × Response) else _).2 = _
          rw [if_neg (by omega)]
          rfl
        refine ⟨_, rfl, a, dx, _, rfl, h1, cF_total la e, _, rfl, _, rfl, a, e, s, t, rfl, hc, fun H1 s1 => ⟨(by show 1 ≤ sizeLine; decide), fun q nq => ?_⟩⟩
        exact k.row z _ q (s1.trans (same_new nq)) (s1.free nq) upd_same
      · exact bad fun q => by have := of_decide_eq_false hb; omega
    · refine ifF (decide_eq_false (by omega)) ?_
      exact ⟨_, _, rfl, fun hb => Bool.noConfusion hb, fun hb => bad fun q => c0 q.1⟩
def sp_told_state (C CF : Addr) : Sp := fun vs H Q E => ∃ (a : Addr) (e : Entrance), vs = [.ref a] ∧ CaseAt C H a e ∧ ∀ H' p, Same H H' → H p = none → H' p = some (.lst (nz [e.minutes, e.perGate, e.maxGates, e.maxWait, e.arrivals.sum])) → Q (.ref p) H'
theorem sc_told_state : FnScope ["case"] ["case"] (defScope s_told_state) := ⟨rfl, rfl, rfl, by decide +kernel, rfl, by decide +kernel, by decide +kernel⟩
theorem ok_told_state (T : Txt K mg A) : FnOk P w K mg base CX0 2 A.f_told_state A.d_told_state ["case"] (sp_told_state A.Case A.Refusal) := by
  refine T.d_told_state.F.ok sc_told_state (fun vs H Q E h => ?_) (fun cdv Ar outer s H vs Q E hr h => ?_)
  · obtain ⟨a, e, rfl, _⟩ := h
    rfl
  · obtain ⟨a, e, rfl, hc, k⟩ := h
    refine ⟨_, (pss_one (ps_ret (pe_lst (pa_cons (pe_meth0 (pv 0) T.c_Case T.d_Case_count.m (ok_Case_count T) (hr.mono (by decide)) T.d_Case_count.b .nil pass0) (pa_cons (pe_fld (pv 0) (by rfl)) (pa_cons (pe_fld (pv 0) (by rfl)) (pa_cons (pe_fld (pv 0) (by rfl)) (pa_cons (pe_callB (cr_sum rfl) (by rfl) T.z_sum (by decide +kernel) (pa_cons (pe_fld (pv 0) (by rfl)) pa_nil)) pa_nil)))))))), ?_⟩
    obtain ⟨dx, la, h1, h2⟩ := id hc
    refine ⟨_, rfl, a, dx, _, rfl, h1, cF_count la e, a, e, rfl, hc, _, rfl, a, _, dx, _, _, rfl, h1, T.c_Case, T.n_per_gate, cF_per_gate la e, _, rfl, a, _, dx, _, _, rfl, h1, T.c_Case, T.n_max_gates, cF_max_gates la e,
      _, rfl, a, _, dx, _, _, rfl, h1, T.c_Case, T.n_max_wait, cF_max_wait la e, _, rfl, a, _, dx, _, _, rfl, h1, T.c_Case, T.n_arrivals, cF_arrivals la e, la, e.arrivals.map fun n => ((n : Nat) : Int), rfl, by rw [← nz_ints]; exact SqL.of h2, (by show 5 ≤ sizeLine; decide), fun q nq => ?_⟩
    refine k _ q (same_new nq) nq (upd_same.trans ?_)
    rw [sum_ints]
    rfl
/-- the operations without parameters -/
def plainOp : Nat → Option Operation
  | 7 => some .listArrivals
  | 8 => some .bestSchedule
  | 9 => some .minGateMinutes
  | 10 => some .isPossible
  | 11 => some .infeasibleInterval
  | 16 => some .minMaxGates
  | 17 => some .minMaxWait
  | 22 => some .getState
  | _ => none
def sp_told_plainly (C CF : Addr) : Sp := fun vs H Q E => ∃ (a : Addr) (e : Entrance) (c : Nat) (op : Operation), vs = [.ref a, .int ((c : Nat) : Int)] ∧ CaseAt C H a e ∧ Good e ∧ plainOp c = some op ∧ TellEnd CF Q E H (Planner.run ⟨e⟩ op).2
theorem sc_told_plainly : FnScope ["case", "number"] ["case", "number"] (defScope s_told_plainly) := ⟨rfl, rfl, rfl, by decide +kernel, rfl, by decide +kernel, by decide +kernel⟩
theorem ok_told_plainly (T : Txt K mg A) : FnOk P w K mg base (L2.CX P w) 7 A.f_told_plainly A.d_told_plainly ["case", "number"] (sp_told_plainly A.Case A.Refusal) := by
  refine T.d_told_plainly.F.okX sc_told_plainly (fun vs H Q E h => ?_) (fun cdv Ar outer s H vs Q E hr h => ?_)
  · obtain ⟨a, e, c, op, rfl, _⟩ := h
    rfl
  · obtain ⟨a, e, c, op, rfl, hc, G, ho, k⟩ := h
    refine ⟨_, (pss_cons (ps_if (pt_cmp (pc_eqI (pv 1) pe_int) (nobehind _ (by decide) (by decide))) (pss_one (ps_ret (pe_call (ok_counted T) (hr.mono (by decide)) (by rfl) T.d_counted.g T.d_counted.F.kp T.d_counted.b .nil pass0 (pa_cons (pe_fld (pv 0) (by rfl)) pa_nil)))) pss_nil)
        (pss_cons (ps_if (pt_cmp (pc_eqI (pv 1) pe_int) (nobehind _ (by decide) (by decide))) (pss_one (ps_ret (pe_call (ok_told_best T) (hr.mono (by decide)) (by rfl) T.d_told_best.g T.d_told_best.F.kp T.d_told_best.b .nil (passes_call (takes_of rfl rfl rfl rfl) fun _ _ _ _ h => h) (pa_cons (pv 0) pa_nil)))) pss_nil)
        (pss_cons (ps_if (pt_cmp (pc_eqI (pv 1) pe_int) (nobehind _ (by decide) (by decide))) (pss_one (ps_ret (pe_call (ok_told_gate_minutes T) (hr.mono (by decide)) (by rfl) T.d_told_gate_minutes.g T.d_told_gate_minutes.F.kp T.d_told_gate_minutes.b .nil (passes_call (takes_of rfl rfl rfl rfl) fun _ _ _ _ h => h) (pa_cons (pv 0) pa_nil)))) pss_nil)
        (pss_cons (ps_if (pt_cmp (pc_eqI (pv 1) pe_int) (nobehind _ (by decide) (by decide))) (pss_one (ps_ret (pe_lst (pa_cons (pe_callTy call_int1 (by rfl) T.z_int (by decide +kernel) (pa_cons (pe_call (ok_is_possible T) (hr.mono (by decide)) (by rfl) T.d_is_possible.g T.d_is_possible.F.kp T.d_is_possible.b .nil pass0 (pa_cons (pv 0) pa_nil)) pa_nil)) pa_nil)))) pss_nil)
        (pss_cons (ps_if (pt_cmp (pc_eqI (pv 1) pe_int) (nobehind _ (by decide) (by decide))) (pss_one (ps_ret (pe_call (ok_told_interval T) (hr.mono (by decide)) (by rfl) T.d_told_interval.g T.d_told_interval.F.kp T.d_told_interval.b .nil (passes_call (takes_of rfl rfl rfl rfl) fun _ _ _ _ h => h) (pa_cons (pv 0) pa_nil)))) pss_nil)
        (pss_cons (ps_if (pt_cmp (pc_eqI (pv 1) pe_int) (nobehind _ (by decide) (by decide))) (pss_one (ps_ret (pe_call (ok_min_max_gates T) (hr.mono (by decide)) (by rfl) T.d_min_max_gates.g T.d_min_max_gates.F.kp T.d_min_max_gates.b .nil pass0 (pa_cons (pv 0) pa_nil)))) pss_nil)
        (pss_one (ps_ret (pe_ifExp (pt_cmp (pc_eqI (pv 1) pe_int) (nobehind _ (by decide) (by decide))) (pe_call (ok_min_max_wait T) (hr.mono (by decide)) (by rfl) T.d_min_max_wait.g T.d_min_max_wait.F.kp T.d_min_max_wait.b .nil pass0 (pa_cons (pv 0) pa_nil)) (pe_call (ok_told_state T) (hr.mono (by decide)) (by rfl) T.d_told_state.g T.d_told_state.F.kp T.d_told_state.b .nil pass0 (pa_cons (pv 0) pa_nil))))))))))), ?_⟩
    obtain ⟨dx, la, h1, h2⟩ := id hc
    unfold plainOp at ho
    split at ho <;> cases ho
    · refine ⟨_, rfl, _, _, rfl, rfl, _, rfl, ifT rfl ?_⟩
      refine ⟨_, rfl, a, _, dx, _, _, rfl, h1, T.c_Case, T.n_arrivals, cF_arrivals la e, la, e.arrivals, rfl, h2, by have := G.m10; omega, fun H1 q s1 nq hq => ?_⟩
      exact k.row rfl _ q s1 nq hq
    · refine ⟨_, rfl, _, _, rfl, rfl, _, rfl, ifF rfl ?_⟩
      refine ⟨_, rfl, _, _, rfl, rfl, _, rfl, ifT rfl ?_⟩
      exact ⟨_, rfl, a, e, rfl, hc, G, k⟩
    · refine ⟨_, rfl, _, _, rfl, rfl, _, rfl, ifF rfl ?_⟩
      refine ⟨_, rfl, _, _, rfl, rfl, _, rfl, ifF rfl ?_⟩
      refine ⟨_, rfl, _, _, rfl, rfl, _, rfl, ifT rfl ?_⟩
      exact ⟨_, rfl, a, e, rfl, hc, G, k⟩
    · refine ⟨_, rfl, _, _, rfl, rfl, _, rfl, ifF rfl ?_⟩
      refine ⟨_, rfl, _, _, rfl, rfl, _, rfl, ifF rfl ?_⟩
      refine ⟨_, rfl, _, _, rfl, rfl, _, rfl, ifF rfl ?_⟩
      refine ⟨_, rfl, _, _, rfl, rfl, _, rfl, ifT rfl ?_⟩
      refine ⟨_, rfl, a, e, rfl, hc, G, fun H1 s1 => .inr ⟨_, rfl, (by show 1 ≤ sizeLine; decide), fun q nq => ?_⟩⟩
      refine k.row (n := Kv435.flag e.isPossible) (vs := []) rfl _ q (s1.trans (same_new nq)) (s1.free nq) (upd_same.trans ?_)
      cases e.isPossible <;> rfl
    · refine ⟨_, rfl, _, _, rfl, rfl, _, rfl, ifF rfl ?_⟩
      refine ⟨_, rfl, _, _, rfl, rfl, _, rfl, ifF rfl ?_⟩
      refine ⟨_, rfl, _, _, rfl, rfl, _, rfl, ifF rfl ?_⟩
      refine ⟨_, rfl, _, _, rfl, rfl, _, rfl, ifF rfl ?_⟩
      refine ⟨_, rfl, _, _, rfl, rfl, _, rfl, ifT rfl ?_⟩
      exact ⟨_, rfl, a, e, rfl, hc, G, k⟩
    · refine ⟨_, rfl, _, _, rfl, rfl, _, rfl, ifF rfl ?_⟩
      refine ⟨_, rfl, _, _, rfl, rfl, _, rfl, ifF rfl ?_⟩
      refine ⟨_, rfl, _, _, rfl, rfl, _, rfl, ifF rfl ?_⟩
      refine ⟨_, rfl, _, _, rfl, rfl, _, rfl, ifF rfl ?_⟩
      refine ⟨_, rfl, _, _, rfl, rfl, _, rfl, ifF rfl ?_⟩
      refine ⟨_, rfl, _, _, rfl, rfl, _, rfl, ifT rfl ?_⟩
      exact ⟨_, rfl, a, e, rfl, hc, G, k.2⟩
    · refine ⟨_, rfl, _, _, rfl, rfl, _, rfl, ifF rfl ?_⟩
      refine ⟨_, rfl, _, _, rfl, rfl, _, rfl, ifF rfl ?_⟩
      refine ⟨_, rfl, _, _, rfl, rfl, _, rfl, ifF rfl ?_⟩
      refine ⟨_, rfl, _, _, rfl, rfl, _, rfl, ifF rfl ?_⟩
      refine ⟨_, rfl, _, _, rfl, rfl, _, rfl, ifF rfl ?_⟩
      refine ⟨_, rfl, _, _, rfl, rfl, _, rfl, ifF rfl ?_⟩
      refine ⟨_, rfl, _, _, rfl, rfl, _, rfl, ifT rfl ?_⟩
      exact ⟨_, rfl, a, e, rfl, hc, G, k.2⟩
    · refine ⟨_, rfl, _, _, rfl, rfl, _, rfl, ifF rfl ?_⟩
      refine ⟨_, rfl, _, _, rfl, rfl, _, rfl, ifF rfl ?_⟩
      refine ⟨_, rfl, _, _, rfl, rfl, _, rfl, ifF rfl ?_⟩
      refine ⟨_, rfl, _, _, rfl, rfl, _, rfl, ifF rfl ?_⟩
      refine ⟨_, rfl, _, _, rfl, rfl, _, rfl, ifF rfl ?_⟩
      refine ⟨_, rfl, _, _, rfl, rfl, _, rfl, ifF rfl ?_⟩
      refine ⟨_, rfl, _, _, rfl, rfl, _, rfl, ifF rfl ?_⟩
      refine ⟨_, rfl, a, e, rfl, hc, fun H1 q s1 nq hq => ?_⟩
      exact k.row rfl _ q s1 nq hq
/-- the operation of a query -/
def tellOp (c : Nat) (ns g : List Nat) : Option Operation :=
  match c, ns with
  | 18, [m, n] => some (.gateMinutesIfArrivals m n)
  | 19, [n] => some (.gateMinutesIfMaxWait n)
  | 20, [m] => some (.maxArrivals m)
  | 21, [s, t] => some (.totalArrivals s t)
  | 12, _ => schOp 12 g
  | 13, _ => schOp 13 g
  | 14, _ => schOp 14 g
  | 15, _ => schOp 15 g
  | 7, _ => plainOp 7
  | 8, _ => plainOp 8
  | 9, _ => plainOp 9
  | 10, _ => plainOp 10
  | 11, _ => plainOp 11
  | 16, _ => plainOp 16
  | 17, _ => plainOp 17
  | 22, _ => plainOp 22
  | _, _ => none
def sp_told (C CF : Addr) : Sp := fun vs H Q E => ∃ (a ln ls : Addr) (e : Entrance) (c : Nat) (ns g : List Nat) (op : Operation), vs = [.ref a, .int ((c : Nat) : Int), .ref ln, .ref ls] ∧ CaseAt C H a e ∧ Good e ∧ H ln = some (.lst (nz ns)) ∧ H ls = some (.lst (nz g)) ∧ g.length ≤ 100 ∧
  tellOp c ns g = some op ∧ TellEnd CF Q E H (Planner.run ⟨e⟩ op).2
theorem sc_told : FnScope ["case", "number", "n", "schedule"] ["case", "number", "n", "schedule"] (defScope s_told) := ⟨rfl, rfl, rfl, by decide +kernel, rfl, by decide +kernel, by decide +kernel⟩
theorem ok_told (T : Txt K mg A) : FnOk P w K mg base (L2.CX P w) 8 A.f_told A.d_told ["case", "number", "n", "schedule"] (sp_told A.Case A.Refusal) := by
  refine T.d_told.F.okX sc_told (fun vs H Q E h => ?_) (fun cdv Ar outer s H vs Q E hr h => ?_)
  · obtain ⟨a, ln, ls, e, c, ns, g, op, rfl, _⟩ := h
    rfl
  · obtain ⟨a, ln, ls, e, c, ns, g, op, rfl, hc, G, hl, hg, hlen, ho, k⟩ := h
    refine ⟨_, (pss_cons (ps_if (pt_chain op_le op_le pe_int (pv 1) pe_int) (pss_one (ps_ret (pe_call (ok_told_of_schedule T) (hr.mono (by decide)) (by rfl) T.d_told_of_schedule.g T.d_told_of_schedule.F.kp T.d_told_of_schedule.b .nil (passes_call (takes_of rfl rfl rfl rfl) fun _ _ _ _ h => h) (pa_cons (pv 0) (pa_cons (pv 1) (pa_cons (pv 3) pa_nil)))))) pss_nil)
        (pss_cons (ps_if (pt_cmp (pc_eqI (pv 1) pe_int) (nobehind _ (by decide) (by decide))) (pss_one (ps_ret (pe_call (ok_if_arrivals T) (hr.mono (by decide)) (by rfl) T.d_if_arrivals.g T.d_if_arrivals.F.kp T.d_if_arrivals.b .nil (passes_call (takes_of rfl rfl rfl rfl) fun _ _ _ _ h => h) (pa_cons (pv 0) (pa_cons (pe_ix ix_list (pv 2) pe_int (fun _ _ => rfl)) (pa_cons (pe_ix ix_list (pv 2) pe_int (fun _ _ => rfl)) pa_nil)))))) pss_nil)
        (pss_cons (ps_if (pt_cmp (pc_eqI (pv 1) pe_int) (nobehind _ (by decide) (by decide))) (pss_one (ps_ret (pe_call (ok_if_max_wait T) (hr.mono (by decide)) (by rfl) T.d_if_max_wait.g T.d_if_max_wait.F.kp T.d_if_max_wait.b .nil (passes_call (takes_of rfl rfl rfl rfl) fun _ _ _ _ h => h) (pa_cons (pv 0) (pa_cons (pe_ix ix_list (pv 2) pe_int (fun _ _ => rfl)) pa_nil))))) pss_nil)
        (pss_cons (ps_if (pt_cmp (pc_eqI (pv 1) pe_int) (nobehind _ (by decide) (by decide))) (pss_one (ps_ret (pe_call (ok_max_arrivals T) (hr.mono (by decide)) (by rfl) T.d_max_arrivals.g T.d_max_arrivals.F.kp T.d_max_arrivals.b .nil (passes_call (takes_of rfl rfl rfl rfl) fun _ _ _ _ h => h) (pa_cons (pv 0) (pa_cons (pe_ix ix_list (pv 2) pe_int (fun _ _ => rfl)) pa_nil))))) pss_nil)
        (pss_one (ps_ret (pe_ifExp (pt_cmp (pc_eqI (pv 1) pe_int) (nobehind _ (by decide) (by decide))) (pe_call (ok_total_arrivals T) (hr.mono (by decide)) (by rfl) T.d_total_arrivals.g T.d_total_arrivals.F.kp T.d_total_arrivals.b .nil (passes_call (takes_of rfl rfl rfl rfl) fun _ _ _ _ h => h) (pa_cons (pv 0) (pa_cons (pe_ix ix_list (pv 2) pe_int (fun _ _ => rfl)) (pa_cons (pe_ix ix_list (pv 2) pe_int (fun _ _ => rfl)) pa_nil)))) (pe_call (ok_told_plainly T) (hr.mono (by decide)) (by rfl) T.d_told_plainly.g T.d_told_plainly.F.kp T.d_told_plainly.b .nil (passes_call (takes_of rfl rfl rfl rfl) fun _ _ _ _ h => h) (pa_cons (pv 0) (pa_cons (pv 1) pa_nil)))))))))), ?_⟩
    unfold tellOp at ho
    split at ho
    · -- 18
      rename_i m n
      cases ho
      refine ⟨_, rfl, _, _, rfl, rfl, _, rfl, ifT rfl ⟨_, _, rfl, rfl, _, rfl, ifF rfl ?_⟩⟩
      refine ⟨_, rfl, _, _, rfl, rfl, _, rfl, ifT rfl ?_⟩
      exact ⟨_, rfl, _, rfl, ln, _, _, _, rfl, rfl, SqL.of hl, atI_nat (j := 0) rfl, _, rfl, ln, _, _, _, rfl, rfl, SqL.of hl, atI_nat (j := 1) rfl, a, e, m, n, rfl, hc, G, k⟩
    · -- 19
      rename_i n
      cases ho
      refine ⟨_, rfl, _, _, rfl, rfl, _, rfl, ifT rfl ⟨_, _, rfl, rfl, _, rfl, ifF rfl ?_⟩⟩
      refine ⟨_, rfl, _, _, rfl, rfl, _, rfl, ifF rfl ?_⟩
      refine ⟨_, rfl, _, _, rfl, rfl, _, rfl, ifT rfl ?_⟩
      exact ⟨_, rfl, _, rfl, ln, _, _, _, rfl, rfl, SqL.of hl, atI_nat (j := 0) rfl, a, e, n, rfl, hc, G, k⟩
    · -- 20
      rename_i m
      cases ho
      refine ⟨_, rfl, _, _, rfl, rfl, _, rfl, ifT rfl ⟨_, _, rfl, rfl, _, rfl, ifF rfl ?_⟩⟩
      refine ⟨_, rfl, _, _, rfl, rfl, _, rfl, ifF rfl ?_⟩
      refine ⟨_, rfl, _, _, rfl, rfl, _, rfl, ifF rfl ?_⟩
      refine ⟨_, rfl, _, _, rfl, rfl, _, rfl, ifT rfl ?_⟩
      exact ⟨_, rfl, _, rfl, ln, _, _, _, rfl, rfl, SqL.of hl, atI_nat (j := 0) rfl, a, e, m, rfl, hc, G, k⟩
    · -- 21
      rename_i x y
      cases ho
      refine ⟨_, rfl, _, _, rfl, rfl, _, rfl, ifT rfl ⟨_, _, rfl, rfl, _, rfl, ifF rfl ?_⟩⟩
      refine ⟨_, rfl, _, _, rfl, rfl, _, rfl, ifF rfl ?_⟩
      refine ⟨_, rfl, _, _, rfl, rfl, _, rfl, ifF rfl ?_⟩
      refine ⟨_, rfl, _, _, rfl, rfl, _, rfl, ifF rfl ?_⟩
      refine ⟨_, rfl, _, _, rfl, rfl, _, rfl, ifT rfl ?_⟩
      exact ⟨_, rfl, _, rfl, ln, _, _, _, rfl, rfl, SqL.of hl, atI_nat (j := 0) rfl, _, rfl, ln, _, _, _, rfl, rfl, SqL.of hl, atI_nat (j := 1) rfl, a, e, x, y, rfl, hc, G, k⟩
    iterate 4
      · refine ⟨_, rfl, _, _, rfl, rfl, _, rfl, ifT rfl ⟨_, _, rfl, rfl, _, rfl, ifT rfl ?_⟩⟩
        exact ⟨_, rfl, _, rfl, _, rfl, a, ls, e, _, g, op, rfl, hc, G, hg, hlen, ho, k⟩
    iterate 5
      · refine ⟨_, rfl, _, _, rfl, rfl, _, rfl, ifF rfl ⟨_, rfl, ifF rfl ?_⟩⟩
        refine ⟨_, rfl, _, _, rfl, rfl, _, rfl, ifF rfl ?_⟩
        refine ⟨_, rfl, _, _, rfl, rfl, _, rfl, ifF rfl ?_⟩
        refine ⟨_, rfl, _, _, rfl, rfl, _, rfl, ifF rfl ?_⟩
        refine ⟨_, rfl, _, _, rfl, rfl, _, rfl, ifF rfl ?_⟩
        exact ⟨_, rfl, _, rfl, a, e, _, op, rfl, hc, G, ho, k⟩
    iterate 3
      · refine ⟨_, rfl, _, _, rfl, rfl, _, rfl, ifT rfl ⟨_, _, rfl, rfl, _, rfl, ifF rfl ?_⟩⟩
        refine ⟨_, rfl, _, _, rfl, rfl, _, rfl, ifF rfl ?_⟩
        refine ⟨_, rfl, _, _, rfl, rfl, _, rfl, ifF rfl ?_⟩
        refine ⟨_, rfl, _, _, rfl, rfl, _, rfl, ifF rfl ?_⟩
        refine ⟨_, rfl, _, _, rfl, rfl, _, rfl, ifF rfl ?_⟩
        exact ⟨_, rfl, _, rfl, a, e, _, op, rfl, hc, G, ho, k⟩
    · cases ho
end
end Gw

set_option Elab.async false
set_option linter.all false
set_option maxRecDepth 100000
set_option maxHeartbeats 2000000
/-! planner.py: the class Session. -/
/-! ### a method's call within a try, a store to an attribute as a target (after guide/skel/30) -/
namespace L2
open PySem PySem.Spec PyProof.Rows
/-- o.m(e, ..) within a try: what it raises is wished for at the slots as they stand -/
def tMethS (C : Addr) (m : Str) (sp : Sp) (E : L2.St → XK) (ta : TE) (t : TA) : TE := fun σ H Q => ta σ H fun x H1 => ∃ a dx fs, x = .ref a ∧ H1 a = some (.ins C dx fs) ∧ fs.lookup m = none ∧ t σ H1 fun vs H2 => sp (x :: vs) H2 Q (E σ)
theorem pe_methS {X : Cx} {CX : CXT} {k : Nat} {f C : Addr} {fd : FuncData} {ps : List Str} {sp : Sp} {E : L2.St → XK} {m : Str} {pos apos : Pos} {e o : Expr} {es : List Expr} {ta : TE} {t : TA} {pl : Sem Bool} (he : PE X o ta) (c : Cls X.K C) (hm : Meth X.K C m f)
    (F : FnOk X.prog X.w X.K X.mg X.base CX k f fd ps sp) (hr : Room k X.A) (hb : Binds X.K fd ps []) (hx : ∀ σ, PassesAt CX X σ (E σ)) (ha : PA X (e :: es) t)
    (hst : starEach (e :: es) X.env = (false, eval e X.env) :: starEach es X.env := by rfl) (hpl : (backTo pos (starEach es X.env)).any (·.1) = false := by rfl)
    (ht : eval (.Call (.Attribute o m apos) (e :: es) [] pos) X.env = (do
      let ov ← eval o X.env
      standAt apos.atName
      let (f, first) ← holding [ov] (getMethod ov m pl)
      callWith pos f first (backTo pos (starEach (e :: es) X.env)) (backToKw pos (keywordEach [] X.env))) := by rfl) :
    PE X (.Call (.Attribute o m apos) (e :: es) [] pos) (tMethS C m sp E ta t) := by
  refine ⟨fun pins s σ H Q I h => ?_⟩
  refine PySem.W.methodCall_KW (pl := pl) (thn (he.run pins s σ H _ I h) fun u s1 ⟨x, H1, I1, rx, a, dx, fs, ex, ea, l, q⟩ => ?_) ht
  subst ex
  obtain rfl : u = Value.ref a := rx
  refine getmeth_ok I1 ea c hm l ?_
  refine PySem.W.callWith_K (first := [.ref a]) (h₀ := X.base) I.ok.mod.kin hm.kp (thn (ha.run pos pins s1 σ H1 _ I1 q) fun us s2 ⟨vs, H2, I2, r, q2⟩ => ⟨I2.kIn, ?_⟩) hst hpl
  exact run_fnS (us := .ref a :: us) (vs := .ref a :: vs) F hr hb (hx σ) I2 (.cons rfl r) q2
/-- o.f = .., among several targets -/
def gFld (K : PySem.W.Frag) (ta : TE) (f : Str) : TG := fun v σ H Q => ta σ H fun x H2 => ∃ a C dx fs, x = .ref a ∧ H2 a = some (.ins C dx fs) ∧ Cls K C ∧ NoAttr K C f ∧ fs.length < 1000 ∧ Q σ (upd H2 a (.ins C dx (putF f v fs)))
theorem pg_fld {X : Cx} {o : Expr} {ta : TE} {f : Str} {pos : Pos} (ho : PE X o ta) : PG X (.Attribute o f pos) (gFld X.K ta f) := by
  refine ⟨fun pins s σ H v u Q I r h => ?_⟩
  rw [PySem.assign_Attribute]
  refine wpAny_bind (wpAny_holding (thn (ho.run pins s σ H _ I h) fun ov s1 hh => ?_))
  obtain ⟨x, H1, I1, r1, a, C, dx, fs, ex, ea, c, n, l, q⟩ := hh
  subst ex
  obtain rfl : ov = Value.ref a := r1
  refine wpAny_bind (wpAny_standAt (wpAny_bind (wpAny_holding ?_)))
  exact setattr_ok I1 ea c n l r fun s2 I2 => wpAny_release ⟨σ, _, I2, q⟩
end L2
namespace Gw
open PySem PySem.Spec PyProof.Rows L2
open PySem.W (Codec)
open Kv435 (Entrance sumBetween Planner Operation Response State execute)
open Gh (ele pre)
/-! ### the operations -/
def opOf (c : Nat) (ns g : List Nat) : Option Operation :=
  if c = 0 then (match ns with | [x, y, z] => some (.create x y z) | _ => none) else if c ≤ 6 then chgOp c ns else tellOp c ns g
def isCreate : Operation → Bool
  | .create _ _ _ => true
  | _ => false
def isChange : Operation → Bool
  | .create _ _ _ => true
  | .addMinute _ => true
  | .setArrivals _ _ => true
  | .removeLastMinute => true
  | .setPerGate _ => true
  | .setMaxGates _ => true
  | .setMaxWait _ => true
  | _ => false
theorem exec_none {op : Operation} (h : isCreate op = false) : execute none op = (none, Response.error (-11)) := by
  cases op <;> first | rfl | cases h
theorem chg_no_create {c : Nat} {ns : List Nat} {op : Operation} (h : chgOp c ns = some op) : isCreate op = false := by
  unfold chgOp at h
  split at h <;> first | (cases h; rfl) | cases h
theorem plain_not {c : Nat} {op : Operation} (h : plainOp c = some op) : isChange op = false := by
  unfold plainOp at h
  split at h <;> first | (cases h; rfl) | cases h
theorem sch_not {c : Nat} {g : List Nat} {op : Operation} (h : schOp c g = some op) : isChange op = false := by
  unfold schOp at h
  split at h <;> first | (cases h; rfl) | cases h
theorem tell_not {c : Nat} {ns g : List Nat} {op : Operation} (h : tellOp c ns g = some op) : isChange op = false := by
  unfold tellOp at h
  split at h <;> first | (exact plain_not h) | (exact sch_not h) | (cases h; rfl) | cases h
theorem not_create {op : Operation} (h : isChange op = false) : isCreate op = false := by
  cases op <;> first | rfl | cases h
theorem run_same {op : Operation} (h : isChange op = false) (p : Planner) : (p.run op).1 = p := by
  cases op <;> first
    | (have h' : true = false := h; cases h')
    | rfl
    | (simp only [Planner.run]; split <;> rfl)
    | (simp only [Planner.run]; split <;> first | rfl | (split <;> rfl))
theorem num_pos {n : Nat} {code : Int} (hc : code < 0) (h : Response.number n = Response.error code) : False := by
  have z : ((n : Nat) : Int) = code := congrArg Response.code h
  omega
theorem chg_err {c : Nat} {ns : List Nat} {op : Operation} (h : chgOp c ns = some op) {p : Planner} {code : Int} (hc : code < 0) (hr : (p.run op).2 = Response.error code) : (p.run op).1 = p := by
  unfold chgOp at h
  split at h <;> (first | cases h | skip)
  all_goals simp only [Planner.run] at hr ⊢
  · split
    · rfl
    · rename_i h1
      rw [if_neg h1] at hr
      split
      · rfl
      · rename_i h2
        rw [if_neg h2] at hr
        exact (num_pos hc hr).elim
  · split
    · rfl
    · rename_i h1
      rw [if_neg h1] at hr
      split
      · rfl
      · rename_i h2
        rw [if_neg h2] at hr
        exact (num_pos hc hr).elim
  all_goals
    split
    · rfl
    · rename_i h1
      rw [if_neg h1] at hr
      exact (num_pos hc hr).elim
theorem valid_out {p g w : Nat} (h : ¬ Kv435.validSettings p g w = false) : 1 ≤ p ∧ p ≤ 9 ∧ g ≤ 6 ∧ w ≤ 6 := by
  have h' : Kv435.validSettings p g w = true := by
    cases z : Kv435.validSettings p g w with
    | true => rfl
    | false => exact absurd z h
  unfold Kv435.validSettings at h'
  rw [Bool.and_eq_true, Bool.and_eq_true, Bool.and_eq_true, decide_eq_true_iff, decide_eq_true_iff, decide_eq_true_iff, decide_eq_true_iff] at h'
  omega
theorem chg_good {c : Nat} {ns : List Nat} {op : Operation} (h : chgOp c ns = some op) {p : Planner} (G : Good p.entrance) : Good (p.run op).1.entrance := by
  unfold chgOp at h
  split at h <;> (first | cases h | skip)
  all_goals simp only [Planner.run]
  · split
    · exact G
    · split
      · exact G
      · rename_i h1 h2
        refine ⟨G.p1, G.p9, G.g6, G.w6, ?_⟩
        show (p.entrance.arrivals ++ [_]).length ≤ 10
        rw [List.length_append, List.length_singleton]
        unfold Entrance.minutes at h2
        omega
  · split
    · exact G
    · split
      · exact G
      · exact G.arr _ _
  · split
    · exact G
    · refine ⟨G.p1, G.p9, G.g6, G.w6, ?_⟩
      show (p.entrance.arrivals.dropLast).length ≤ 10
      rw [List.length_dropLast]
      have := G.m10
      omega
  · split
    · exact G
    · rename_i h1
      have v := valid_out h1
      exact ⟨v.1, v.2.1, G.g6, G.w6, G.m10⟩
  · split
    · exact G
    · rename_i h1
      have v := valid_out h1
      exact ⟨G.p1, G.p9, v.2.2.1, G.w6, G.m10⟩
  · split
    · exact G
    · rename_i h1
      have v := valid_out h1
      exact ⟨G.p1, G.p9, G.g6, v.2.2.2, G.m10⟩
theorem create_bad (st : State) {p g w : Nat} (h : Kv435.validSettings p g w = false) : execute st (.create p g w) = (st, Response.error (-22)) := by
  have z : ∀ q : Planner, q.run (.create p g w) = (q, Response.error (-22)) := fun q => if_pos h
  cases st with
  | none =>
    show (if ((Planner.mk ⟨1, 0, 0, []⟩).run (.create p g w)).2.code < 0 then ((none : State), ((Planner.mk ⟨1, 0, 0, []⟩).run (.create p g w)).2) else _) = _
    rw [z]
    rfl
  | some q =>
    show (some (q.run (.create p g w)).1, (q.run (.create p g w)).2) = _
    rw [z]
theorem create_ok (st : State) {p g w : Nat} (h : Kv435.validSettings p g w = true) : execute st (.create p g w) = (some ⟨⟨p, g, w, []⟩⟩, Response.number 0) := by
  have z : ∀ q : Planner, q.run (.create p g w) = (⟨⟨p, g, w, []⟩⟩, Response.number 0) := fun q => if_neg (by rw [h]; decide)
  cases st with
  | none =>
    show (if ((Planner.mk ⟨1, 0, 0, []⟩).run (.create p g w)).2.code < 0 then _ else (some ((Planner.mk ⟨1, 0, 0, []⟩).run (.create p g w)).1, ((Planner.mk ⟨1, 0, 0, []⟩).run (.create p g w)).2)) = _
    rw [z]
    rfl
  | some q =>
    show (some (q.run (.create p g w)).1, (q.run (.create p g w)).2) = _
    rw [z]
/-! ### the session in the heap -/
def sF (v : V) : List (Str × V) := [("case", v)]
theorem sF_case (v : V) : (sF v).lookup ("case" : Str) = some v := lk_here
theorem sF_put (v y : V) : putF "case" y (sF v) = sF y := by
  show (if ("case" : Str) = "case" then (("case" : Str), y) :: [] else _) = sF y
  rw [if_pos rfl]
  rfl
theorem sF_create (v : V) : (sF v).lookup ("create" : Str) = none := (lk_past (by decide +kernel)).trans rfl
theorem sF_performed (v : V) : (sF v).lookup ("performed" : Str) = none := (lk_past (by decide +kernel)).trans rfl
theorem sF_answer (v : V) : (sF v).lookup ("answer" : Str) = none := (lk_past (by decide +kernel)).trans rfl
/-- all but what stands at a is as it was -/
def But (a : Addr) (H H' : Hp) : Prop := ∀ b o, b ≠ a → H b = some o → H' b = some o
theorem Same.but {a : Addr} {H H' : Hp} (s : Same H H') : But a H H' := fun b o _ e => s b o e
theorem But.upd {a : Addr} {H H' : Hp} {o : HO} (s : But a H H') : But a H (upd H' a o) := fun b x hb e => by
  rw [upd_ne hb]
  exact s b x hb e
theorem But.trans {a : Addr} {H H1 H2 : Hp} (s : But a H H1) (t : But a H1 H2) : But a H H2 := fun b o hb e => t b o hb (s b o hb e)
def SessAt (CS C : Addr) (H : Hp) (a : Addr) : State → Prop
  | none => ∃ dx, H a = some (.ins CS dx (sF .non))
  | some p => ∃ dx x, H a = some (.ins CS dx (sF (.ref x))) ∧ CaseAt C H x p.entrance ∧ Good p.entrance
theorem SessAt.same {CS C : Addr} {H H' : Hp} {a : Addr} : ∀ {st : State}, SessAt CS C H a st → Same H H' → SessAt CS C H' a st
  | none, ⟨dx, h⟩, s => ⟨dx, s _ _ h⟩
  | some _, ⟨dx, x, h, hc, G⟩, s => ⟨dx, x, s _ _ h, hc.same s, G⟩
theorem SessAt.ins {CS C : Addr} {H : Hp} {a : Addr} : ∀ {st : State}, SessAt CS C H a st → ∃ dx v, H a = some (.ins CS dx (sF v))
  | none, ⟨dx, h⟩ => ⟨dx, _, h⟩
  | some _, ⟨dx, x, h, _⟩ => ⟨dx, _, h⟩
/-- the list of the session's case -/
def SArr (CS C : Addr) (H : Hp) (a l : Addr) : Prop := ∃ dx x, H a = some (.ins CS dx (sF (.ref x))) ∧ ArrAt C H x l
theorem SArr.back {CS C : Addr} {H H' : Hp} {a l : Addr} : ∀ {st : State}, SessAt CS C H a st → Same H H' → SArr CS C H' a l → SArr CS C H a l
  | none, ⟨dx, h⟩, s, ⟨dy, x, h2, _⟩ => by
    have z := s _ _ h
    rw [h2] at z
    have z2 := Option.some.inj z
    injection z2 with z3 z4 z5
    have z6 : V.ref x = V.non := congrArg Prod.snd (List.cons.inj z5).1
    cases z6
  | some p, ⟨dx, x, h, hc, G⟩, s, ⟨dy, y, h2, h3⟩ => by
    have z := s _ _ h
    rw [h2] at z
    have z2 := Option.some.inj z
    injection z2 with z3 z4 z5
    have z6 : V.ref y = V.ref x := congrArg Prod.snd (List.cons.inj z5).1
    cases z6
    exact ⟨dx, x, h, h3.back hc s⟩
theorem SArr.set {CS C : Addr} {H : Hp} {a y l dx : Addr} {e : Entrance} (hy : CaseAt C H y e) (ny : y ≠ a) (h : SArr CS C (upd H a (.ins CS dx (sF (.ref y)))) a l) : ArrAt C H y l := by
  obtain ⟨dz, z, h1, h2⟩ := h
  rw [upd_same] at h1
  have z2 := Option.some.inj h1
  injection z2 with z3 z4 z5
  have z6 : V.ref y = V.ref z := congrArg Prod.snd (List.cons.inj z5).1
  cases z6
  obtain ⟨dw, e', h3⟩ := h2
  rw [upd_ne ny] at h3
  exact ⟨dw, e', h3⟩
/-- what an operation ends in -/
def SessEnd (CS C CF : Addr) (Q : VK) (E : XK) (a : Addr) (H : Hp) (st : State) (r : State × Response) : Prop :=
  (∀ code, r = (st, Response.error code) → Err CF E code H) ∧
  (∀ H' q, But a H H' → H q = none → H' q = some (.lst ((Kv435Neutral.resultRow r.2).map V.int)) → SessAt CS C H' a r.1 → (∀ l, SArr CS C H' a l → SArr CS C H a l ∨ H l = none) → Q (.ref q) H')
/-- a store to the session keeps a case -/
theorem case_not {C CS : Addr} {H : Hp} {a x dx l : Addr} {v : V} {e : Entrance} (ha : H a = some (.ins CS dx (sF v))) (hx : ∃ dy, H x = some (.ins C dy (cF l e))) : x ≠ a := fun z => by
  obtain ⟨dy, hx⟩ := hx
  rw [z, ha] at hx
  have y := Option.some.inj hx
  injection y with y1 y2 y3
  unfold sF cF cV at y3
  have y4 := (List.cons.inj y3).2
  cases y4
theorem CaseAt.but {C CS : Addr} {H : Hp} {a x dx : Addr} {v : V} {o : HO} {e : Entrance} (hc : CaseAt C H x e) (ha : H a = some (.ins CS dx (sF v))) : CaseAt C (upd H a o) x e := by
  obtain ⟨dy, l, h1, h2⟩ := hc
  have n1 := case_not ha ⟨dy, h1⟩
  have n2 : l ≠ a := ne_of h2 ha (by intro z; cases z)
  exact ⟨dy, l, by rw [upd_ne n1]; exact h1, by rw [upd_ne n2]; exact h2⟩
section
variable {P : Program} {w : World} {K : PySem.W.Frag} {mg : Str → Option Value} {base : Heap} {A : Adr}
def sp_Session_init (CS : Addr) : Sp := fun vs H Q _ => ∃ (p dx : Addr), vs = [.ref p] ∧ H p = some (.ins CS dx []) ∧ ∀ H' : Hp, H' p = some (.ins CS dx (sF .non)) → (∀ b o, H b = some o → b ≠ p → H' b = some o) → Q .non H'
theorem sc_Session_init : FnScope ["self"] ["self"] (defScope s_Session_init) := ⟨rfl, rfl, rfl, by decide +kernel, rfl, by decide +kernel, by decide +kernel⟩
theorem ok_Session_init (T : Txt K mg A) : FnOk P w K mg base CX0 1 A.f_Session_init A.d_Session_init ["self"] (sp_Session_init A.Session) := by
  refine T.d_Session_init.F.ok sc_Session_init (fun vs H Q E h => ?_) (fun cdv Ar outer s H vs Q E hr h => ?_)
  · obtain ⟨p, dx, rfl, _⟩ := h
    rfl
  · obtain ⟨p, dx, rfl, hp, k⟩ := h
    refine ⟨_, (pss_one (ps_fld (pv 0) pe_non (by rfl))), ?_⟩
    refine ⟨_, rfl, p, _, dx, _, rfl, hp, T.c_Session, T.n_case, (by show 0 < 1000; decide), ?_⟩
    refine k _ upd_same fun b o e hb => ?_
    rw [upd_ne hb]
    exact e
def sp_Session_create (CS C CF : Addr) : Sp := fun vs H Q E => ∃ (a : Addr) (st : State) (p g n : Nat), vs = [.ref a, .int ((p : Nat) : Int), .int ((g : Nat) : Int), .int ((n : Nat) : Int)] ∧ SessAt CS C H a st ∧
  SessEnd CS C CF Q E a H st (execute st (.create p g n))
theorem sc_Session_create : FnScope ["self", "per_gate", "max_gates", "max_wait"] ["self", "per_gate", "max_gates", "max_wait"] (defScope s_Session_create) := ⟨rfl, rfl, rfl, by decide +kernel, rfl, by decide +kernel, by decide +kernel⟩
theorem ok_Session_create (T : Txt K mg A) : FnOk P w K mg base (L2.CX P w) 4 A.f_Session_create A.d_Session_create ["self", "per_gate", "max_gates", "max_wait"] (sp_Session_create A.Session A.Case A.Refusal) := by
  refine T.d_Session_create.F.okX sc_Session_create (fun vs H Q E h => ?_) (fun cdv Ar outer s H vs Q E hr h => ?_)
  · obtain ⟨a, st, p, g, n, rfl, _⟩ := h
    rfl
  · obtain ⟨a, st, p, g, n, rfl, hs, k⟩ := h
    refine ⟨_, (pss_cons (ps_expr (pe_call (ok_require T) (hr.mono (by decide)) (by rfl) T.d_require.g T.d_require.F.kp T.d_require.b .nil (passes_call (takes_of rfl rfl rfl rfl) fun _ _ _ _ h => h) (pa_cons (pe_chain op_le op_le pe_int (pv 1) (pe_gint (by rfl) T.k_MOST_PER_GATE)) (pa_cons (pe_gint (by rfl) T.k_OUTSIDE) pa_nil))))
        (pss_cons (ps_expr (pe_call (ok_require T) (hr.mono (by decide)) (by rfl) T.d_require.g T.d_require.F.kp T.d_require.b .nil (passes_call (takes_of rfl rfl rfl rfl) fun _ _ _ _ h => h) (pa_cons (pe_and (pe_cmp (pc_le (pv 2) (pe_gint (by rfl) T.k_MOST_GATES)) (nobehind _ (by decide) (by decide))) (pe_one (pe_cmp (pc_le (pv 3) (pe_gint (by rfl) T.k_MOST_WAIT)) (nobehind _ (by decide) (by decide))))) (pa_cons (pe_gint (by rfl) T.k_OUTSIDE) pa_nil))))
        (pss_cons (ps_fld (pv 0) (pe_make T.mk_Case (ok_Case_init T) (hr.mono (by decide)) (by rfl) T.g_Case T.d_Case_init.b .nil pass0 (pa_cons (pe_lst pa_nil) (pa_cons (pv 1) (pa_cons (pv 2) (pa_cons (pv 3) pa_nil))))) (by rfl))
        (pss_one (ps_ret (pe_lst (pa_cons pe_int pa_nil))))))), ?_⟩
    obtain ⟨dx, v, ha⟩ := hs.ins
    have bad : ¬ (1 ≤ p ∧ p ≤ 9 ∧ g ≤ 6 ∧ n ≤ 6) → Err A.Refusal E (-22) H := fun c =>
      k.1 (-22) (create_bad st (valid_is false ⟨fun q => Bool.noConfusion q, fun q => absurd q c⟩))
    refine ⟨_, rfl, _, _, rfl, rfl, _, rfl, ?_⟩
    by_cases c0 : 1 ≤ p
    · refine ifT (decide_eq_true (by omega)) ?_
      refine ⟨_, _, rfl, rfl, _, _, rfl, fun hb => ?_, fun hb => ?_⟩
      · have c1 : p ≤ 9 := by have := of_decide_eq_true hb; omega
        refine ⟨_, rfl, _, _, rfl, rfl, _, rfl, ?_⟩
        by_cases c2 : g ≤ 6
        · refine ifT (decide_eq_true (by omega)) ?_
          refine ⟨_, rfl, _, _, rfl, rfl, _, _, rfl, fun hb2 => ?_, fun hb2 => ?_⟩
          · have c3 : n ≤ 6 := by have := of_decide_eq_true hb2; omega
            have z := create_ok st (p := p) (g := g) (w := n) (valid_is true ⟨fun _ => ⟨c0, c1, c2, c3⟩, fun _ => rfl⟩)
            refine ⟨Nat.zero_le _, fun l nl => ?_⟩
            have s0 : Same H (upd H l (.lst [])) := same_new nl
            refine ⟨_, rfl, _, rfl, _, rfl, ?_⟩
            intro x dy nx ny nxy
            refine ⟨x, dy, _, _, _, _, rfl, upd_same, fun H1 q1 kp => ⟨rfl, ?_⟩⟩
            have s1 : Same (upd H l (.lst [])) H1 := Same.made nx ny kp
            have s01 := s0.trans s1
            refine ⟨_, rfl, a, _, dx, _, rfl, s01 _ _ ha, T.c_Session, T.n_case, (by show 1 < 1000; decide), (by show 1 ≤ sizeLine; decide), fun q nq => ?_⟩
            have hc : CaseAt A.Case H1 x ⟨p, g, n, []⟩ := ⟨dy, l, q1, s1 _ _ upd_same⟩
            have s2 : Same (upd H1 a (.ins A.Session dx (putF "case" (.ref x) (sF v)))) (upd (upd H1 a (.ins A.Session dx (putF "case" (.ref x) (sF v)))) q (.lst [V.int 0])) := same_new nq
            have nqa : a ≠ q := fun y => by
              rw [← y, upd_same] at nq
              cases nq
            have nq1 : H1 q = none := by
              rw [upd_ne nqa.symm] at nq
              exact nq
            rw [z] at k
            have hset : upd H1 a (.ins A.Session dx (putF "case" (.ref x) (sF v))) a = some (.ins A.Session dx (sF (.ref x))) := by rw [upd_same, sF_put]
            have hcs : CaseAt A.Case (upd H1 a (.ins A.Session dx (putF "case" (.ref x) (sF v)))) x ⟨p, g, n, []⟩ := hc.but (s01 _ _ ha)
            refine k.2 _ q (Same.but s01 |>.upd |>.trans (Same.but s2)) (s01.free nq1) upd_same ⟨dx, x, s2 _ _ hset, hcs.same s2, ⟨c0, c1, c2, c3, Nat.zero_le _⟩⟩ fun l2 hl => ?_
            have b1 := SArr.back (st := some ⟨⟨p, g, n, []⟩⟩) ⟨dx, x, hset, hcs, ⟨c0, c1, c2, c3, Nat.zero_le _⟩⟩ s2 hl
            rw [sF_put] at b1
            have b2 := SArr.set hc (case_not (l := l) (e := (⟨p, g, n, []⟩ : Entrance)) (s01 _ _ ha) ⟨dy, q1⟩) b1
            rw [arr_is q1 b2]
            exact Or.inr nl
          · exact bad fun q => by have := of_decide_eq_false hb2; omega
        · refine ifF (decide_eq_false (by omega)) ?_
          exact ⟨_, _, rfl, fun hb => Bool.noConfusion hb, fun hb => bad fun q => c2 q.2.2.1⟩
      · exact bad fun q => by have := of_decide_eq_false hb; omega
    · refine ifF (decide_eq_false (by omega)) ?_
      exact ⟨_, _, rfl, fun hb => Bool.noConfusion hb, fun hb => bad fun q => c0 q.1⟩
def sp_Session_performed (CS C CF : Addr) : Sp := fun vs H Q E => ∃ (a ln ls : Addr) (st : State) (c : Nat) (ns g : List Nat) (op : Operation), vs = [.ref a, .int ((c : Nat) : Int), .ref ln, .ref ls] ∧ SessAt CS C H a st ∧
  H ln = some (.lst (nz ns)) ∧ H ls = some (.lst (nz g)) ∧ g.length ≤ 100 ∧ opOf c ns g = some op ∧ SessEnd CS C CF Q E a H st (execute st op)
theorem sc_Session_performed : FnScope ["self", "number", "n", "schedule", "found"] ["self", "number", "n", "schedule"] (defScope s_Session_performed) := ⟨rfl, rfl, rfl, by decide +kernel, rfl, by decide +kernel, by decide +kernel⟩
theorem ok_Session_performed (T : Txt K mg A) : FnOk P w K mg base (L2.CX P w) 9 A.f_Session_performed A.d_Session_performed ["self", "number", "n", "schedule"] (sp_Session_performed A.Session A.Case A.Refusal) := by
  refine T.d_Session_performed.F.okX sc_Session_performed (fun vs H Q E h => ?_) (fun cdv Ar outer s H vs Q E hr h => ?_)
  · obtain ⟨a, ln, ls, st, c, ns, g, op, rfl, _⟩ := h
    rfl
  · obtain ⟨a, ln, ls, st, c, ns, g, op, rfl, hs, hn, hg, hlen, ho, k⟩ := h
    refine ⟨_, (pss_cons (ps_if (pt_cmp (pc_eqI (pv 1) (pe_gint (by rfl) T.k_CREATE)) (nobehind _ (by decide) (by decide))) (pss_one (ps_ret (pe_meth (pv 0) T.c_Session T.d_Session_create.m (ok_Session_create T) (hr.mono (by decide)) T.d_Session_create.b .nil (passes_call (takes_of rfl rfl rfl rfl) fun _ _ _ _ h => h) (pa_cons (pe_ix ix_list (pv 2) pe_int (fun _ _ => rfl)) (pa_cons (pe_ix ix_list (pv 2) pe_int (fun _ _ => rfl)) (pa_cons (pe_ix ix_list (pv 2) pe_int (fun _ _ => rfl)) pa_nil)))))) pss_nil)
        (pss_cons (ps_expr (pe_call (ok_require T) (hr.mono (by decide)) (by rfl) T.d_require.g T.d_require.F.kp T.d_require.b .nil (passes_call (takes_of rfl rfl rfl rfl) fun _ _ _ _ h => h) (pa_cons (pe_cmp (pc_notN (pe_fld (pv 0) (by rfl))) rfl) (pa_cons (pe_gint (by rfl) T.k_NO_PLANNER) pa_nil))))
        (pss_cons (ps_if (pt_cmp (pc_gt (pv 1) (pe_gint (by rfl) T.k_LAST_CHANGE)) (nobehind _ (by decide) (by decide))) (pss_one (ps_ret (pe_call (ok_told T) (hr.mono (by decide)) (by rfl) T.d_told.g T.d_told.F.kp T.d_told.b .nil (passes_call (takes_of rfl rfl rfl rfl) fun _ _ _ _ h => h) (pa_cons (pe_fld (pv 0) (by rfl)) (pa_cons (pv 1) (pa_cons (pv 2) (pa_cons (pv 3) pa_nil))))))) pss_nil)
        (pss_cons (ps_asg (pe_call (ok_changed T) (hr.mono (by decide)) (by rfl) T.d_changed.g T.d_changed.F.kp T.d_changed.b .nil (passes_call (takes_of rfl rfl rfl rfl) fun _ _ _ _ h => h) (pa_cons (pe_fld (pv 0) (by rfl)) (pa_cons (pv 1) (pa_cons (pv 2) pa_nil)))) (pg_tup rfl (pgs_cons (pg_name (i := 4) sc_Session_performed.nd rfl (Or.inl rfl)) (pgs_cons (pg_fld (pv 0)) pgs_nil))))
        (pss_one (ps_ret (pv 4))))))), ?_⟩
    obtain ⟨dx, v, ha⟩ := hs.ins
    refine ⟨_, rfl, _, _, rfl, rfl, _, rfl, ?_⟩
    unfold opOf at ho
    by_cases c0 : c = 0
    · -- create
      rw [if_pos c0] at ho
      refine ifT (decide_eq_true (by omega)) ?_
      split at ho
      · rename_i x y z
        cases ho
        exact ⟨_, rfl, a, dx, _, rfl, ha, sF_create v, _, rfl, ln, _, _, _, rfl, rfl, SqL.of hn, atI_nat (j := 0) rfl, _, rfl, ln, _, _, _, rfl, rfl, SqL.of hn, atI_nat (j := 1) rfl,
          _, rfl, ln, _, _, _, rfl, rfl, SqL.of hn, atI_nat (j := 2) rfl, a, st, x, y, z, rfl, hs, k⟩
      · cases ho
    · rw [if_neg c0] at ho
      refine ifF (decide_eq_false (by omega)) ?_
      -- require(self.case is not None, NO_PLANNER)
      refine ⟨_, rfl, a, _, dx, _, _, rfl, ha, T.c_Session, T.n_case, sF_case v, _, _, rfl, fun hb => ?_, fun hb => ?_⟩
      · cases st with
        | none =>
          obtain ⟨dx', ha'⟩ := hs
          rw [ha] at ha'
          have y := Option.some.inj ha'
          injection y with y1 y2 y3
          have y4 := (List.cons.inj y3).1
          have y5 : v = V.non := congrArg Prod.snd y4
          rw [y5, non_non] at hb
          cases hb
        | some p =>
          obtain ⟨dx', x, ha', hc, G⟩ := hs
          rw [ha'] at ha
          have y := Option.some.inj ha
          injection y with y1 y2 y3
          have y4 : V.ref x = v := congrArg Prod.snd (List.cons.inj y3).1
          subst y2 y4
          refine ⟨_, rfl, _, _, rfl, rfl, _, rfl, ?_⟩
          by_cases c6 : c ≤ 6
          · -- changed
            rw [if_pos c6] at ho
            refine ifF (decide_eq_false (by omega)) ?_
            refine ⟨_, rfl, a, _, dx', _, _, rfl, ha', T.c_Session, T.n_case, sF_case _, _, rfl, _, rfl, x, ln, p.entrance, c, ns, op, rfl, hc, G, hn, ho, fun code hcode z => ?_, fun n z H1 t q y s1 ht nq hq hy har => ?_⟩
            · refine k.1 code ?_
              show (some (p.run op).1, (p.run op).2) = _
              have z' : (p.run op).2 = Response.error code := z
              rw [z', chg_err ho hcode z']
            · have ha1 := s1 _ _ ha'
              have nqa : q ≠ a := fun y => by
                rw [y, ha'] at nq
                cases nq
              refine ⟨t, _, rfl, .inl (.inl ht), rfl, _, _, rfl, _, _, rfl, _, rfl, a, _, dx', _, rfl, ha1, T.c_Session, T.n_case, (by show 1 < 1000; decide), rfl, ?_⟩
              refine ⟨_, rfl, k.2 _ q (Same.but s1).upd nq ?_ ⟨dx', y, ?_, hy.but ha1, chg_good ho G⟩ fun l2 hl => ?_⟩
              · rw [upd_ne nqa, hq]
                show some (HO.lst (nz [n])) = some (HO.lst ((Kv435Neutral.resultRow (p.run op).2).map V.int))
                have z' : (p.run op).2 = Response.number n := z
                rw [z']
                exact congrArg (fun z => some (HO.lst z)) (row_nz n []).symm
              · rw [upd_same, sF_put]
              · rw [sF_put] at hl
                obtain ⟨dq, lq, hq1, hq2⟩ := id hy
                rcases har l2 (SArr.set hy (case_not ha1 ⟨dq, hq1⟩) hl) with z | z
                · exact Or.inl ⟨dx', x, ha', z⟩
                · exact Or.inr z
          · -- told
            rw [if_neg c6] at ho
            refine ifT (decide_eq_true (by omega)) ?_
            have sm := run_same (tell_not ho) p
            refine ⟨_, rfl, a, _, dx', _, _, rfl, ha', T.c_Session, T.n_case, sF_case _, _, rfl, _, rfl, _, rfl, x, ln, ls, p.entrance, c, ns, g, op, rfl, hc, G, hn, hg, hlen, ho, fun code z => ?_, fun H1 q s1 nq hq => ?_⟩
            · refine k.1 code ?_
              show (some (p.run op).1, (p.run op).2) = _
              have z' : (p.run op).2 = Response.error code := z
              rw [z', sm]
            · refine k.2 _ q (Same.but s1) nq hq ?_ fun l2 hl => Or.inl (SArr.back (st := some p) ⟨dx', x, ha', hc, G⟩ s1 hl)
              show SessAt A.Session A.Case H1 a (some (p.run op).1)
              rw [sm]
              exact SessAt.same (st := some p) ⟨dx', x, ha', hc, G⟩ s1
      · cases st with
        | none =>
          refine k.1 (-11) ?_
          by_cases c6 : c ≤ 6
          · rw [if_pos c6] at ho
            exact exec_none (chg_no_create ho)
          · rw [if_neg c6] at ho
            exact exec_none (not_create (tell_not ho))
        | some p =>
          obtain ⟨dx', x, ha', hc, G⟩ := hs
          rw [ha'] at ha
          have y := Option.some.inj ha
          injection y with y1 y2 y3
          have y4 : V.ref x = v := congrArg Prod.snd (List.cons.inj y3).1
          rw [← y4, ref_non] at hb
          cases hb
def sp_Session_answer (CS C : Addr) : Sp := fun vs H Q _ => ∃ (a ln ls : Addr) (st : State) (c : Nat) (ns g : List Nat) (op : Operation), vs = [.ref a, .int ((c : Nat) : Int), .ref ln, .ref ls] ∧ SessAt CS C H a st ∧
  H ln = some (.lst (nz ns)) ∧ H ls = some (.lst (nz g)) ∧ g.length ≤ 100 ∧ opOf c ns g = some op ∧
  ∀ H' q, But a H H' → H q = none → H' q = some (.lst ((Kv435Neutral.resultRow (execute st op).2).map V.int)) → SessAt CS C H' a (execute st op).1 → (∀ l, SArr CS C H' a l → SArr CS C H a l ∨ H l = none) → Q (.ref q) H'
theorem sc_Session_answer : FnScope ["self", "number", "n", "schedule", "found", "e"] ["self", "number", "n", "schedule"] (defScope s_Session_answer) := ⟨rfl, rfl, rfl, by decide +kernel, rfl, by decide +kernel, by decide +kernel⟩
theorem ok_Session_answer (T : Txt K mg A) : FnOk P w K mg base CX0 10 A.f_Session_answer A.d_Session_answer ["self", "number", "n", "schedule"] (sp_Session_answer A.Session A.Case) := by
  refine T.d_Session_answer.F.ok sc_Session_answer (fun vs H Q E h => ?_) (fun cdv Ar outer s H vs Q E hr h => ?_)
  · obtain ⟨a, ln, ls, st, c, ns, g, op, rfl, _⟩ := h
    rfl
  · obtain ⟨a, ln, ls, st, c, ns, g, op, rfl, hs, hn, hg, hlen, ho, k⟩ := h
    refine ⟨_, pss_cons (ps_try_as (i := 5)
        (tb := fun W => tAsg (tMethS A.Session "performed" (sp_Session_performed A.Session A.Case A.Refusal) (WE W) (tVar 0) (tCons (tVar 1) (tCons (tVar 2) (tCons (tVar 3) tNil)))) (gName 4))
        (ts := fun a cls d => tAsg (tLst (tCons (tCodeRef A.Refusal a cls d (tVar 5)) tNil)) (gName 4)) (Wout := fun _ _ _ _ => False) rfl rfl sc_Session_answer.nd rfl rfl ⟨rfl, by decide, Or.inl T.ref.gC⟩ takes0
        (fun W pn xe tk _ => pss_one (ps_set (i := 4) sc_Session_answer.nd rfl (Or.inl rfl) (by exact (pe_methS (pv 0) T.c_Session T.d_Session_performed.m (ok_Session_performed T) (hr.mono (by decide)) T.d_Session_performed.b (fun σ => passAt tk σ) (by exact (pa_cons (pv 1) (pa_cons (pv 2) (pa_cons (pv 3) pa_nil))))))))
        (fun a oe cls d pn hz hf => pss_one (ps_set (i := 4) sc_Session_answer.nd rfl (Or.inl rfl) (by exact (pe_lst (pa_cons (pe_codeRef T.ref hz hf (pv 5)) pa_nil))))))
      (pss_one (ps_ret (pv 4))), ?_⟩
    obtain ⟨dx, v, ha⟩ := hs.ins
    refine ⟨_, rfl, a, dx, _, rfl, ha, sF_performed v, _, rfl, _, rfl, _, rfl, a, ln, ls, st, c, ns, g, op, rfl, hs, hn, hg, hlen, ho, fun code z => ?_, fun H1 q b1 nq hq hs1 har => ?_⟩
    · intro H1 d s1 hd
      refine ⟨true, T.ref.te, fun _ a0 _ => ?_, fun q => Bool.noConfusion q⟩
      refine ⟨_, rfl, rfl, rfl, d, _, rfl, hd, (by show 1 ≤ sizeLine; decide), fun q nq => ?_⟩
      have s2 := same_new (o := .lst [V.int code]) nq
      rw [z] at k
      exact ⟨_, rfl, k _ q (Same.but (s1.trans s2)) (s1.free nq) upd_same (hs.same (s1.trans s2)) fun l2 hl => Or.inl (SArr.back hs (s1.trans s2) hl)⟩
    · exact ⟨_, rfl, k _ q b1 nq hq hs1 har⟩
end
end Gw

set_option Elab.async false
set_option linter.all false
set_option maxRecDepth 100000
set_option maxHeartbeats 2000000
/-! planner.py: answers. -/
namespace Gw
open PySem PySem.Spec PyProof.Rows L2
open PySem.W (Codec)
open Kv435 (Entrance sumBetween Planner Operation Response State execute)
open Gh (ele pre iz cntN OneCall)
theorem len1 {l : List Nat} (h : l.length = 1) : ∃ x, l = [x] := by
  match l, h with
  | [x], _ => exact ⟨x, rfl⟩
theorem len2 {l : List Nat} (h : l.length = 2) : ∃ x y, l = [x, y] := by
  match l, h with
  | [x, y], _ => exact ⟨x, y, rfl⟩
theorem len3 {l : List Nat} (h : l.length = 3) : ∃ x y z, l = [x, y, z] := by
  match l, h with
  | [x, y, z], _ => exact ⟨x, y, z, rfl⟩
/-- the operation of a call without a list -/
theorem op_plain {c : Nat} {ns : List Nat} (h1 : c < 23) (h2 : ¬ (12 ≤ c ∧ c ≤ 15)) (hl : ns.length = ele cntN c) : ∃ op, Kv435Neutral.operationOf [((c : Nat) : Int) :: iz ns] = some op ∧ opOf c ns [] = some op := by
  have z : c = 0 ∨ c = 1 ∨ c = 2 ∨ c = 3 ∨ c = 4 ∨ c = 5 ∨ c = 6 ∨ c = 7 ∨ c = 8 ∨ c = 9 ∨ c = 10 ∨ c = 11 ∨ c = 16 ∨ c = 17 ∨ c = 18 ∨ c = 19 ∨ c = 20 ∨ c = 21 ∨ c = 22 := by omega
  rcases z with rfl | rfl | rfl | rfl | rfl | rfl | rfl | rfl | rfl | rfl | rfl | rfl | rfl | rfl | rfl | rfl | rfl | rfl | rfl
  · obtain ⟨x, y, z, rfl⟩ := len3 hl
    exact ⟨_, rfl, rfl⟩
  · obtain ⟨x, rfl⟩ := len1 hl
    exact ⟨_, rfl, rfl⟩
  · obtain ⟨x, y, rfl⟩ := len2 hl
    exact ⟨_, rfl, rfl⟩
  · obtain rfl := List.length_eq_zero_iff.mp hl
    exact ⟨_, rfl, rfl⟩
  · obtain ⟨x, rfl⟩ := len1 hl
    exact ⟨_, rfl, rfl⟩
  · obtain ⟨x, rfl⟩ := len1 hl
    exact ⟨_, rfl, rfl⟩
  · obtain ⟨x, rfl⟩ := len1 hl
    exact ⟨_, rfl, rfl⟩
  · obtain rfl := List.length_eq_zero_iff.mp hl
    exact ⟨_, rfl, rfl⟩
  · obtain rfl := List.length_eq_zero_iff.mp hl
    exact ⟨_, rfl, rfl⟩
  · obtain rfl := List.length_eq_zero_iff.mp hl
    exact ⟨_, rfl, rfl⟩
  · obtain rfl := List.length_eq_zero_iff.mp hl
    exact ⟨_, rfl, rfl⟩
  · obtain rfl := List.length_eq_zero_iff.mp hl
    exact ⟨_, rfl, rfl⟩
  · obtain rfl := List.length_eq_zero_iff.mp hl
    exact ⟨_, rfl, rfl⟩
  · obtain rfl := List.length_eq_zero_iff.mp hl
    exact ⟨_, rfl, rfl⟩
  · obtain ⟨x, y, rfl⟩ := len2 hl
    exact ⟨_, rfl, rfl⟩
  · obtain ⟨x, rfl⟩ := len1 hl
    exact ⟨_, rfl, rfl⟩
  · obtain ⟨x, rfl⟩ := len1 hl
    exact ⟨_, rfl, rfl⟩
  · obtain ⟨x, y, rfl⟩ := len2 hl
    exact ⟨_, rfl, rfl⟩
  · obtain rfl := List.length_eq_zero_iff.mp hl
    exact ⟨_, rfl, rfl⟩
theorem op_sched {c : Nat} {g : List Nat} (h1 : 12 ≤ c) (h2 : c ≤ 15) : ∃ op, Kv435Neutral.operationOf [[((c : Nat) : Int)], iz g] = some op ∧ opOf c [] g = some op := by
  have z : c = 12 ∨ c = 13 ∨ c = 14 ∨ c = 15 := by omega
  have e : Kv435Neutral.naturals (iz g) = g := Gh.iz_nat g
  rcases z with rfl | rfl | rfl | rfl
  · refine ⟨.isFeasible g, ?_, rfl⟩
    show some (Operation.isFeasible (Kv435Neutral.naturals (iz g))) = _
    rw [e]
  · refine ⟨.admitted g, ?_, rfl⟩
    show some (Operation.admitted (Kv435Neutral.naturals (iz g))) = _
    rw [e]
  · refine ⟨.queueLengths g, ?_, rfl⟩
    show some (Operation.queueLengths (Kv435Neutral.naturals (iz g))) = _
    rw [e]
  · refine ⟨.longestWait g, ?_, rfl⟩
    show some (Operation.longestWait (Kv435Neutral.naturals (iz g))) = _
    rw [e]
theorem step_is {st : State} {call : List (List Int)} {op : Operation} (h : Kv435Neutral.operationOf call = some op) : Kv435Neutral.step st call = ((execute st op).1, Kv435Neutral.resultRow (execute st op).2) := by
  unfold Kv435Neutral.step
  rw [h]
theorem counts_nz : countsL.map V.int = nz cntN := rfl
theorem cnt_len {c : Nat} (h : c < 23) : c < cntN.length := h
theorem ints_nz (l : List Nat) : (iz l).map V.int = nz l := by
  unfold iz nz
  rw [List.map_map]
  rfl
theorem ne_of_noneL {H : Hp} {a b : Addr} {o : HO} (ha : H a = some o) (hb : H b = none) : b ≠ a := fun z => by
  rw [z, ha] at hb
  cases hb
theorem noSArr {CS C : Addr} {H : Hp} {a l dx : Addr} (h : H a = some (.ins CS dx (sF .non))) : ¬ SArr CS C H a l := by
  rintro ⟨dy, x, h2, _⟩
  rw [h] at h2
  have z2 := Option.some.inj h2
  injection z2 with z3 z4 z5
  have z6 : V.non = V.ref x := congrArg Prod.snd (List.cons.inj z5).1
  cases z6
theorem not_fo {H : Hp} {fo a C dx : Addr} {ys : List V} {fs : List (Str × V)} (h : upd H fo (.lst ys) a = some (.ins C dx fs)) : a ≠ fo := fun z => by
  rw [z, upd_same] at h
  cases h
theorem SArr.unput {CS C : Addr} {H : Hp} {a fo l : Addr} {ys : List V} (h : SArr CS C (upd H fo (.lst ys)) a l) : SArr CS C H a l := by
  obtain ⟨dx, x, h1, dy, e, h2⟩ := h
  have n1 := not_fo h1
  have n2 := not_fo h2
  rw [upd_ne n1] at h1
  rw [upd_ne n2] at h2
  exact ⟨dx, x, h1, dy, e, h2⟩
theorem SessAt.put {CS C : Addr} {H : Hp} {a fo : Addr} {xs ys : List V} (hf : H fo = some (.lst xs)) : ∀ {st : State}, SessAt CS C H a st → (∀ l, SArr CS C H a l → l ≠ fo) → SessAt CS C (upd H fo (.lst ys)) a st
  | none, ⟨dx, h⟩, _ => ⟨dx, by rw [upd_ne (ne_of h hf (by intro z; cases z))]; exact h⟩
  | some p, ⟨dx, x, h, ⟨dy, l, h1, h2⟩, G⟩, ap => by
    have nl := ap l ⟨dx, x, h, dy, _, h1⟩
    exact ⟨dx, x, by rw [upd_ne (ne_of h hf (by intro z; cases z))]; exact h, ⟨dy, l, by rw [upd_ne (ne_of h1 hf (by intro z; cases z))]; exact h1, by rw [upd_ne nl]; exact h2⟩, G⟩
section
variable {P : Program} {w : World} {K : PySem.W.Frag} {mg : Str → Option Value} {base : Heap} {A : Adr}
/-- what stands between two calls: at k, cs to come, the state st, out answered so far -/
structure Mid (CS C : Addr) (K : PySem.W.Frag) (H0 : Hp) (cl : List Nat) (all : List Int) (ca sa fo : Addr) (k f : Nat) (cs : List (List (List Int))) (st : State) (out : List Int) (H : Hp) : Prop where
  same : Same H0 H
  calls : PyFlat.calls PyKv435.shape f (iz (cl.drop k)) = some cs
  ok : ∀ c ∈ cs, PyInside.call PyKv435.bound c = true
  sess : SessAt CS C H sa st
  apart : ∀ l, SArr CS C H sa l → l ≠ fo
  found : H fo = some (.lst (out.map V.int))
  eq : out ++ PyFlat.told (PyFlat.played Kv435Neutral.step st cs) = all
def sp_answers (K : PySem.W.Frag) : Sp := fun vs H Q _ => ∃ (ca : Addr) (cl : List Nat) (raw : List (List (List Int))), vs = [.ref ca] ∧ SqL K H ca (nz cl) ∧ cl.length ≤ 30000 ∧ PyFlat.calls PyKv435.shape (iz cl).length (iz cl) = some raw ∧
  (∀ c ∈ raw, PyInside.call PyKv435.bound c = true) ∧ (PyFlat.told (PyFlat.played Kv435Neutral.step Kv435Neutral.start raw)).length ≤ 10000000 ∧
  ∀ H' p, H' p = some (.lst ((PyFlat.told (PyFlat.played Kv435Neutral.step Kv435Neutral.start raw)).map V.int)) → Q (.ref p) H'
theorem sc_answers : FnScope ["calls", "session", "found", "at", "number", "behind", "n", "schedule", "begin", "one"] ["calls"] (defScope s_answers) := ⟨rfl, rfl, rfl, by decide +kernel, rfl, by decide +kernel, by decide +kernel⟩
theorem ok_answers (T : Txt K mg A) : FnOk P w K mg base CX0 11 A.f_answers A.d_answers ["calls"] (sp_answers K) := by
  refine T.d_answers.F.ok sc_answers (fun vs H Q E h => ?_) (fun cdv Ar outer s H vs Q E hr h => ?_)
  · obtain ⟨ca, cl, raw, rfl, _⟩ := h
    rfl
  · obtain ⟨ca, cl, raw, rfl, hS, h30, hraw, hok, hshort, kq⟩ := h
    generalize hall : PyFlat.told (PyFlat.played Kv435Neutral.step Kv435Neutral.start raw) = all at hshort kq
    refine ⟨_, (pss_cons (ps_set (i := 1) sc_answers.nd rfl (Or.inl rfl) (pe_make0 T.mk_Session (ok_Session_init T) (hr.mono (by decide)) (by rfl) T.g_Session T.d_Session_init.b .nil pass0))
        (pss_cons (ps_set (i := 2) sc_answers.nd rfl (Or.inl rfl) (pe_lst pa_nil))
        (pss_cons (ps_set (i := 3) sc_answers.nd rfl (Or.inl rfl) pe_int)
        (pss_cons (ps_while PassesOwn.never (pt_cmp (pc_lt (pv 3) (pe_callB call_len_seq (by rfl) T.z_len (by decide +kernel) (pa_cons (pv 0) pa_nil))) (nobehind _ (by decide) (by decide))) (pss_cons (ps_set (i := 4) sc_answers.nd rfl (Or.inl rfl) (pe_ix ix_list (pv 0) (pv 3) (fun _ _ => rfl)))
        (pss_cons (ps_set (i := 5) sc_answers.nd rfl (Or.inl rfl) (pe_op op_add (pe_op op_add (pv 3) pe_int) (pe_ix ix_tup (pe_glob (v := .ref A.counts) (by rfl) T.k_COUNTS rfl) (pv 4) (fun _ _ => rfl))))
        (pss_cons (ps_set (i := 6) sc_answers.nd rfl (Or.inl rfl) (pe_slice sl_list (pv 0) (po_some (pe_op op_add (pv 3) pe_int)) (po_some (pv 5))))
        (pss_cons (ps_set (i := 7) sc_answers.nd rfl (Or.inl rfl) (pe_lst pa_nil))
        (C8.pss_cut (ps_if (pt_chain op_le op_le pe_int (pv 4) pe_int) (pss_cons (ps_set (i := 8) sc_answers.nd rfl (Or.inl rfl) (pe_op op_add (pv 5) pe_int))
        (pss_cons (ps_set (i := 5) sc_answers.nd rfl (Or.inl rfl) (pe_op op_add (pv 8) (pe_ix ix_list (pv 0) (pv 5) (fun _ _ => rfl))))
        (pss_one (ps_set (i := 7) sc_answers.nd rfl (Or.inl rfl) (pe_slice sl_list (pv 0) (po_some (pv 8)) (po_some (pv 5))))))) pss_nil)
        (pss_cons (ps_set (i := 9) sc_answers.nd rfl (Or.inl rfl) (pe_meth (pv 1) T.c_Session T.d_Session_answer.m (ok_Session_answer T) (hr.mono (by decide)) T.d_Session_answer.b .nil pass0 (pa_cons (pv 4) (pa_cons (pv 6) (pa_cons (pv 7) pa_nil)))))
        (pss_cons (ps_expr (pe_bm PySem.F.plainAttrs_list PySem.F.slot_list_append PySem.F.type_list_append mt_append (pv 2) (pa_cons (pe_callB call_len_seq (by rfl) T.z_len (by decide +kernel) (pa_cons (pv 9) pa_nil)) pa_nil)))
        (pss_cons (ps_expr (pe_bm PySem.F.plainAttrs_list PySem.F.slot_list_extend PySem.F.type_list_extend mt_extend (pv 2) (pa_cons (pv 9) pa_nil)))
        (pss_one (ps_set (i := 3) sc_answers.nd rfl (Or.inl rfl) (pv 5))))))))))))
        (pss_one (ps_ret (pv 2))))))), ?_⟩
    -- session = Session()
    intro sa dx nsa ndx ndsa
    refine ⟨sa, dx, rfl, upd_same, fun H1 q1 kp => ⟨rfl, ?_⟩⟩
    have s1 : Same H H1 := Same.made nsa ndx kp
    -- found = []
    refine ⟨Nat.zero_le _, fun fo nfo => ?_⟩
    have s2 : Same H1 (upd H1 fo (.lst [])) := same_new nfo
    have nfo0 : H fo = none := s1.free nfo
    have nsf : sa ≠ fo := ne_of_none q1 nfo
    -- the loop
    refine ⟨fun m σ H' => ∃ (k f : Nat) (cs : List (List (List Int))) (st : State) (out : List Int) (v4 v5 v6 v7 v8 v9 : Option V), m = cl.length - k ∧ k ≤ cl.length ∧
        σ = [some (.ref ca), some (.ref sa), some (.ref fo), some (.int ((k : Nat) : Int)), v4, v5, v6, v7, v8, v9] ∧ Mid A.Session A.Case K H cl all ca sa fo k f cs st out H',
      ⟨_, 0, _, raw, none, [], none, none, none, none, none, none, rfl, Nat.zero_le _, rfl, ⟨s1.trans s2, hraw, hok, ⟨dx, s2 _ _ q1⟩, fun l hl => absurd (SArr.back (st := none) ⟨dx, q1⟩ s2 hl) (noSArr q1), upd_same, hall⟩⟩, ?_⟩
    rintro m σ H2 ⟨k, f, cs, st, out, v4, v5, v6, v7, v8, v9, rfl, hk, rfl, M⟩
    refine ⟨_, rfl, _, rfl, ca, _, rfl, .inl (M.same.seq hS), _, _, rfl, rfl, _, rfl, ?_⟩
    by_cases hlt : k < cl.length
    · refine ifT (decide_eq_true (by rw [nz_len]; omega)) ?_
      obtain ⟨call, cs', f', k', rfl, hone, hkk, hk', hnext⟩ := Gh.calls_step hlt M.calls
      refine ⟨fun σ' H' => ∃ (st' : State) (out' : List Int) (v4 v5 v6 v7 v8 v9 : Option V), σ' = [some (.ref ca), some (.ref sa), some (.ref fo), some (.int ((k' : Nat) : Int)), v4, v5, v6, v7, v8, v9] ∧
          Mid A.Session A.Case K H cl all ca sa fo k' f' cs' st' out' H', fun σ' H' ⟨st', out', v4, v5, v6, v7, v8, v9, e, M'⟩ =>
        ⟨cl.length - k', by omega, k', f', cs', st', out', v4, v5, v6, v7, v8, v9, rfl, hk', e, M'⟩, ?_⟩
      have hcnt : ele cl k < 23 := by
        cases hone with
        | plain a _ _ _ => exact a
        | sched _ a _ _ _ => omega
      have hL2 := M.same.seq hS
      -- number = calls[at]; behind = at + 1 + COUNTS[number]
      refine ⟨_, rfl, _, rfl, ca, _, _, _, rfl, rfl, hL2, nz_atI hlt, ?_⟩
      refine ⟨_, rfl, _, _, rfl, rfl, _, rfl, A.counts, nz cntN, _, _, rfl, rfl, T.t_COUNTS H2, nz_atI (cnt_len hcnt), _, _, rfl, rfl, ?_⟩
      -- n = calls[at + 1:behind]
      refine ⟨_, rfl, _, rfl, _, _, rfl, rfl, _, rfl, _, rfl, _, rfl, ca, _, rfl, hL2, fun ln nn => ?_⟩
      have hcut : cutV (nz cl) (some ((k : Int) + 1)) (some ((k : Int) + 1 + ((ele cntN (ele cl k) : Nat) : Int))) = nz ((cl.drop (k + 1)).take (ele cntN (ele cl k))) := by
        rw [show (k : Int) + 1 + ((ele cntN (ele cl k) : Nat) : Int) = ((k + 1 + ele cntN (ele cl k) : Nat) : Int) by omega, show (k : Int) + 1 = ((k + 1 : Nat) : Int) by omega, cut_nat, nz_take, nz_drop, show k + 1 + ele cntN (ele cl k) - (k + 1) = ele cntN (ele cl k) by omega]
      have s3 : Same H2 (upd H2 ln (.lst (cutV (nz cl) (some ((k : Int) + 1)) (some ((k : Int) + 1 + ((ele cntN (ele cl k) : Nat) : Int)))))) := same_new nn
      -- schedule = []
      refine ⟨Nat.zero_le _, fun l0 n0 => ?_⟩
      generalize hH3 : upd H2 ln (.lst (cutV (nz cl) (some ((k : Int) + 1)) (some ((k : Int) + 1 + ((ele cntN (ele cl k) : Nat) : Int))))) = H3 at s3 n0 ⊢
      have hln3 : H3 ln = some (.lst (nz ((cl.drop (k + 1)).take (ele cntN (ele cl k))))) := by
        rw [← hH3, upd_same, hcut]
      have s4 : Same H3 (upd H3 l0 (.lst [])) := same_new n0
      have hl04 : upd H3 l0 (.lst []) l0 = some (.lst (nz [])) := upd_same
      generalize upd H3 l0 (.lst []) = H4 at s4 hl04 ⊢
      have s24 := s3.trans s4
      -- the if, and what follows it
      refine ⟨fun σ' H' => ∃ (ls : Addr) (ns g : List Nat) (op : Operation) (v8 v9 : Option V), σ' = [some (.ref ca), some (.ref sa), some (.ref fo), some (.int ((k : Nat) : Int)), some (.int ((ele cl k : Nat) : Int)), some (.int ((k' : Nat) : Int)), some (.ref ln), some (.ref ls), v8, v9] ∧
          Same H2 H' ∧ H' ln = some (.lst (nz ns)) ∧ H' ls = some (.lst (nz g)) ∧ g.length ≤ 100 ∧ Kv435Neutral.operationOf call = some op ∧ opOf (ele cl k) ns g = some op, ?_, ?_⟩
      · refine ⟨_, rfl, _, _, rfl, rfl, _, rfl, ?_⟩
        cases hone with
        | plain a1 a2 a3 a4 =>
          obtain ⟨op, o1, o2⟩ := op_plain (ns := (cl.drop (k + 1)).take (ele cntN (ele cl k))) a1 a2 (by rw [List.length_take, List.length_drop]; omega)
          have fin : ∃ (ls : Addr) (ns g : List Nat) (op : Operation) (w8 w9 : Option V), ([some (.ref ca), some (.ref sa), some (.ref fo), some (.int ((k : Nat) : Int)), some (.int ((ele cl k : Nat) : Int)), some (.int ((k : Int) + 1 + ((ele cntN (ele cl k) : Nat) : Int))), some (.ref ln), some (.ref l0), v8, v9] : List (Option V)) =
              [some (.ref ca), some (.ref sa), some (.ref fo), some (.int ((k : Nat) : Int)), some (.int ((ele cl k : Nat) : Int)), some (.int ((k + 1 + ele cntN (ele cl k) : Nat) : Int)), some (.ref ln), some (.ref ls), w8, w9] ∧
              Same H2 H4 ∧ H4 ln = some (.lst (nz ns)) ∧ H4 ls = some (.lst (nz g)) ∧ g.length ≤ 100 ∧ Kv435Neutral.operationOf call = some op ∧ opOf (ele cl k) ns g = some op :=
            ⟨l0, _, [], op, v8, v9, rfl, s24, s4 _ _ hln3, hl04, Nat.zero_le _, by rw [a4]; exact o1, o2⟩
          by_cases c12 : 12 ≤ ele cl k
          · refine ifT (decide_eq_true (by omega)) ⟨_, _, rfl, rfl, _, rfl, ?_⟩
            exact ifF (decide_eq_false (by omega)) fin
          · refine ifF (decide_eq_false (by omega)) ⟨_, rfl, ?_⟩
            exact ifF rfl fin
        | sched a1 a2 a3 a4 a5 =>
          have hz := Gh.cnt_sched a1 a2
          obtain ⟨op, o1, o2⟩ := op_sched (g := (cl.drop (k + 2)).take (ele cl (k + 1))) a1 a2
          have hg20 : ((cl.drop (k + 2)).take (ele cl (k + 1))).length ≤ 20 := Gh.sched_len a1 a2 (by rw [← a5]; exact M.ok _ List.mem_cons_self)
          refine ifT (decide_eq_true (by omega)) ⟨_, _, rfl, rfl, _, rfl, ?_⟩
          refine ifT (decide_eq_true (by omega)) ?_
          have hL4 := s24.seq hL2
          -- begin = behind + 1; behind = begin + calls[behind]
          refine ⟨_, rfl, _, _, rfl, rfl, ?_⟩
          refine ⟨_, rfl, _, rfl, _, rfl, ca, _, _, _, rfl, rfl, hL4, nz_atz (k := k + 1) (by rw [hz]; omega) a3, _, _, rfl, rfl, ?_⟩
          -- schedule = calls[begin:behind]
          refine ⟨_, rfl, _, rfl, _, rfl, _, rfl, _, rfl, ca, _, rfl, hL4, fun ls ns' => ?_⟩
          have hcut2 : cutV (nz cl) (some ((k : Int) + 1 + ((ele cntN (ele cl k) : Nat) : Int) + 1)) (some ((k : Int) + 1 + ((ele cntN (ele cl k) : Nat) : Int) + 1 + ((ele cl (k + 1) : Nat) : Int))) = nz ((cl.drop (k + 2)).take (ele cl (k + 1))) := by
            rw [hz, show (k : Int) + 1 + ((0 : Nat) : Int) + 1 + ((ele cl (k + 1) : Nat) : Int) = ((k + 2 + ele cl (k + 1) : Nat) : Int) by omega, show (k : Int) + 1 + ((0 : Nat) : Int) + 1 = ((k + 2 : Nat) : Int) by omega, cut_nat, nz_take, nz_drop, show k + 2 + ele cl (k + 1) - (k + 2) = ele cl (k + 1) by omega]
          have s5 := same_new (o := .lst (cutV (nz cl) (some ((k : Int) + 1 + ((ele cntN (ele cl k) : Nat) : Int) + 1)) (some ((k : Int) + 1 + ((ele cntN (ele cl k) : Nat) : Int) + 1 + ((ele cl (k + 1) : Nat) : Int))))) ns'
          refine ⟨ls, [], _, op, some (.int ((k : Int) + 1 + ((ele cntN (ele cl k) : Nat) : Int) + 1)), v9, ?_, s24.trans s5, ?_, upd_same.trans (congrArg (fun z => some (HO.lst z)) hcut2), Nat.le_trans hg20 (by decide), by rw [a5]; exact o1, o2⟩
          · have e : (k : Int) + 1 + ((ele cntN (ele cl k) : Nat) : Int) + 1 + ((ele cl (k + 1) : Nat) : Int) = ((k + 2 + ele cl (k + 1) : Nat) : Int) := by
              rw [hz]
              omega
            rw [← e]
            rfl
          · refine s5 _ _ (s4 _ _ ?_)
            rw [hln3, hz]
            rfl
      · -- one = session.answer(number, n, schedule)
        rintro σ5 H5 ⟨ls, ns, g, op, v8, v9, rfl, s5, hn5, hg5, hlen, o1, o2⟩
        have hs5 := M.sess.same s5
        obtain ⟨dy, v, hsa⟩ := hs5.ins
        refine ⟨_, rfl, sa, dy, _, rfl, hsa, sF_answer v, _, rfl, _, rfl, _, rfl, sa, ln, ls, st, ele cl k, ns, g, op, rfl, hs5, hn5, hg5, hlen, o2, fun H6 q b6 nq hq hs6 har => ?_⟩
        have ap6 : ∀ l, SArr A.Session A.Case H6 sa l → l ≠ fo := fun l hl => by
          rcases har l hl with z | z
          · exact M.apart l (SArr.back M.sess s5 z)
          · exact ne_of_noneL (s5 _ _ M.found) z
        have hfo6 : H6 fo = some (.lst (out.map V.int)) := b6 _ _ nsf.symm (s5 _ _ M.found)
        have s06 : Same H H6 := fun b o e => b6 b o (ne_of_none e nsa) (s5 _ _ (M.same _ _ e))
        have nqf : q ≠ fo := fun y => by
          have z := s5 _ _ M.found
          rw [← y, nq] at z
          cases z
        generalize hrow : Kv435Neutral.resultRow (execute st op).2 = row at hq
        have hst := step_is (st := st) o1
        rw [hrow] at hst
        have htold : PyFlat.told (PyFlat.played Kv435Neutral.step st (call :: cs')) = ((row.length : Nat) : Int) :: row ++ PyFlat.told (PyFlat.played Kv435Neutral.step (execute st op).1 cs') := by
          show List.flatMap _ ((Kv435Neutral.step st call).2 :: PyFlat.played Kv435Neutral.step (Kv435Neutral.step st call).1 cs') = _
          rw [List.flatMap_cons, hst]
          rfl
        have heq := M.eq
        rw [htold] at heq
        have hsize : out.length + (row.length + 1) ≤ 10000000 := by
          have z := congrArg List.length heq
          rw [List.length_append, List.length_append, List.length_cons] at z
          omega
        -- found.append(len(one))
        refine ⟨_, rfl, .inl ⟨rfl, _, SqL.of hfo6⟩, _, rfl, q, _, rfl, .inl (SqL.of hq), fo, _, _, rfl, rfl, hfo6, ?_, ?_⟩
        · rw [List.length_map]
          exact Nat.lt_of_lt_of_le (Nat.lt_of_le_of_lt (by omega : out.length ≤ 10000000) (by decide)) (Nat.le_of_eq sizeLine_eq.symm)
        -- found.extend(one)
        refine ⟨_, rfl, .inl ⟨rfl, _, SqL.of upd_same⟩, _, rfl, fo, q, _, _, rfl, rfl, upd_same, (upd_ne nqf).trans hq, ?_, ?_⟩
        · rw [List.length_append, List.length_map, List.length_map, List.length_singleton]
          exact Nat.le_trans (by omega : out.length + 1 + row.length ≤ 10000000) (Nat.le_trans (by decide) (Nat.le_of_eq sizeLine_eq.symm))
        -- at = behind
        refine ⟨_, rfl, (execute st op).1, out ++ (((row.length : Nat) : Int) :: row), _, _, _, _, _, _, rfl, ?_⟩
        refine ⟨?_, hnext, fun c hc => M.ok c (List.mem_cons_of_mem _ hc), ?_, ?_, ?_, ?_⟩
        · exact same_put nfo0 (same_put nfo0 s06)
        · exact SessAt.put upd_same (SessAt.put hfo6 hs6 ap6) fun l hl => ap6 l hl.unput
        · exact fun l hl => ap6 l hl.unput.unput
        · rw [upd_same, List.length_map, List.map_append, List.map_cons, List.append_assoc]
          rfl
        · rw [List.append_assoc]
          exact heq
    · refine ifF (decide_eq_false (by rw [nz_len]; omega)) ?_
      have hcs := Gh.calls_end (by omega) M.calls
      have heq := M.eq
      rw [hcs] at heq
      refine ⟨_, rfl, kq _ fo ?_⟩
      rw [← heq, M.found]
      show some (HO.lst (out.map V.int)) = some (HO.lst ((out ++ []).map V.int))
      rw [List.append_nil]
end
end Gw

set_option Elab.async false
set_option linter.all false
set_option maxRecDepth 100000
set_option maxHeartbeats 2000000
/-! The end. -/
namespace Gw
open PySem PySem.Spec PyProof.Rows L2
open PySem.W (Codec)
/-- an error of the class at S is what «except S» names -/
theorem exm_self {K : PySem.W.Frag} {S : Addr} (h1 : PySem.W.subIn K (.ref S) (.type "BaseException") = some true) (h2 : PySem.W.isClsIn K S = true) (h3 : PySem.W.typeIn K (.ref S) = some (.type "type")) (h4 : PySem.W.subIn K (.ref S) (.ref S) = some true) :
    PySem.W.exmOne K (.ref S) (.ref S) = some true := by
  have e1 : (PySem.W.subIn K (.ref S) (.type "BaseException") == some true) = true := by rw [h1] <;> rfl
  have e2 : ((PySem.W.clsIn K S).isSome && PySem.W.typeIn K (.ref S) == some (.type "type")) = true := by
    have h2' : (PySem.W.clsIn K S).isSome = true := h2
    rw [h2', h3] <;> rfl
  show (if (PySem.W.subIn K (.ref S) (.type "BaseException") == some true) = true then (if ((PySem.W.clsIn K S).isSome && PySem.W.typeIn K (.ref S) == some (.type "type")) = true then PySem.W.subIn K (.ref S) (.ref S) else none) else none) = some true
  rw [if_pos e1, if_pos e2]
  exact h4
theorem cnt_vals {u0 u1 u2 u3 u4 u5 u6 u7 u8 u9 u10 u11 u12 u13 u14 u15 u16 u17 u18 u19 u20 u21 u22 : Nat} :
    Vals (countsL.map V.int) [.int 3 u0, .int 1 u1, .int 2 u2, .int 0 u3, .int 1 u4, .int 1 u5, .int 1 u6, .int 0 u7, .int 0 u8, .int 0 u9, .int 0 u10, .int 0 u11, .int 0 u12, .int 0 u13, .int 0 u14, .int 0 u15, .int 0 u16, .int 0 u17, .int 2 u18, .int 1 u19, .int 1 u20, .int 2 u21, .int 0 u22] :=
  .cons ⟨_, rfl⟩ (.cons ⟨_, rfl⟩ (.cons ⟨_, rfl⟩ (.cons ⟨_, rfl⟩ (.cons ⟨_, rfl⟩ (.cons ⟨_, rfl⟩ (.cons ⟨_, rfl⟩ (.cons ⟨_, rfl⟩ (.cons ⟨_, rfl⟩ (.cons ⟨_, rfl⟩ (.cons ⟨_, rfl⟩ (.cons ⟨_, rfl⟩ (.cons ⟨_, rfl⟩ (.cons ⟨_, rfl⟩ (.cons ⟨_, rfl⟩ (.cons ⟨_, rfl⟩
    (.cons ⟨_, rfl⟩ (.cons ⟨_, rfl⟩ (.cons ⟨_, rfl⟩ (.cons ⟨_, rfl⟩ (.cons ⟨_, rfl⟩ (.cons ⟨_, rfl⟩ (.cons ⟨_, rfl⟩ .nil))))))))))))))))))))))
theorem all_mk {P : Program} {w : World} {K : PySem.W.Frag} {h : Heap} {mg : Str → Option Value} {fa cC cS cR fR cT : Addr} (X : K.In h) (G : h.Ns mainGlobals mg) (hfa : mg "answers" = some (.ref fa))
    {nm qn : Str} {nN : Addr} {bs : List Value} {sn : List Str} {sub : List Value} {ab : Bool} {col : Option Bool} {ddR : Option Addr} {m0 m1 m2 m3 m5 : Option Value} {odR anR : Option Addr} {slR : Array (Option Value)} {ocR dcR pmR cdR ctR : Value}
    {dT : Option Addr} {nT : Nat} {sT : Array (Option Value)} {u0 u1 u2 u3 u4 u5 u6 u7 u8 u9 u10 u11 u12 u13 u14 u15 u16 u17 u18 u19 u20 u21 u22 : Nat} {tk_NO_PLANNER tk_NO_MINUTE tk_NO_MINUTES tk_OUTSIDE tk_FULL tk_NONE_FOUND tk_MOST_PER_GATE tk_MOST_GATES tk_MOST_WAIT tk_MOST_ARRIVALS tk_MOST_MINUTES tk_MOST_ELEMENT tk_CREATE tk_LAST_CHANGE : Nat}
    {f_Case_init : Addr} {od_Case_init an_Case_init : Option Addr} {sl_Case_init : Array (Option Value)} {oc_Case_init kV_Case_init dc_Case_init pm_Case_init cd_Case_init ct_Case_init : Value}
    {f_Case_count : Addr} {od_Case_count an_Case_count : Option Addr} {sl_Case_count : Array (Option Value)} {oc_Case_count kV_Case_count dc_Case_count pm_Case_count cd_Case_count ct_Case_count : Value}
    {f_Case_length : Addr} {od_Case_length an_Case_length : Option Addr} {sl_Case_length : Array (Option Value)} {oc_Case_length kV_Case_length dc_Case_length pm_Case_length cd_Case_length ct_Case_length : Value}
    {f_Case_total : Addr} {od_Case_total an_Case_total : Option Addr} {sl_Case_total : Array (Option Value)} {oc_Case_total kV_Case_total dc_Case_total pm_Case_total cd_Case_total ct_Case_total : Value}
    {f_Case_with_minutes : Addr} {od_Case_with_minutes an_Case_with_minutes : Option Addr} {sl_Case_with_minutes : Array (Option Value)} {oc_Case_with_minutes kV_Case_with_minutes dc_Case_with_minutes pm_Case_with_minutes cd_Case_with_minutes ct_Case_with_minutes : Value}
    {f_Case_with_arrivals : Addr} {od_Case_with_arrivals an_Case_with_arrivals : Option Addr} {sl_Case_with_arrivals : Array (Option Value)} {oc_Case_with_arrivals kV_Case_with_arrivals dc_Case_with_arrivals pm_Case_with_arrivals cd_Case_with_arrivals ct_Case_with_arrivals : Value}
    {f_Case_with_per_gate : Addr} {od_Case_with_per_gate an_Case_with_per_gate : Option Addr} {sl_Case_with_per_gate : Array (Option Value)} {oc_Case_with_per_gate kV_Case_with_per_gate dc_Case_with_per_gate pm_Case_with_per_gate cd_Case_with_per_gate ct_Case_with_per_gate : Value}
    {f_Case_with_max_gates : Addr} {od_Case_with_max_gates an_Case_with_max_gates : Option Addr} {sl_Case_with_max_gates : Array (Option Value)} {oc_Case_with_max_gates kV_Case_with_max_gates dc_Case_with_max_gates pm_Case_with_max_gates cd_Case_with_max_gates ct_Case_with_max_gates : Value}
    {f_Case_with_max_wait : Addr} {od_Case_with_max_wait an_Case_with_max_wait : Option Addr} {sl_Case_with_max_wait : Array (Option Value)} {oc_Case_with_max_wait kV_Case_with_max_wait dc_Case_with_max_wait pm_Case_with_max_wait cd_Case_with_max_wait ct_Case_with_max_wait : Value}
    {f_require : Addr} {od_require an_require : Option Addr} {sl_require : Array (Option Value)} {oc_require kV_require dc_require pm_require cd_require ct_require : Value}
    {f_add_minute : Addr} {od_add_minute an_add_minute : Option Addr} {sl_add_minute : Array (Option Value)} {oc_add_minute kV_add_minute dc_add_minute pm_add_minute cd_add_minute ct_add_minute : Value}
    {f_set_arrivals : Addr} {od_set_arrivals an_set_arrivals : Option Addr} {sl_set_arrivals : Array (Option Value)} {oc_set_arrivals kV_set_arrivals dc_set_arrivals pm_set_arrivals cd_set_arrivals ct_set_arrivals : Value}
    {f_remove_last_minute : Addr} {od_remove_last_minute an_remove_last_minute : Option Addr} {sl_remove_last_minute : Array (Option Value)} {oc_remove_last_minute kV_remove_last_minute dc_remove_last_minute pm_remove_last_minute cd_remove_last_minute ct_remove_last_minute : Value}
    {f_set_per_gate : Addr} {od_set_per_gate an_set_per_gate : Option Addr} {sl_set_per_gate : Array (Option Value)} {oc_set_per_gate kV_set_per_gate dc_set_per_gate pm_set_per_gate cd_set_per_gate ct_set_per_gate : Value}
    {f_set_max_gates : Addr} {od_set_max_gates an_set_max_gates : Option Addr} {sl_set_max_gates : Array (Option Value)} {oc_set_max_gates kV_set_max_gates dc_set_max_gates pm_set_max_gates cd_set_max_gates ct_set_max_gates : Value}
    {f_set_max_wait : Addr} {od_set_max_wait an_set_max_wait : Option Addr} {sl_set_max_wait : Array (Option Value)} {oc_set_max_wait kV_set_max_wait dc_set_max_wait pm_set_max_wait cd_set_max_wait ct_set_max_wait : Value}
    {f_changed : Addr} {od_changed an_changed : Option Addr} {sl_changed : Array (Option Value)} {oc_changed kV_changed dc_changed pm_changed cd_changed ct_changed : Value}
    {f_room : Addr} {od_room an_room : Option Addr} {sl_room : Array (Option Value)} {oc_room kV_room dc_room pm_room cd_room ct_room : Value}
    {f_infeasible_interval : Addr} {od_infeasible_interval an_infeasible_interval : Option Addr} {sl_infeasible_interval : Array (Option Value)} {oc_infeasible_interval kV_infeasible_interval dc_infeasible_interval pm_infeasible_interval cd_infeasible_interval ct_infeasible_interval : Value}
    {f_is_possible : Addr} {od_is_possible an_is_possible : Option Addr} {sl_is_possible : Array (Option Value)} {oc_is_possible kV_is_possible dc_is_possible pm_is_possible cd_is_possible ct_is_possible : Value}
    {f_needed : Addr} {od_needed an_needed : Option Addr} {sl_needed : Array (Option Value)} {oc_needed kV_needed dc_needed pm_needed cd_needed ct_needed : Value}
    {f_raised : Addr} {od_raised an_raised : Option Addr} {sl_raised : Array (Option Value)} {oc_raised kV_raised dc_raised pm_raised cd_raised ct_raised : Value}
    {f_least_sums : Addr} {od_least_sums an_least_sums : Option Addr} {sl_least_sums : Array (Option Value)} {oc_least_sums kV_least_sums dc_least_sums pm_least_sums cd_least_sums ct_least_sums : Value}
    {f_best_schedule : Addr} {od_best_schedule an_best_schedule : Option Addr} {sl_best_schedule : Array (Option Value)} {oc_best_schedule kV_best_schedule dc_best_schedule pm_best_schedule cd_best_schedule ct_best_schedule : Value}
    {f_arriving : Addr} {od_arriving an_arriving : Option Addr} {sl_arriving : Array (Option Value)} {oc_arriving kV_arriving dc_arriving pm_arriving cd_arriving ct_arriving : Value}
    {f_admissions : Addr} {od_admissions an_admissions : Option Addr} {sl_admissions : Array (Option Value)} {oc_admissions kV_admissions dc_admissions pm_admissions cd_admissions ct_admissions : Value}
    {f_are_all_admitted : Addr} {od_are_all_admitted an_are_all_admitted : Option Addr} {sl_are_all_admitted : Array (Option Value)} {oc_are_all_admitted kV_are_all_admitted dc_are_all_admitted pm_are_all_admitted cd_are_all_admitted ct_are_all_admitted : Value}
    {f_minute_admitted : Addr} {od_minute_admitted an_minute_admitted : Option Addr} {sl_minute_admitted : Array (Option Value)} {oc_minute_admitted kV_minute_admitted dc_minute_admitted pm_minute_admitted cd_minute_admitted ct_minute_admitted : Value}
    {f_longest_wait : Addr} {od_longest_wait an_longest_wait : Option Addr} {sl_longest_wait : Array (Option Value)} {oc_longest_wait kV_longest_wait dc_longest_wait pm_longest_wait cd_longest_wait ct_longest_wait : Value}
    {f_is_enough : Addr} {od_is_enough an_is_enough : Option Addr} {sl_is_enough : Array (Option Value)} {oc_is_enough kV_is_enough dc_is_enough pm_is_enough cd_is_enough ct_is_enough : Value}
    {f_is_feasible : Addr} {od_is_feasible an_is_feasible : Option Addr} {sl_is_feasible : Array (Option Value)} {oc_is_feasible kV_is_feasible dc_is_feasible pm_is_feasible cd_is_feasible ct_is_feasible : Value}
    {f_counted : Addr} {od_counted an_counted : Option Addr} {sl_counted : Array (Option Value)} {oc_counted kV_counted dc_counted pm_counted cd_counted ct_counted : Value}
    {f_told_best : Addr} {od_told_best an_told_best : Option Addr} {sl_told_best : Array (Option Value)} {oc_told_best kV_told_best dc_told_best pm_told_best cd_told_best ct_told_best : Value}
    {f_told_gate_minutes : Addr} {od_told_gate_minutes an_told_gate_minutes : Option Addr} {sl_told_gate_minutes : Array (Option Value)} {oc_told_gate_minutes kV_told_gate_minutes dc_told_gate_minutes pm_told_gate_minutes cd_told_gate_minutes ct_told_gate_minutes : Value}
    {f_told_interval : Addr} {od_told_interval an_told_interval : Option Addr} {sl_told_interval : Array (Option Value)} {oc_told_interval kV_told_interval dc_told_interval pm_told_interval cd_told_interval ct_told_interval : Value}
    {f_require_schedule : Addr} {od_require_schedule an_require_schedule : Option Addr} {sl_require_schedule : Array (Option Value)} {oc_require_schedule kV_require_schedule dc_require_schedule pm_require_schedule cd_require_schedule ct_require_schedule : Value}
    {f_told_of_schedule : Addr} {od_told_of_schedule an_told_of_schedule : Option Addr} {sl_told_of_schedule : Array (Option Value)} {oc_told_of_schedule kV_told_of_schedule dc_told_of_schedule pm_told_of_schedule cd_told_of_schedule ct_told_of_schedule : Value}
    {f_min_max_gates : Addr} {od_min_max_gates an_min_max_gates : Option Addr} {sl_min_max_gates : Array (Option Value)} {oc_min_max_gates kV_min_max_gates dc_min_max_gates pm_min_max_gates cd_min_max_gates ct_min_max_gates : Value}
    {f_min_max_wait : Addr} {od_min_max_wait an_min_max_wait : Option Addr} {sl_min_max_wait : Array (Option Value)} {oc_min_max_wait kV_min_max_wait dc_min_max_wait pm_min_max_wait cd_min_max_wait ct_min_max_wait : Value}
    {f_if_arrivals : Addr} {od_if_arrivals an_if_arrivals : Option Addr} {sl_if_arrivals : Array (Option Value)} {oc_if_arrivals kV_if_arrivals dc_if_arrivals pm_if_arrivals cd_if_arrivals ct_if_arrivals : Value}
    {f_if_max_wait : Addr} {od_if_max_wait an_if_max_wait : Option Addr} {sl_if_max_wait : Array (Option Value)} {oc_if_max_wait kV_if_max_wait dc_if_max_wait pm_if_max_wait cd_if_max_wait ct_if_max_wait : Value}
    {f_max_arrivals : Addr} {od_max_arrivals an_max_arrivals : Option Addr} {sl_max_arrivals : Array (Option Value)} {oc_max_arrivals kV_max_arrivals dc_max_arrivals pm_max_arrivals cd_max_arrivals ct_max_arrivals : Value}
    {f_total_arrivals : Addr} {od_total_arrivals an_total_arrivals : Option Addr} {sl_total_arrivals : Array (Option Value)} {oc_total_arrivals kV_total_arrivals dc_total_arrivals pm_total_arrivals cd_total_arrivals ct_total_arrivals : Value}
    {f_told_state : Addr} {od_told_state an_told_state : Option Addr} {sl_told_state : Array (Option Value)} {oc_told_state kV_told_state dc_told_state pm_told_state cd_told_state ct_told_state : Value}
    {f_told_plainly : Addr} {od_told_plainly an_told_plainly : Option Addr} {sl_told_plainly : Array (Option Value)} {oc_told_plainly kV_told_plainly dc_told_plainly pm_told_plainly cd_told_plainly ct_told_plainly : Value}
    {f_told : Addr} {od_told an_told : Option Addr} {sl_told : Array (Option Value)} {oc_told kV_told dc_told pm_told cd_told ct_told : Value}
    {f_Session_init : Addr} {od_Session_init an_Session_init : Option Addr} {sl_Session_init : Array (Option Value)} {oc_Session_init kV_Session_init dc_Session_init pm_Session_init cd_Session_init ct_Session_init : Value}
    {f_Session_create : Addr} {od_Session_create an_Session_create : Option Addr} {sl_Session_create : Array (Option Value)} {oc_Session_create kV_Session_create dc_Session_create pm_Session_create cd_Session_create ct_Session_create : Value}
    {f_Session_performed : Addr} {od_Session_performed an_Session_performed : Option Addr} {sl_Session_performed : Array (Option Value)} {oc_Session_performed kV_Session_performed dc_Session_performed pm_Session_performed cd_Session_performed ct_Session_performed : Value}
    {f_Session_answer : Addr} {od_Session_answer an_Session_answer : Option Addr} {sl_Session_answer : Array (Option Value)} {oc_Session_answer kV_Session_answer dc_Session_answer pm_Session_answer cd_Session_answer ct_Session_answer : Value}
    {f_answers : Addr} {od_answers an_answers : Option Addr} {sl_answers : Array (Option Value)} {oc_answers kV_answers dc_answers pm_answers cd_answers ct_answers : Value}
    (aCase : PySem.W.nsIn K mainGlobals "Case" = some (some (.ref cC)))
    (aSess : PySem.W.nsIn K mainGlobals "Session" = some (some (.ref cS)))
    (aRef : PySem.W.nsIn K mainGlobals "Refusal" = some (some (.ref cR)))
    (pgCase : PySem.W.plainGet K cC Str.empty = true)
    (hdCase : PySem.W.hasDictIn K cC = true)
    (poCase : PySem.W.plainOver K cC = true)
    (saCase : PySem.W.findIn K (.ref cC) "__setattr__" = some (some (.builtin "object.__setattr__")))
    (mkCase : PySem.W.makesIn K cC = true)
    (kcCase : PySem.W.keepIn K (.ref cC) = true)
    (n_arrivals : PySem.W.findIn K (.ref cC) "arrivals" = some none)
    (n_per_gate : PySem.W.findIn K (.ref cC) "per_gate" = some none)
    (n_max_gates : PySem.W.findIn K (.ref cC) "max_gates" = some none)
    (n_max_wait : PySem.W.findIn K (.ref cC) "max_wait" = some none)
    (pgSession : PySem.W.plainGet K cS Str.empty = true)
    (hdSession : PySem.W.hasDictIn K cS = true)
    (poSession : PySem.W.plainOver K cS = true)
    (saSession : PySem.W.findIn K (.ref cS) "__setattr__" = some (some (.builtin "object.__setattr__")))
    (mkSession : PySem.W.makesIn K cS = true)
    (kcSession : PySem.W.keepIn K (.ref cS) = true)
    (n_case : PySem.W.findIn K (.ref cS) "case" = some none)
    (xR : K.lookup cR = some (excClassObj nm qn cR nN bs PySem.ESX.exTail true sn sub ab col ddR m0 m1 m2 m3 m5 "Exception.__new__"))
    (saR : PySem.W.findIn K (.ref cR) "__setattr__" = some (some (.builtin "object.__setattr__")))
    (gaR : PySem.W.findIn K (.ref cR) "__getattribute__" = some (some (.builtin "BaseException.__getattribute__")))
    (ggR : PySem.W.findIn K (.ref cR) "__getattr__" = some none)
    (noR : PySem.W.findIn K (.ref cR) "code" = some none)
    (iR : PySem.W.findIn K (.ref cR) "__init__" = some (some (.ref fR)))
    (tR : PySem.W.typeIn K (.ref fR) = some (.type "function"))
    (lR : K.lookup fR = some ⟨ocR, odR, .func (PySem.W.fnOf "__init__" "Refusal.__init__" GhX.iA GhX.iB GhX.iS .none .none dcR pmR anR cdR ctR), slR⟩)
    (ccR : PySem.W.codeIn K cdR "Refusal.__init__" = true)
    (kR : PySem.W.keepIn K (.ref cR) = true)
    (eR : PySem.W.subIn K (.ref cR) (.type "BaseException") = some true)
    (tyR : PySem.W.typeIn K (.ref cR) = some (.type "type"))
    (hdR : PySem.W.hasDictIn K cR = true)
    (isR : PySem.W.isClsIn K cR = true)
    (suR : PySem.W.subIn K (.ref cR) (.ref cR) = some true)
    (vE : PySem.W.findCls K (.type "Exception") (.type "type") "__init__" = some (.val (.builtin "Exception.__init__")))
    (zE : PySem.W.nsIn K mainGlobals "Exception" = some none)
    (z_len : PySem.W.nsIn K mainGlobals "len" = some none)
    (z_sum : PySem.W.nsIn K mainGlobals "sum" = some none)
    (z_range : PySem.W.nsIn K mainGlobals "range" = some none)
    (z_list : PySem.W.nsIn K mainGlobals "list" = some none)
    (z_max : PySem.W.nsIn K mainGlobals "max" = some none)
    (z_min : PySem.W.nsIn K mainGlobals "min" = some none)
    (z_zip : PySem.W.nsIn K mainGlobals "zip" = some none)
    (z_enumerate : PySem.W.nsIn K mainGlobals "enumerate" = some none)
    (z_all : PySem.W.nsIn K mainGlobals "all" = some none)
    (z_int : PySem.W.nsIn K mainGlobals "int" = some none)
    (k_NO_PLANNER : PySem.W.nsIn K mainGlobals "NO_PLANNER" = some (some (.int (-11) tk_NO_PLANNER)))
    (k_NO_MINUTE : PySem.W.nsIn K mainGlobals "NO_MINUTE" = some (some (.int (-2) tk_NO_MINUTE)))
    (k_NO_MINUTES : PySem.W.nsIn K mainGlobals "NO_MINUTES" = some (some (.int (-6) tk_NO_MINUTES)))
    (k_OUTSIDE : PySem.W.nsIn K mainGlobals "OUTSIDE" = some (some (.int (-22) tk_OUTSIDE)))
    (k_FULL : PySem.W.nsIn K mainGlobals "FULL" = some (some (.int (-28) tk_FULL)))
    (k_NONE_FOUND : PySem.W.nsIn K mainGlobals "NONE_FOUND" = some (some (.int (-33) tk_NONE_FOUND)))
    (k_MOST_PER_GATE : PySem.W.nsIn K mainGlobals "MOST_PER_GATE" = some (some (.int (9) tk_MOST_PER_GATE)))
    (k_MOST_GATES : PySem.W.nsIn K mainGlobals "MOST_GATES" = some (some (.int (6) tk_MOST_GATES)))
    (k_MOST_WAIT : PySem.W.nsIn K mainGlobals "MOST_WAIT" = some (some (.int (6) tk_MOST_WAIT)))
    (k_MOST_ARRIVALS : PySem.W.nsIn K mainGlobals "MOST_ARRIVALS" = some (some (.int (40) tk_MOST_ARRIVALS)))
    (k_MOST_MINUTES : PySem.W.nsIn K mainGlobals "MOST_MINUTES" = some (some (.int (10) tk_MOST_MINUTES)))
    (k_MOST_ELEMENT : PySem.W.nsIn K mainGlobals "MOST_ELEMENT" = some (some (.int (9) tk_MOST_ELEMENT)))
    (k_CREATE : PySem.W.nsIn K mainGlobals "CREATE" = some (some (.int (0) tk_CREATE)))
    (k_LAST_CHANGE : PySem.W.nsIn K mainGlobals "LAST_CHANGE" = some (some (.int (6) tk_LAST_CHANGE)))
    (aCnt : PySem.W.nsIn K mainGlobals "COUNTS" = some (some (.ref cT)))
    (lCnt : K.lookup cT = some ⟨.type "tuple", dT, .seq #[.int 3 u0, .int 1 u1, .int 2 u2, .int 0 u3, .int 1 u4, .int 1 u5, .int 1 u6, .int 0 u7, .int 0 u8, .int 0 u9, .int 0 u10, .int 0 u11, .int 0 u12, .int 0 u13, .int 0 u14, .int 0 u15, .int 0 u16, .int 0 u17, .int 2 u18, .int 1 u19, .int 1 u20, .int 2 u21, .int 0 u22] nT, sT⟩)
    (a_Case_init : PySem.W.findIn K (.ref cC) "__init__" = some (some (.ref f_Case_init)))
    (i_Case_init : PySem.W.isFn K (.ref f_Case_init) = true)
    (l_Case_init : K.lookup f_Case_init = some ⟨oc_Case_init, od_Case_init, .func (PySem.W.fnOf "__init__" "Case.__init__" (defArgs s_Case_init) (defBody s_Case_init) (defScope s_Case_init) .none kV_Case_init dc_Case_init pm_Case_init an_Case_init cd_Case_init ct_Case_init), sl_Case_init⟩)
    (c_Case_init : PySem.W.codeIn K cd_Case_init "Case.__init__" = true)
    (q_Case_init : PySem.W.keepIn K (.ref f_Case_init) = true)
    (a_Case_count : PySem.W.findIn K (.ref cC) "count" = some (some (.ref f_Case_count)))
    (i_Case_count : PySem.W.isFn K (.ref f_Case_count) = true)
    (l_Case_count : K.lookup f_Case_count = some ⟨oc_Case_count, od_Case_count, .func (PySem.W.fnOf "count" "Case.count" (defArgs s_Case_count) (defBody s_Case_count) (defScope s_Case_count) .none kV_Case_count dc_Case_count pm_Case_count an_Case_count cd_Case_count ct_Case_count), sl_Case_count⟩)
    (c_Case_count : PySem.W.codeIn K cd_Case_count "Case.count" = true)
    (q_Case_count : PySem.W.keepIn K (.ref f_Case_count) = true)
    (a_Case_length : PySem.W.findIn K (.ref cC) "length" = some (some (.ref f_Case_length)))
    (i_Case_length : PySem.W.isFn K (.ref f_Case_length) = true)
    (l_Case_length : K.lookup f_Case_length = some ⟨oc_Case_length, od_Case_length, .func (PySem.W.fnOf "length" "Case.length" (defArgs s_Case_length) (defBody s_Case_length) (defScope s_Case_length) .none kV_Case_length dc_Case_length pm_Case_length an_Case_length cd_Case_length ct_Case_length), sl_Case_length⟩)
    (c_Case_length : PySem.W.codeIn K cd_Case_length "Case.length" = true)
    (q_Case_length : PySem.W.keepIn K (.ref f_Case_length) = true)
    (a_Case_total : PySem.W.findIn K (.ref cC) "total" = some (some (.ref f_Case_total)))
    (i_Case_total : PySem.W.isFn K (.ref f_Case_total) = true)
    (l_Case_total : K.lookup f_Case_total = some ⟨oc_Case_total, od_Case_total, .func (PySem.W.fnOf "total" "Case.total" (defArgs s_Case_total) (defBody s_Case_total) (defScope s_Case_total) .none kV_Case_total dc_Case_total pm_Case_total an_Case_total cd_Case_total ct_Case_total), sl_Case_total⟩)
    (c_Case_total : PySem.W.codeIn K cd_Case_total "Case.total" = true)
    (q_Case_total : PySem.W.keepIn K (.ref f_Case_total) = true)
    (a_Case_with_minutes : PySem.W.findIn K (.ref cC) "with_minutes" = some (some (.ref f_Case_with_minutes)))
    (i_Case_with_minutes : PySem.W.isFn K (.ref f_Case_with_minutes) = true)
    (l_Case_with_minutes : K.lookup f_Case_with_minutes = some ⟨oc_Case_with_minutes, od_Case_with_minutes, .func (PySem.W.fnOf "with_minutes" "Case.with_minutes" (defArgs s_Case_with_minutes) (defBody s_Case_with_minutes) (defScope s_Case_with_minutes) .none kV_Case_with_minutes dc_Case_with_minutes pm_Case_with_minutes an_Case_with_minutes cd_Case_with_minutes ct_Case_with_minutes), sl_Case_with_minutes⟩)
    (c_Case_with_minutes : PySem.W.codeIn K cd_Case_with_minutes "Case.with_minutes" = true)
    (q_Case_with_minutes : PySem.W.keepIn K (.ref f_Case_with_minutes) = true)
    (a_Case_with_arrivals : PySem.W.findIn K (.ref cC) "with_arrivals" = some (some (.ref f_Case_with_arrivals)))
    (i_Case_with_arrivals : PySem.W.isFn K (.ref f_Case_with_arrivals) = true)
    (l_Case_with_arrivals : K.lookup f_Case_with_arrivals = some ⟨oc_Case_with_arrivals, od_Case_with_arrivals, .func (PySem.W.fnOf "with_arrivals" "Case.with_arrivals" (defArgs s_Case_with_arrivals) (defBody s_Case_with_arrivals) (defScope s_Case_with_arrivals) .none kV_Case_with_arrivals dc_Case_with_arrivals pm_Case_with_arrivals an_Case_with_arrivals cd_Case_with_arrivals ct_Case_with_arrivals), sl_Case_with_arrivals⟩)
    (c_Case_with_arrivals : PySem.W.codeIn K cd_Case_with_arrivals "Case.with_arrivals" = true)
    (q_Case_with_arrivals : PySem.W.keepIn K (.ref f_Case_with_arrivals) = true)
    (a_Case_with_per_gate : PySem.W.findIn K (.ref cC) "with_per_gate" = some (some (.ref f_Case_with_per_gate)))
    (i_Case_with_per_gate : PySem.W.isFn K (.ref f_Case_with_per_gate) = true)
    (l_Case_with_per_gate : K.lookup f_Case_with_per_gate = some ⟨oc_Case_with_per_gate, od_Case_with_per_gate, .func (PySem.W.fnOf "with_per_gate" "Case.with_per_gate" (defArgs s_Case_with_per_gate) (defBody s_Case_with_per_gate) (defScope s_Case_with_per_gate) .none kV_Case_with_per_gate dc_Case_with_per_gate pm_Case_with_per_gate an_Case_with_per_gate cd_Case_with_per_gate ct_Case_with_per_gate), sl_Case_with_per_gate⟩)
    (c_Case_with_per_gate : PySem.W.codeIn K cd_Case_with_per_gate "Case.with_per_gate" = true)
    (q_Case_with_per_gate : PySem.W.keepIn K (.ref f_Case_with_per_gate) = true)
    (a_Case_with_max_gates : PySem.W.findIn K (.ref cC) "with_max_gates" = some (some (.ref f_Case_with_max_gates)))
    (i_Case_with_max_gates : PySem.W.isFn K (.ref f_Case_with_max_gates) = true)
    (l_Case_with_max_gates : K.lookup f_Case_with_max_gates = some ⟨oc_Case_with_max_gates, od_Case_with_max_gates, .func (PySem.W.fnOf "with_max_gates" "Case.with_max_gates" (defArgs s_Case_with_max_gates) (defBody s_Case_with_max_gates) (defScope s_Case_with_max_gates) .none kV_Case_with_max_gates dc_Case_with_max_gates pm_Case_with_max_gates an_Case_with_max_gates cd_Case_with_max_gates ct_Case_with_max_gates), sl_Case_with_max_gates⟩)
    (c_Case_with_max_gates : PySem.W.codeIn K cd_Case_with_max_gates "Case.with_max_gates" = true)
    (q_Case_with_max_gates : PySem.W.keepIn K (.ref f_Case_with_max_gates) = true)
    (a_Case_with_max_wait : PySem.W.findIn K (.ref cC) "with_max_wait" = some (some (.ref f_Case_with_max_wait)))
    (i_Case_with_max_wait : PySem.W.isFn K (.ref f_Case_with_max_wait) = true)
    (l_Case_with_max_wait : K.lookup f_Case_with_max_wait = some ⟨oc_Case_with_max_wait, od_Case_with_max_wait, .func (PySem.W.fnOf "with_max_wait" "Case.with_max_wait" (defArgs s_Case_with_max_wait) (defBody s_Case_with_max_wait) (defScope s_Case_with_max_wait) .none kV_Case_with_max_wait dc_Case_with_max_wait pm_Case_with_max_wait an_Case_with_max_wait cd_Case_with_max_wait ct_Case_with_max_wait), sl_Case_with_max_wait⟩)
    (c_Case_with_max_wait : PySem.W.codeIn K cd_Case_with_max_wait "Case.with_max_wait" = true)
    (q_Case_with_max_wait : PySem.W.keepIn K (.ref f_Case_with_max_wait) = true)
    (a_require : PySem.W.nsIn K mainGlobals "require" = some (some (.ref f_require)))
    (l_require : K.lookup f_require = some ⟨oc_require, od_require, .func (PySem.W.fnOf "require" "require" (defArgs s_require) (defBody s_require) (defScope s_require) .none kV_require dc_require pm_require an_require cd_require ct_require), sl_require⟩)
    (c_require : PySem.W.codeIn K cd_require "require" = true)
    (q_require : PySem.W.keepIn K (.ref f_require) = true)
    (a_add_minute : PySem.W.nsIn K mainGlobals "add_minute" = some (some (.ref f_add_minute)))
    (l_add_minute : K.lookup f_add_minute = some ⟨oc_add_minute, od_add_minute, .func (PySem.W.fnOf "add_minute" "add_minute" (defArgs s_add_minute) (defBody s_add_minute) (defScope s_add_minute) .none kV_add_minute dc_add_minute pm_add_minute an_add_minute cd_add_minute ct_add_minute), sl_add_minute⟩)
    (c_add_minute : PySem.W.codeIn K cd_add_minute "add_minute" = true)
    (q_add_minute : PySem.W.keepIn K (.ref f_add_minute) = true)
    (a_set_arrivals : PySem.W.nsIn K mainGlobals "set_arrivals" = some (some (.ref f_set_arrivals)))
    (l_set_arrivals : K.lookup f_set_arrivals = some ⟨oc_set_arrivals, od_set_arrivals, .func (PySem.W.fnOf "set_arrivals" "set_arrivals" (defArgs s_set_arrivals) (defBody s_set_arrivals) (defScope s_set_arrivals) .none kV_set_arrivals dc_set_arrivals pm_set_arrivals an_set_arrivals cd_set_arrivals ct_set_arrivals), sl_set_arrivals⟩)
    (c_set_arrivals : PySem.W.codeIn K cd_set_arrivals "set_arrivals" = true)
    (q_set_arrivals : PySem.W.keepIn K (.ref f_set_arrivals) = true)
    (a_remove_last_minute : PySem.W.nsIn K mainGlobals "remove_last_minute" = some (some (.ref f_remove_last_minute)))
    (l_remove_last_minute : K.lookup f_remove_last_minute = some ⟨oc_remove_last_minute, od_remove_last_minute, .func (PySem.W.fnOf "remove_last_minute" "remove_last_minute" (defArgs s_remove_last_minute) (defBody s_remove_last_minute) (defScope s_remove_last_minute) .none kV_remove_last_minute dc_remove_last_minute pm_remove_last_minute an_remove_last_minute cd_remove_last_minute ct_remove_last_minute), sl_remove_last_minute⟩)
    (c_remove_last_minute : PySem.W.codeIn K cd_remove_last_minute "remove_last_minute" = true)
    (q_remove_last_minute : PySem.W.keepIn K (.ref f_remove_last_minute) = true)
    (a_set_per_gate : PySem.W.nsIn K mainGlobals "set_per_gate" = some (some (.ref f_set_per_gate)))
    (l_set_per_gate : K.lookup f_set_per_gate = some ⟨oc_set_per_gate, od_set_per_gate, .func (PySem.W.fnOf "set_per_gate" "set_per_gate" (defArgs s_set_per_gate) (defBody s_set_per_gate) (defScope s_set_per_gate) .none kV_set_per_gate dc_set_per_gate pm_set_per_gate an_set_per_gate cd_set_per_gate ct_set_per_gate), sl_set_per_gate⟩)
    (c_set_per_gate : PySem.W.codeIn K cd_set_per_gate "set_per_gate" = true)
    (q_set_per_gate : PySem.W.keepIn K (.ref f_set_per_gate) = true)
    (a_set_max_gates : PySem.W.nsIn K mainGlobals "set_max_gates" = some (some (.ref f_set_max_gates)))
    (l_set_max_gates : K.lookup f_set_max_gates = some ⟨oc_set_max_gates, od_set_max_gates, .func (PySem.W.fnOf "set_max_gates" "set_max_gates" (defArgs s_set_max_gates) (defBody s_set_max_gates) (defScope s_set_max_gates) .none kV_set_max_gates dc_set_max_gates pm_set_max_gates an_set_max_gates cd_set_max_gates ct_set_max_gates), sl_set_max_gates⟩)
    (c_set_max_gates : PySem.W.codeIn K cd_set_max_gates "set_max_gates" = true)
    (q_set_max_gates : PySem.W.keepIn K (.ref f_set_max_gates) = true)
    (a_set_max_wait : PySem.W.nsIn K mainGlobals "set_max_wait" = some (some (.ref f_set_max_wait)))
    (l_set_max_wait : K.lookup f_set_max_wait = some ⟨oc_set_max_wait, od_set_max_wait, .func (PySem.W.fnOf "set_max_wait" "set_max_wait" (defArgs s_set_max_wait) (defBody s_set_max_wait) (defScope s_set_max_wait) .none kV_set_max_wait dc_set_max_wait pm_set_max_wait an_set_max_wait cd_set_max_wait ct_set_max_wait), sl_set_max_wait⟩)
    (c_set_max_wait : PySem.W.codeIn K cd_set_max_wait "set_max_wait" = true)
    (q_set_max_wait : PySem.W.keepIn K (.ref f_set_max_wait) = true)
    (a_changed : PySem.W.nsIn K mainGlobals "changed" = some (some (.ref f_changed)))
    (l_changed : K.lookup f_changed = some ⟨oc_changed, od_changed, .func (PySem.W.fnOf "changed" "changed" (defArgs s_changed) (defBody s_changed) (defScope s_changed) .none kV_changed dc_changed pm_changed an_changed cd_changed ct_changed), sl_changed⟩)
    (c_changed : PySem.W.codeIn K cd_changed "changed" = true)
    (q_changed : PySem.W.keepIn K (.ref f_changed) = true)
    (a_room : PySem.W.nsIn K mainGlobals "room" = some (some (.ref f_room)))
    (l_room : K.lookup f_room = some ⟨oc_room, od_room, .func (PySem.W.fnOf "room" "room" (defArgs s_room) (defBody s_room) (defScope s_room) .none kV_room dc_room pm_room an_room cd_room ct_room), sl_room⟩)
    (c_room : PySem.W.codeIn K cd_room "room" = true)
    (q_room : PySem.W.keepIn K (.ref f_room) = true)
    (a_infeasible_interval : PySem.W.nsIn K mainGlobals "infeasible_interval" = some (some (.ref f_infeasible_interval)))
    (l_infeasible_interval : K.lookup f_infeasible_interval = some ⟨oc_infeasible_interval, od_infeasible_interval, .func (PySem.W.fnOf "infeasible_interval" "infeasible_interval" (defArgs s_infeasible_interval) (defBody s_infeasible_interval) (defScope s_infeasible_interval) .none kV_infeasible_interval dc_infeasible_interval pm_infeasible_interval an_infeasible_interval cd_infeasible_interval ct_infeasible_interval), sl_infeasible_interval⟩)
    (c_infeasible_interval : PySem.W.codeIn K cd_infeasible_interval "infeasible_interval" = true)
    (q_infeasible_interval : PySem.W.keepIn K (.ref f_infeasible_interval) = true)
    (a_is_possible : PySem.W.nsIn K mainGlobals "is_possible" = some (some (.ref f_is_possible)))
    (l_is_possible : K.lookup f_is_possible = some ⟨oc_is_possible, od_is_possible, .func (PySem.W.fnOf "is_possible" "is_possible" (defArgs s_is_possible) (defBody s_is_possible) (defScope s_is_possible) .none kV_is_possible dc_is_possible pm_is_possible an_is_possible cd_is_possible ct_is_possible), sl_is_possible⟩)
    (c_is_possible : PySem.W.codeIn K cd_is_possible "is_possible" = true)
    (q_is_possible : PySem.W.keepIn K (.ref f_is_possible) = true)
    (a_needed : PySem.W.nsIn K mainGlobals "needed" = some (some (.ref f_needed)))
    (l_needed : K.lookup f_needed = some ⟨oc_needed, od_needed, .func (PySem.W.fnOf "needed" "needed" (defArgs s_needed) (defBody s_needed) (defScope s_needed) .none kV_needed dc_needed pm_needed an_needed cd_needed ct_needed), sl_needed⟩)
    (c_needed : PySem.W.codeIn K cd_needed "needed" = true)
    (q_needed : PySem.W.keepIn K (.ref f_needed) = true)
    (a_raised : PySem.W.nsIn K mainGlobals "raised" = some (some (.ref f_raised)))
    (l_raised : K.lookup f_raised = some ⟨oc_raised, od_raised, .func (PySem.W.fnOf "raised" "raised" (defArgs s_raised) (defBody s_raised) (defScope s_raised) .none kV_raised dc_raised pm_raised an_raised cd_raised ct_raised), sl_raised⟩)
    (c_raised : PySem.W.codeIn K cd_raised "raised" = true)
    (q_raised : PySem.W.keepIn K (.ref f_raised) = true)
    (a_least_sums : PySem.W.nsIn K mainGlobals "least_sums" = some (some (.ref f_least_sums)))
    (l_least_sums : K.lookup f_least_sums = some ⟨oc_least_sums, od_least_sums, .func (PySem.W.fnOf "least_sums" "least_sums" (defArgs s_least_sums) (defBody s_least_sums) (defScope s_least_sums) .none kV_least_sums dc_least_sums pm_least_sums an_least_sums cd_least_sums ct_least_sums), sl_least_sums⟩)
    (c_least_sums : PySem.W.codeIn K cd_least_sums "least_sums" = true)
    (q_least_sums : PySem.W.keepIn K (.ref f_least_sums) = true)
    (a_best_schedule : PySem.W.nsIn K mainGlobals "best_schedule" = some (some (.ref f_best_schedule)))
    (l_best_schedule : K.lookup f_best_schedule = some ⟨oc_best_schedule, od_best_schedule, .func (PySem.W.fnOf "best_schedule" "best_schedule" (defArgs s_best_schedule) (defBody s_best_schedule) (defScope s_best_schedule) .none kV_best_schedule dc_best_schedule pm_best_schedule an_best_schedule cd_best_schedule ct_best_schedule), sl_best_schedule⟩)
    (c_best_schedule : PySem.W.codeIn K cd_best_schedule "best_schedule" = true)
    (q_best_schedule : PySem.W.keepIn K (.ref f_best_schedule) = true)
    (a_arriving : PySem.W.nsIn K mainGlobals "arriving" = some (some (.ref f_arriving)))
    (l_arriving : K.lookup f_arriving = some ⟨oc_arriving, od_arriving, .func (PySem.W.fnOf "arriving" "arriving" (defArgs s_arriving) (defBody s_arriving) (defScope s_arriving) .none kV_arriving dc_arriving pm_arriving an_arriving cd_arriving ct_arriving), sl_arriving⟩)
    (c_arriving : PySem.W.codeIn K cd_arriving "arriving" = true)
    (q_arriving : PySem.W.keepIn K (.ref f_arriving) = true)
    (a_admissions : PySem.W.nsIn K mainGlobals "admissions" = some (some (.ref f_admissions)))
    (l_admissions : K.lookup f_admissions = some ⟨oc_admissions, od_admissions, .func (PySem.W.fnOf "admissions" "admissions" (defArgs s_admissions) (defBody s_admissions) (defScope s_admissions) .none kV_admissions dc_admissions pm_admissions an_admissions cd_admissions ct_admissions), sl_admissions⟩)
    (c_admissions : PySem.W.codeIn K cd_admissions "admissions" = true)
    (q_admissions : PySem.W.keepIn K (.ref f_admissions) = true)
    (a_are_all_admitted : PySem.W.nsIn K mainGlobals "are_all_admitted" = some (some (.ref f_are_all_admitted)))
    (l_are_all_admitted : K.lookup f_are_all_admitted = some ⟨oc_are_all_admitted, od_are_all_admitted, .func (PySem.W.fnOf "are_all_admitted" "are_all_admitted" (defArgs s_are_all_admitted) (defBody s_are_all_admitted) (defScope s_are_all_admitted) .none kV_are_all_admitted dc_are_all_admitted pm_are_all_admitted an_are_all_admitted cd_are_all_admitted ct_are_all_admitted), sl_are_all_admitted⟩)
    (c_are_all_admitted : PySem.W.codeIn K cd_are_all_admitted "are_all_admitted" = true)
    (q_are_all_admitted : PySem.W.keepIn K (.ref f_are_all_admitted) = true)
    (a_minute_admitted : PySem.W.nsIn K mainGlobals "minute_admitted" = some (some (.ref f_minute_admitted)))
    (l_minute_admitted : K.lookup f_minute_admitted = some ⟨oc_minute_admitted, od_minute_admitted, .func (PySem.W.fnOf "minute_admitted" "minute_admitted" (defArgs s_minute_admitted) (defBody s_minute_admitted) (defScope s_minute_admitted) .none kV_minute_admitted dc_minute_admitted pm_minute_admitted an_minute_admitted cd_minute_admitted ct_minute_admitted), sl_minute_admitted⟩)
    (c_minute_admitted : PySem.W.codeIn K cd_minute_admitted "minute_admitted" = true)
    (q_minute_admitted : PySem.W.keepIn K (.ref f_minute_admitted) = true)
    (a_longest_wait : PySem.W.nsIn K mainGlobals "longest_wait" = some (some (.ref f_longest_wait)))
    (l_longest_wait : K.lookup f_longest_wait = some ⟨oc_longest_wait, od_longest_wait, .func (PySem.W.fnOf "longest_wait" "longest_wait" (defArgs s_longest_wait) (defBody s_longest_wait) (defScope s_longest_wait) .none kV_longest_wait dc_longest_wait pm_longest_wait an_longest_wait cd_longest_wait ct_longest_wait), sl_longest_wait⟩)
    (c_longest_wait : PySem.W.codeIn K cd_longest_wait "longest_wait" = true)
    (q_longest_wait : PySem.W.keepIn K (.ref f_longest_wait) = true)
    (a_is_enough : PySem.W.nsIn K mainGlobals "is_enough" = some (some (.ref f_is_enough)))
    (l_is_enough : K.lookup f_is_enough = some ⟨oc_is_enough, od_is_enough, .func (PySem.W.fnOf "is_enough" "is_enough" (defArgs s_is_enough) (defBody s_is_enough) (defScope s_is_enough) .none kV_is_enough dc_is_enough pm_is_enough an_is_enough cd_is_enough ct_is_enough), sl_is_enough⟩)
    (c_is_enough : PySem.W.codeIn K cd_is_enough "is_enough" = true)
    (q_is_enough : PySem.W.keepIn K (.ref f_is_enough) = true)
    (a_is_feasible : PySem.W.nsIn K mainGlobals "is_feasible" = some (some (.ref f_is_feasible)))
    (l_is_feasible : K.lookup f_is_feasible = some ⟨oc_is_feasible, od_is_feasible, .func (PySem.W.fnOf "is_feasible" "is_feasible" (defArgs s_is_feasible) (defBody s_is_feasible) (defScope s_is_feasible) .none kV_is_feasible dc_is_feasible pm_is_feasible an_is_feasible cd_is_feasible ct_is_feasible), sl_is_feasible⟩)
    (c_is_feasible : PySem.W.codeIn K cd_is_feasible "is_feasible" = true)
    (q_is_feasible : PySem.W.keepIn K (.ref f_is_feasible) = true)
    (a_counted : PySem.W.nsIn K mainGlobals "counted" = some (some (.ref f_counted)))
    (l_counted : K.lookup f_counted = some ⟨oc_counted, od_counted, .func (PySem.W.fnOf "counted" "counted" (defArgs s_counted) (defBody s_counted) (defScope s_counted) .none kV_counted dc_counted pm_counted an_counted cd_counted ct_counted), sl_counted⟩)
    (c_counted : PySem.W.codeIn K cd_counted "counted" = true)
    (q_counted : PySem.W.keepIn K (.ref f_counted) = true)
    (a_told_best : PySem.W.nsIn K mainGlobals "told_best" = some (some (.ref f_told_best)))
    (l_told_best : K.lookup f_told_best = some ⟨oc_told_best, od_told_best, .func (PySem.W.fnOf "told_best" "told_best" (defArgs s_told_best) (defBody s_told_best) (defScope s_told_best) .none kV_told_best dc_told_best pm_told_best an_told_best cd_told_best ct_told_best), sl_told_best⟩)
    (c_told_best : PySem.W.codeIn K cd_told_best "told_best" = true)
    (q_told_best : PySem.W.keepIn K (.ref f_told_best) = true)
    (a_told_gate_minutes : PySem.W.nsIn K mainGlobals "told_gate_minutes" = some (some (.ref f_told_gate_minutes)))
    (l_told_gate_minutes : K.lookup f_told_gate_minutes = some ⟨oc_told_gate_minutes, od_told_gate_minutes, .func (PySem.W.fnOf "told_gate_minutes" "told_gate_minutes" (defArgs s_told_gate_minutes) (defBody s_told_gate_minutes) (defScope s_told_gate_minutes) .none kV_told_gate_minutes dc_told_gate_minutes pm_told_gate_minutes an_told_gate_minutes cd_told_gate_minutes ct_told_gate_minutes), sl_told_gate_minutes⟩)
    (c_told_gate_minutes : PySem.W.codeIn K cd_told_gate_minutes "told_gate_minutes" = true)
    (q_told_gate_minutes : PySem.W.keepIn K (.ref f_told_gate_minutes) = true)
    (a_told_interval : PySem.W.nsIn K mainGlobals "told_interval" = some (some (.ref f_told_interval)))
    (l_told_interval : K.lookup f_told_interval = some ⟨oc_told_interval, od_told_interval, .func (PySem.W.fnOf "told_interval" "told_interval" (defArgs s_told_interval) (defBody s_told_interval) (defScope s_told_interval) .none kV_told_interval dc_told_interval pm_told_interval an_told_interval cd_told_interval ct_told_interval), sl_told_interval⟩)
    (c_told_interval : PySem.W.codeIn K cd_told_interval "told_interval" = true)
    (q_told_interval : PySem.W.keepIn K (.ref f_told_interval) = true)
    (a_require_schedule : PySem.W.nsIn K mainGlobals "require_schedule" = some (some (.ref f_require_schedule)))
    (l_require_schedule : K.lookup f_require_schedule = some ⟨oc_require_schedule, od_require_schedule, .func (PySem.W.fnOf "require_schedule" "require_schedule" (defArgs s_require_schedule) (defBody s_require_schedule) (defScope s_require_schedule) .none kV_require_schedule dc_require_schedule pm_require_schedule an_require_schedule cd_require_schedule ct_require_schedule), sl_require_schedule⟩)
    (c_require_schedule : PySem.W.codeIn K cd_require_schedule "require_schedule" = true)
    (q_require_schedule : PySem.W.keepIn K (.ref f_require_schedule) = true)
    (a_told_of_schedule : PySem.W.nsIn K mainGlobals "told_of_schedule" = some (some (.ref f_told_of_schedule)))
    (l_told_of_schedule : K.lookup f_told_of_schedule = some ⟨oc_told_of_schedule, od_told_of_schedule, .func (PySem.W.fnOf "told_of_schedule" "told_of_schedule" (defArgs s_told_of_schedule) (defBody s_told_of_schedule) (defScope s_told_of_schedule) .none kV_told_of_schedule dc_told_of_schedule pm_told_of_schedule an_told_of_schedule cd_told_of_schedule ct_told_of_schedule), sl_told_of_schedule⟩)
    (c_told_of_schedule : PySem.W.codeIn K cd_told_of_schedule "told_of_schedule" = true)
    (q_told_of_schedule : PySem.W.keepIn K (.ref f_told_of_schedule) = true)
    (a_min_max_gates : PySem.W.nsIn K mainGlobals "min_max_gates" = some (some (.ref f_min_max_gates)))
    (l_min_max_gates : K.lookup f_min_max_gates = some ⟨oc_min_max_gates, od_min_max_gates, .func (PySem.W.fnOf "min_max_gates" "min_max_gates" (defArgs s_min_max_gates) (defBody s_min_max_gates) (defScope s_min_max_gates) .none kV_min_max_gates dc_min_max_gates pm_min_max_gates an_min_max_gates cd_min_max_gates ct_min_max_gates), sl_min_max_gates⟩)
    (c_min_max_gates : PySem.W.codeIn K cd_min_max_gates "min_max_gates" = true)
    (q_min_max_gates : PySem.W.keepIn K (.ref f_min_max_gates) = true)
    (a_min_max_wait : PySem.W.nsIn K mainGlobals "min_max_wait" = some (some (.ref f_min_max_wait)))
    (l_min_max_wait : K.lookup f_min_max_wait = some ⟨oc_min_max_wait, od_min_max_wait, .func (PySem.W.fnOf "min_max_wait" "min_max_wait" (defArgs s_min_max_wait) (defBody s_min_max_wait) (defScope s_min_max_wait) .none kV_min_max_wait dc_min_max_wait pm_min_max_wait an_min_max_wait cd_min_max_wait ct_min_max_wait), sl_min_max_wait⟩)
    (c_min_max_wait : PySem.W.codeIn K cd_min_max_wait "min_max_wait" = true)
    (q_min_max_wait : PySem.W.keepIn K (.ref f_min_max_wait) = true)
    (a_if_arrivals : PySem.W.nsIn K mainGlobals "if_arrivals" = some (some (.ref f_if_arrivals)))
    (l_if_arrivals : K.lookup f_if_arrivals = some ⟨oc_if_arrivals, od_if_arrivals, .func (PySem.W.fnOf "if_arrivals" "if_arrivals" (defArgs s_if_arrivals) (defBody s_if_arrivals) (defScope s_if_arrivals) .none kV_if_arrivals dc_if_arrivals pm_if_arrivals an_if_arrivals cd_if_arrivals ct_if_arrivals), sl_if_arrivals⟩)
    (c_if_arrivals : PySem.W.codeIn K cd_if_arrivals "if_arrivals" = true)
    (q_if_arrivals : PySem.W.keepIn K (.ref f_if_arrivals) = true)
    (a_if_max_wait : PySem.W.nsIn K mainGlobals "if_max_wait" = some (some (.ref f_if_max_wait)))
    (l_if_max_wait : K.lookup f_if_max_wait = some ⟨oc_if_max_wait, od_if_max_wait, .func (PySem.W.fnOf "if_max_wait" "if_max_wait" (defArgs s_if_max_wait) (defBody s_if_max_wait) (defScope s_if_max_wait) .none kV_if_max_wait dc_if_max_wait pm_if_max_wait an_if_max_wait cd_if_max_wait ct_if_max_wait), sl_if_max_wait⟩)
    (c_if_max_wait : PySem.W.codeIn K cd_if_max_wait "if_max_wait" = true)
    (q_if_max_wait : PySem.W.keepIn K (.ref f_if_max_wait) = true)
    (a_max_arrivals : PySem.W.nsIn K mainGlobals "max_arrivals" = some (some (.ref f_max_arrivals)))
    (l_max_arrivals : K.lookup f_max_arrivals = some ⟨oc_max_arrivals, od_max_arrivals, .func (PySem.W.fnOf "max_arrivals" "max_arrivals" (defArgs s_max_arrivals) (defBody s_max_arrivals) (defScope s_max_arrivals) .none kV_max_arrivals dc_max_arrivals pm_max_arrivals an_max_arrivals cd_max_arrivals ct_max_arrivals), sl_max_arrivals⟩)
    (c_max_arrivals : PySem.W.codeIn K cd_max_arrivals "max_arrivals" = true)
    (q_max_arrivals : PySem.W.keepIn K (.ref f_max_arrivals) = true)
    (a_total_arrivals : PySem.W.nsIn K mainGlobals "total_arrivals" = some (some (.ref f_total_arrivals)))
    (l_total_arrivals : K.lookup f_total_arrivals = some ⟨oc_total_arrivals, od_total_arrivals, .func (PySem.W.fnOf "total_arrivals" "total_arrivals" (defArgs s_total_arrivals) (defBody s_total_arrivals) (defScope s_total_arrivals) .none kV_total_arrivals dc_total_arrivals pm_total_arrivals an_total_arrivals cd_total_arrivals ct_total_arrivals), sl_total_arrivals⟩)
    (c_total_arrivals : PySem.W.codeIn K cd_total_arrivals "total_arrivals" = true)
    (q_total_arrivals : PySem.W.keepIn K (.ref f_total_arrivals) = true)
    (a_told_state : PySem.W.nsIn K mainGlobals "told_state" = some (some (.ref f_told_state)))
    (l_told_state : K.lookup f_told_state = some ⟨oc_told_state, od_told_state, .func (PySem.W.fnOf "told_state" "told_state" (defArgs s_told_state) (defBody s_told_state) (defScope s_told_state) .none kV_told_state dc_told_state pm_told_state an_told_state cd_told_state ct_told_state), sl_told_state⟩)
    (c_told_state : PySem.W.codeIn K cd_told_state "told_state" = true)
    (q_told_state : PySem.W.keepIn K (.ref f_told_state) = true)
    (a_told_plainly : PySem.W.nsIn K mainGlobals "told_plainly" = some (some (.ref f_told_plainly)))
    (l_told_plainly : K.lookup f_told_plainly = some ⟨oc_told_plainly, od_told_plainly, .func (PySem.W.fnOf "told_plainly" "told_plainly" (defArgs s_told_plainly) (defBody s_told_plainly) (defScope s_told_plainly) .none kV_told_plainly dc_told_plainly pm_told_plainly an_told_plainly cd_told_plainly ct_told_plainly), sl_told_plainly⟩)
    (c_told_plainly : PySem.W.codeIn K cd_told_plainly "told_plainly" = true)
    (q_told_plainly : PySem.W.keepIn K (.ref f_told_plainly) = true)
    (a_told : PySem.W.nsIn K mainGlobals "told" = some (some (.ref f_told)))
    (l_told : K.lookup f_told = some ⟨oc_told, od_told, .func (PySem.W.fnOf "told" "told" (defArgs s_told) (defBody s_told) (defScope s_told) .none kV_told dc_told pm_told an_told cd_told ct_told), sl_told⟩)
    (c_told : PySem.W.codeIn K cd_told "told" = true)
    (q_told : PySem.W.keepIn K (.ref f_told) = true)
    (a_Session_init : PySem.W.findIn K (.ref cS) "__init__" = some (some (.ref f_Session_init)))
    (i_Session_init : PySem.W.isFn K (.ref f_Session_init) = true)
    (l_Session_init : K.lookup f_Session_init = some ⟨oc_Session_init, od_Session_init, .func (PySem.W.fnOf "__init__" "Session.__init__" (defArgs s_Session_init) (defBody s_Session_init) (defScope s_Session_init) .none kV_Session_init dc_Session_init pm_Session_init an_Session_init cd_Session_init ct_Session_init), sl_Session_init⟩)
    (c_Session_init : PySem.W.codeIn K cd_Session_init "Session.__init__" = true)
    (q_Session_init : PySem.W.keepIn K (.ref f_Session_init) = true)
    (a_Session_create : PySem.W.findIn K (.ref cS) "create" = some (some (.ref f_Session_create)))
    (i_Session_create : PySem.W.isFn K (.ref f_Session_create) = true)
    (l_Session_create : K.lookup f_Session_create = some ⟨oc_Session_create, od_Session_create, .func (PySem.W.fnOf "create" "Session.create" (defArgs s_Session_create) (defBody s_Session_create) (defScope s_Session_create) .none kV_Session_create dc_Session_create pm_Session_create an_Session_create cd_Session_create ct_Session_create), sl_Session_create⟩)
    (c_Session_create : PySem.W.codeIn K cd_Session_create "Session.create" = true)
    (q_Session_create : PySem.W.keepIn K (.ref f_Session_create) = true)
    (a_Session_performed : PySem.W.findIn K (.ref cS) "performed" = some (some (.ref f_Session_performed)))
    (i_Session_performed : PySem.W.isFn K (.ref f_Session_performed) = true)
    (l_Session_performed : K.lookup f_Session_performed = some ⟨oc_Session_performed, od_Session_performed, .func (PySem.W.fnOf "performed" "Session.performed" (defArgs s_Session_performed) (defBody s_Session_performed) (defScope s_Session_performed) .none kV_Session_performed dc_Session_performed pm_Session_performed an_Session_performed cd_Session_performed ct_Session_performed), sl_Session_performed⟩)
    (c_Session_performed : PySem.W.codeIn K cd_Session_performed "Session.performed" = true)
    (q_Session_performed : PySem.W.keepIn K (.ref f_Session_performed) = true)
    (a_Session_answer : PySem.W.findIn K (.ref cS) "answer" = some (some (.ref f_Session_answer)))
    (i_Session_answer : PySem.W.isFn K (.ref f_Session_answer) = true)
    (l_Session_answer : K.lookup f_Session_answer = some ⟨oc_Session_answer, od_Session_answer, .func (PySem.W.fnOf "answer" "Session.answer" (defArgs s_Session_answer) (defBody s_Session_answer) (defScope s_Session_answer) .none kV_Session_answer dc_Session_answer pm_Session_answer an_Session_answer cd_Session_answer ct_Session_answer), sl_Session_answer⟩)
    (c_Session_answer : PySem.W.codeIn K cd_Session_answer "Session.answer" = true)
    (q_Session_answer : PySem.W.keepIn K (.ref f_Session_answer) = true)
    (a_answers : PySem.W.nsIn K mainGlobals "answers" = some (some (.ref f_answers)))
    (l_answers : K.lookup f_answers = some ⟨oc_answers, od_answers, .func (PySem.W.fnOf "answers" "answers" (defArgs s_answers) (defBody s_answers) (defScope s_answers) .none kV_answers dc_answers pm_answers an_answers cd_answers ct_answers), sl_answers⟩)
    (c_answers : PySem.W.codeIn K cd_answers "answers" = true)
    (q_answers : PySem.W.keepIn K (.ref f_answers) = true)
    : ∃ fd : FuncData, (∀ (s : Shared) (us : List Value), us.length = (["calls"] : List Str).length → BindsTo s fd ⟨us, []⟩ ((["calls"] : List Str).zip us)) ∧ ∀ base : Heap, K.In base → base.Ns mainGlobals mg → FnOk P w K mg base CX0 11 fa fd ["calls"] (sp_answers K) := by
  have e := hfa.symm.trans (PySem.W.mg_of X G a_answers)
  cases e
  have ref : GhX.RefTxt K mg cR fR :=
    { gC := PySem.W.mg_of X G aRef, gE := PySem.W.mg_none_of X G zE, vE := vE, cls := ⟨nm, qn, nN, bs, sn, sub, ab, col, ddR, m0, m1, m2, m3, m5, xR⟩, sa := saR, ga := gaR, gg := ggR, noN := noR, iC := iR, tC := tR, kC := kR, exC := eR, tyC := tyR, hdC := hdR, te := exm_self eR isR tyR suR, fn := ⟨_, _, _, _, _, _, _, _, lR, ccR⟩ }
  have F_Case_init := fun_mk (st := s_Case_init) l_Case_init c_Case_init q_Case_init
  have B_Case_init := F_Case_init.binds (ps := ["self", "arrivals", "per_gate", "max_gates", "max_wait"]) fun _ _ _ _ _ _ us hl => match us, hl with | [_, _, _, _, _], _ => rfl
  have F_Case_count := fun_mk (st := s_Case_count) l_Case_count c_Case_count q_Case_count
  have B_Case_count := F_Case_count.binds (ps := ["self"]) fun _ _ _ _ _ _ us hl => match us, hl with | [_], _ => rfl
  have F_Case_length := fun_mk (st := s_Case_length) l_Case_length c_Case_length q_Case_length
  have B_Case_length := F_Case_length.binds (ps := ["self"]) fun _ _ _ _ _ _ us hl => match us, hl with | [_], _ => rfl
  have F_Case_total := fun_mk (st := s_Case_total) l_Case_total c_Case_total q_Case_total
  have B_Case_total := F_Case_total.binds (ps := ["self", "first", "last"]) fun _ _ _ _ _ _ us hl => match us, hl with | [_, _, _], _ => rfl
  have F_Case_with_minutes := fun_mk (st := s_Case_with_minutes) l_Case_with_minutes c_Case_with_minutes q_Case_with_minutes
  have B_Case_with_minutes := F_Case_with_minutes.binds (ps := ["self", "arrivals"]) fun _ _ _ _ _ _ us hl => match us, hl with | [_, _], _ => rfl
  have F_Case_with_arrivals := fun_mk (st := s_Case_with_arrivals) l_Case_with_arrivals c_Case_with_arrivals q_Case_with_arrivals
  have B_Case_with_arrivals := F_Case_with_arrivals.binds (ps := ["self", "minute", "people"]) fun _ _ _ _ _ _ us hl => match us, hl with | [_, _, _], _ => rfl
  have F_Case_with_per_gate := fun_mk (st := s_Case_with_per_gate) l_Case_with_per_gate c_Case_with_per_gate q_Case_with_per_gate
  have B_Case_with_per_gate := F_Case_with_per_gate.binds (ps := ["self", "people"]) fun _ _ _ _ _ _ us hl => match us, hl with | [_, _], _ => rfl
  have F_Case_with_max_gates := fun_mk (st := s_Case_with_max_gates) l_Case_with_max_gates c_Case_with_max_gates q_Case_with_max_gates
  have B_Case_with_max_gates := F_Case_with_max_gates.binds (ps := ["self", "gates"]) fun _ _ _ _ _ _ us hl => match us, hl with | [_, _], _ => rfl
  have F_Case_with_max_wait := fun_mk (st := s_Case_with_max_wait) l_Case_with_max_wait c_Case_with_max_wait q_Case_with_max_wait
  have B_Case_with_max_wait := F_Case_with_max_wait.binds (ps := ["self", "minutes"]) fun _ _ _ _ _ _ us hl => match us, hl with | [_, _], _ => rfl
  have F_require := fun_mk (st := s_require) l_require c_require q_require
  have B_require := F_require.binds (ps := ["is_right", "code"]) fun _ _ _ _ _ _ us hl => match us, hl with | [_, _], _ => rfl
  have F_add_minute := fun_mk (st := s_add_minute) l_add_minute c_add_minute q_add_minute
  have B_add_minute := F_add_minute.binds (ps := ["case", "arrivals"]) fun _ _ _ _ _ _ us hl => match us, hl with | [_, _], _ => rfl
  have F_set_arrivals := fun_mk (st := s_set_arrivals) l_set_arrivals c_set_arrivals q_set_arrivals
  have B_set_arrivals := F_set_arrivals.binds (ps := ["case", "minute", "arrivals"]) fun _ _ _ _ _ _ us hl => match us, hl with | [_, _, _], _ => rfl
  have F_remove_last_minute := fun_mk (st := s_remove_last_minute) l_remove_last_minute c_remove_last_minute q_remove_last_minute
  have B_remove_last_minute := F_remove_last_minute.binds (ps := ["case"]) fun _ _ _ _ _ _ us hl => match us, hl with | [_], _ => rfl
  have F_set_per_gate := fun_mk (st := s_set_per_gate) l_set_per_gate c_set_per_gate q_set_per_gate
  have B_set_per_gate := F_set_per_gate.binds (ps := ["case", "people"]) fun _ _ _ _ _ _ us hl => match us, hl with | [_, _], _ => rfl
  have F_set_max_gates := fun_mk (st := s_set_max_gates) l_set_max_gates c_set_max_gates q_set_max_gates
  have B_set_max_gates := F_set_max_gates.binds (ps := ["case", "gates"]) fun _ _ _ _ _ _ us hl => match us, hl with | [_, _], _ => rfl
  have F_set_max_wait := fun_mk (st := s_set_max_wait) l_set_max_wait c_set_max_wait q_set_max_wait
  have B_set_max_wait := F_set_max_wait.binds (ps := ["case", "minutes"]) fun _ _ _ _ _ _ us hl => match us, hl with | [_, _], _ => rfl
  have F_changed := fun_mk (st := s_changed) l_changed c_changed q_changed
  have B_changed := F_changed.binds (ps := ["case", "number", "n"]) fun _ _ _ _ _ _ us hl => match us, hl with | [_, _, _], _ => rfl
  have F_room := fun_mk (st := s_room) l_room c_room q_room
  have B_room := F_room.binds (ps := ["case", "first", "last"]) fun _ _ _ _ _ _ us hl => match us, hl with | [_, _, _], _ => rfl
  have F_infeasible_interval := fun_mk (st := s_infeasible_interval) l_infeasible_interval c_infeasible_interval q_infeasible_interval
  have B_infeasible_interval := F_infeasible_interval.binds (ps := ["case"]) fun _ _ _ _ _ _ us hl => match us, hl with | [_], _ => rfl
  have F_is_possible := fun_mk (st := s_is_possible) l_is_possible c_is_possible q_is_possible
  have B_is_possible := F_is_possible.binds (ps := ["case"]) fun _ _ _ _ _ _ us hl => match us, hl with | [_], _ => rfl
  have F_needed := fun_mk (st := s_needed) l_needed c_needed q_needed
  have B_needed := F_needed.binds (ps := ["case", "first", "last"]) fun _ _ _ _ _ _ us hl => match us, hl with | [_, _, _], _ => rfl
  have F_raised := fun_mk (st := s_raised) l_raised c_raised q_raised
  have B_raised := F_raised.binds (ps := ["case", "sums"]) fun _ _ _ _ _ _ us hl => match us, hl with | [_, _], _ => rfl
  have F_least_sums := fun_mk (st := s_least_sums) l_least_sums c_least_sums q_least_sums
  have B_least_sums := F_least_sums.binds (ps := ["case"]) fun _ _ _ _ _ _ us hl => match us, hl with | [_], _ => rfl
  have F_best_schedule := fun_mk (st := s_best_schedule) l_best_schedule c_best_schedule q_best_schedule
  have B_best_schedule := F_best_schedule.binds (ps := ["case"]) fun _ _ _ _ _ _ us hl => match us, hl with | [_], _ => rfl
  have F_arriving := fun_mk (st := s_arriving) l_arriving c_arriving q_arriving
  have B_arriving := F_arriving.binds (ps := ["case", "minute"]) fun _ _ _ _ _ _ us hl => match us, hl with | [_, _], _ => rfl
  have F_admissions := fun_mk (st := s_admissions) l_admissions c_admissions q_admissions
  have B_admissions := F_admissions.binds (ps := ["case", "schedule"]) fun _ _ _ _ _ _ us hl => match us, hl with | [_, _], _ => rfl
  have F_are_all_admitted := fun_mk (st := s_are_all_admitted) l_are_all_admitted c_are_all_admitted q_are_all_admitted
  have B_are_all_admitted := F_are_all_admitted.binds (ps := ["case", "schedule"]) fun _ _ _ _ _ _ us hl => match us, hl with | [_, _], _ => rfl
  have F_minute_admitted := fun_mk (st := s_minute_admitted) l_minute_admitted c_minute_admitted q_minute_admitted
  have B_minute_admitted := F_minute_admitted.binds (ps := ["admitted", "people"]) fun _ _ _ _ _ _ us hl => match us, hl with | [_, _], _ => rfl
  have F_longest_wait := fun_mk (st := s_longest_wait) l_longest_wait c_longest_wait q_longest_wait
  have B_longest_wait := F_longest_wait.binds (ps := ["case", "schedule"]) fun _ _ _ _ _ _ us hl => match us, hl with | [_, _], _ => rfl
  have F_is_enough := fun_mk (st := s_is_enough) l_is_enough c_is_enough q_is_enough
  have B_is_enough := F_is_enough.binds (ps := ["case", "schedule", "first", "last"]) fun _ _ _ _ _ _ us hl => match us, hl with | [_, _, _, _], _ => rfl
  have F_is_feasible := fun_mk (st := s_is_feasible) l_is_feasible c_is_feasible q_is_feasible
  have B_is_feasible := F_is_feasible.binds (ps := ["case", "schedule"]) fun _ _ _ _ _ _ us hl => match us, hl with | [_, _], _ => rfl
  have F_counted := fun_mk (st := s_counted) l_counted c_counted q_counted
  have B_counted := F_counted.binds (ps := ["some"]) fun _ _ _ _ _ _ us hl => match us, hl with | [_], _ => rfl
  have F_told_best := fun_mk (st := s_told_best) l_told_best c_told_best q_told_best
  have B_told_best := F_told_best.binds (ps := ["case"]) fun _ _ _ _ _ _ us hl => match us, hl with | [_], _ => rfl
  have F_told_gate_minutes := fun_mk (st := s_told_gate_minutes) l_told_gate_minutes c_told_gate_minutes q_told_gate_minutes
  have B_told_gate_minutes := F_told_gate_minutes.binds (ps := ["case"]) fun _ _ _ _ _ _ us hl => match us, hl with | [_], _ => rfl
  have F_told_interval := fun_mk (st := s_told_interval) l_told_interval c_told_interval q_told_interval
  have B_told_interval := F_told_interval.binds (ps := ["case"]) fun _ _ _ _ _ _ us hl => match us, hl with | [_], _ => rfl
  have F_require_schedule := fun_mk (st := s_require_schedule) l_require_schedule c_require_schedule q_require_schedule
  have B_require_schedule := F_require_schedule.binds (ps := ["case", "schedule"]) fun _ _ _ _ _ _ us hl => match us, hl with | [_, _], _ => rfl
  have F_told_of_schedule := fun_mk (st := s_told_of_schedule) l_told_of_schedule c_told_of_schedule q_told_of_schedule
  have B_told_of_schedule := F_told_of_schedule.binds (ps := ["case", "number", "schedule"]) fun _ _ _ _ _ _ us hl => match us, hl with | [_, _, _], _ => rfl
  have F_min_max_gates := fun_mk (st := s_min_max_gates) l_min_max_gates c_min_max_gates q_min_max_gates
  have B_min_max_gates := F_min_max_gates.binds (ps := ["case"]) fun _ _ _ _ _ _ us hl => match us, hl with | [_], _ => rfl
  have F_min_max_wait := fun_mk (st := s_min_max_wait) l_min_max_wait c_min_max_wait q_min_max_wait
  have B_min_max_wait := F_min_max_wait.binds (ps := ["case"]) fun _ _ _ _ _ _ us hl => match us, hl with | [_], _ => rfl
  have F_if_arrivals := fun_mk (st := s_if_arrivals) l_if_arrivals c_if_arrivals q_if_arrivals
  have B_if_arrivals := F_if_arrivals.binds (ps := ["case", "minute", "arrivals"]) fun _ _ _ _ _ _ us hl => match us, hl with | [_, _, _], _ => rfl
  have F_if_max_wait := fun_mk (st := s_if_max_wait) l_if_max_wait c_if_max_wait q_if_max_wait
  have B_if_max_wait := F_if_max_wait.binds (ps := ["case", "minutes"]) fun _ _ _ _ _ _ us hl => match us, hl with | [_, _], _ => rfl
  have F_max_arrivals := fun_mk (st := s_max_arrivals) l_max_arrivals c_max_arrivals q_max_arrivals
  have B_max_arrivals := F_max_arrivals.binds (ps := ["case", "minute"]) fun _ _ _ _ _ _ us hl => match us, hl with | [_, _], _ => rfl
  have F_total_arrivals := fun_mk (st := s_total_arrivals) l_total_arrivals c_total_arrivals q_total_arrivals
  have B_total_arrivals := F_total_arrivals.binds (ps := ["case", "first", "last"]) fun _ _ _ _ _ _ us hl => match us, hl with | [_, _, _], _ => rfl
  have F_told_state := fun_mk (st := s_told_state) l_told_state c_told_state q_told_state
  have B_told_state := F_told_state.binds (ps := ["case"]) fun _ _ _ _ _ _ us hl => match us, hl with | [_], _ => rfl
  have F_told_plainly := fun_mk (st := s_told_plainly) l_told_plainly c_told_plainly q_told_plainly
  have B_told_plainly := F_told_plainly.binds (ps := ["case", "number"]) fun _ _ _ _ _ _ us hl => match us, hl with | [_, _], _ => rfl
  have F_told := fun_mk (st := s_told) l_told c_told q_told
  have B_told := F_told.binds (ps := ["case", "number", "n", "schedule"]) fun _ _ _ _ _ _ us hl => match us, hl with | [_, _, _, _], _ => rfl
  have F_Session_init := fun_mk (st := s_Session_init) l_Session_init c_Session_init q_Session_init
  have B_Session_init := F_Session_init.binds (ps := ["self"]) fun _ _ _ _ _ _ us hl => match us, hl with | [_], _ => rfl
  have F_Session_create := fun_mk (st := s_Session_create) l_Session_create c_Session_create q_Session_create
  have B_Session_create := F_Session_create.binds (ps := ["self", "per_gate", "max_gates", "max_wait"]) fun _ _ _ _ _ _ us hl => match us, hl with | [_, _, _, _], _ => rfl
  have F_Session_performed := fun_mk (st := s_Session_performed) l_Session_performed c_Session_performed q_Session_performed
  have B_Session_performed := F_Session_performed.binds (ps := ["self", "number", "n", "schedule"]) fun _ _ _ _ _ _ us hl => match us, hl with | [_, _, _, _], _ => rfl
  have F_Session_answer := fun_mk (st := s_Session_answer) l_Session_answer c_Session_answer q_Session_answer
  have B_Session_answer := F_Session_answer.binds (ps := ["self", "number", "n", "schedule"]) fun _ _ _ _ _ _ us hl => match us, hl with | [_, _, _, _], _ => rfl
  have F_answers := fun_mk (st := s_answers) l_answers c_answers q_answers
  have B_answers := F_answers.binds (ps := ["calls"]) fun _ _ _ _ _ _ us hl => match us, hl with | [_], _ => rfl
  have cnt : ∀ H : Hp, SqT K H cT (countsL.map V.int) := fun H => .inr ⟨_, _, _, lCnt, rfl, rfl, (by show 23 ≤ sizeLine; decide), cnt_vals⟩
  have T : Txt K mg { Case := cC, Session := cS, Refusal := cR, RefusalInit := fR, counts := cT, f_Case_init := f_Case_init, d_Case_init := PySem.W.fnOf "__init__" "Case.__init__" (defArgs s_Case_init) (defBody s_Case_init) (defScope s_Case_init) .none kV_Case_init dc_Case_init pm_Case_init an_Case_init cd_Case_init ct_Case_init, f_Case_count := f_Case_count, d_Case_count := PySem.W.fnOf "count" "Case.count" (defArgs s_Case_count) (defBody s_Case_count) (defScope s_Case_count) .none kV_Case_count dc_Case_count pm_Case_count an_Case_count cd_Case_count ct_Case_count, f_Case_length := f_Case_length, d_Case_length := PySem.W.fnOf "length" "Case.length" (defArgs s_Case_length) (defBody s_Case_length) (defScope s_Case_length) .none kV_Case_length dc_Case_length pm_Case_length an_Case_length cd_Case_length ct_Case_length, f_Case_total := f_Case_total, d_Case_total := PySem.W.fnOf "total" "Case.total" (defArgs s_Case_total) (defBody s_Case_total) (defScope s_Case_total) .none kV_Case_total dc_Case_total pm_Case_total an_Case_total cd_Case_total ct_Case_total, f_Case_with_minutes := f_Case_with_minutes, d_Case_with_minutes := PySem.W.fnOf "with_minutes" "Case.with_minutes" (defArgs s_Case_with_minutes) (defBody s_Case_with_minutes) (defScope s_Case_with_minutes) .none kV_Case_with_minutes dc_Case_with_minutes pm_Case_with_minutes an_Case_with_minutes cd_Case_with_minutes ct_Case_with_minutes, f_Case_with_arrivals := f_Case_with_arrivals, d_Case_with_arrivals := PySem.W.fnOf "with_arrivals" "Case.with_arrivals" (defArgs s_Case_with_arrivals) (defBody s_Case_with_arrivals) (defScope s_Case_with_arrivals) .none kV_Case_with_arrivals dc_Case_with_arrivals pm_Case_with_arrivals an_Case_with_arrivals cd_Case_with_arrivals ct_Case_with_arrivals, f_Case_with_per_gate := f_Case_with_per_gate, d_Case_with_per_gate := PySem.W.fnOf "with_per_gate" "Case.with_per_gate" (defArgs s_Case_with_per_gate) (defBody s_Case_with_per_gate) (defScope s_Case_with_per_gate) .none kV_Case_with_per_gate dc_Case_with_per_gate pm_Case_with_per_gate an_Case_with_per_gate cd_Case_with_per_gate ct_Case_with_per_gate, f_Case_with_max_gates := f_Case_with_max_gates, d_Case_with_max_gates := PySem.W.fnOf "with_max_gates" "Case.with_max_gates" (defArgs s_Case_with_max_gates) (defBody s_Case_with_max_gates) (defScope s_Case_with_max_gates) .none kV_Case_with_max_gates dc_Case_with_max_gates pm_Case_with_max_gates an_Case_with_max_gates cd_Case_with_max_gates ct_Case_with_max_gates, f_Case_with_max_wait := f_Case_with_max_wait, d_Case_with_max_wait := PySem.W.fnOf "with_max_wait" "Case.with_max_wait" (defArgs s_Case_with_max_wait) (defBody s_Case_with_max_wait) (defScope s_Case_with_max_wait) .none kV_Case_with_max_wait dc_Case_with_max_wait pm_Case_with_max_wait an_Case_with_max_wait cd_Case_with_max_wait ct_Case_with_max_wait, f_require := f_require, d_require := PySem.W.fnOf "require" "require" (defArgs s_require) (defBody s_require) (defScope s_require) .none kV_require dc_require pm_require an_require cd_require ct_require, f_add_minute := f_add_minute, d_add_minute := PySem.W.fnOf "add_minute" "add_minute" (defArgs s_add_minute) (defBody s_add_minute) (defScope s_add_minute) .none kV_add_minute dc_add_minute pm_add_minute an_add_minute cd_add_minute ct_add_minute, f_set_arrivals := f_set_arrivals, d_set_arrivals := PySem.W.fnOf "set_arrivals" "set_arrivals" (defArgs s_set_arrivals) (defBody s_set_arrivals) (defScope s_set_arrivals) .none kV_set_arrivals dc_set_arrivals pm_set_arrivals an_set_arrivals cd_set_arrivals ct_set_arrivals, f_remove_last_minute := f_remove_last_minute, d_remove_last_minute := PySem.W.fnOf "remove_last_minute" "remove_last_minute" (defArgs s_remove_last_minute) (defBody s_remove_last_minute) (defScope s_remove_last_minute) .none kV_remove_last_minute dc_remove_last_minute pm_remove_last_minute an_remove_last_minute cd_remove_last_minute ct_remove_last_minute, f_set_per_gate := f_set_per_gate, d_set_per_gate := PySem.W.fnOf "set_per_gate" "set_per_gate" (defArgs s_set_per_gate) (defBody s_set_per_gate) (defScope s_set_per_gate) .none kV_set_per_gate dc_set_per_gate pm_set_per_gate an_set_per_gate cd_set_per_gate ct_set_per_gate, f_set_max_gates := f_set_max_gates, d_set_max_gates := PySem.W.fnOf "set_max_gates" "set_max_gates" (defArgs s_set_max_gates) (defBody s_set_max_gates) (defScope s_set_max_gates) .none kV_set_max_gates dc_set_max_gates pm_set_max_gates an_set_max_gates cd_set_max_gates ct_set_max_gates, f_set_max_wait := f_set_max_wait, d_set_max_wait := PySem.W.fnOf "set_max_wait" "set_max_wait" (defArgs s_set_max_wait) (defBody s_set_max_wait) (defScope s_set_max_wait) .none kV_set_max_wait dc_set_max_wait pm_set_max_wait an_set_max_wait cd_set_max_wait ct_set_max_wait, f_changed := f_changed, d_changed := PySem.W.fnOf "changed" "changed" (defArgs s_changed) (defBody s_changed) (defScope s_changed) .none kV_changed dc_changed pm_changed an_changed cd_changed ct_changed, f_room := f_room, d_room := PySem.W.fnOf "room" "room" (defArgs s_room) (defBody s_room) (defScope s_room) .none kV_room dc_room pm_room an_room cd_room ct_room, f_infeasible_interval := f_infeasible_interval, d_infeasible_interval := PySem.W.fnOf "infeasible_interval" "infeasible_interval" (defArgs s_infeasible_interval) (defBody s_infeasible_interval) (defScope s_infeasible_interval) .none kV_infeasible_interval dc_infeasible_interval pm_infeasible_interval an_infeasible_interval cd_infeasible_interval ct_infeasible_interval, f_is_possible := f_is_possible, d_is_possible := PySem.W.fnOf "is_possible" "is_possible" (defArgs s_is_possible) (defBody s_is_possible) (defScope s_is_possible) .none kV_is_possible dc_is_possible pm_is_possible an_is_possible cd_is_possible ct_is_possible, f_needed := f_needed, d_needed := PySem.W.fnOf "needed" "needed" (defArgs s_needed) (defBody s_needed) (defScope s_needed) .none kV_needed dc_needed pm_needed an_needed cd_needed ct_needed, f_raised := f_raised, d_raised := PySem.W.fnOf "raised" "raised" (defArgs s_raised) (defBody s_raised) (defScope s_raised) .none kV_raised dc_raised pm_raised an_raised cd_raised ct_raised, f_least_sums := f_least_sums, d_least_sums := PySem.W.fnOf "least_sums" "least_sums" (defArgs s_least_sums) (defBody s_least_sums) (defScope s_least_sums) .none kV_least_sums dc_least_sums pm_least_sums an_least_sums cd_least_sums ct_least_sums, f_best_schedule := f_best_schedule, d_best_schedule := PySem.W.fnOf "best_schedule" "best_schedule" (defArgs s_best_schedule) (defBody s_best_schedule) (defScope s_best_schedule) .none kV_best_schedule dc_best_schedule pm_best_schedule an_best_schedule cd_best_schedule ct_best_schedule, f_arriving := f_arriving, d_arriving := PySem.W.fnOf "arriving" "arriving" (defArgs s_arriving) (defBody s_arriving) (defScope s_arriving) .none kV_arriving dc_arriving pm_arriving an_arriving cd_arriving ct_arriving, f_admissions := f_admissions, d_admissions := PySem.W.fnOf "admissions" "admissions" (defArgs s_admissions) (defBody s_admissions) (defScope s_admissions) .none kV_admissions dc_admissions pm_admissions an_admissions cd_admissions ct_admissions, f_are_all_admitted := f_are_all_admitted, d_are_all_admitted := PySem.W.fnOf "are_all_admitted" "are_all_admitted" (defArgs s_are_all_admitted) (defBody s_are_all_admitted) (defScope s_are_all_admitted) .none kV_are_all_admitted dc_are_all_admitted pm_are_all_admitted an_are_all_admitted cd_are_all_admitted ct_are_all_admitted, f_minute_admitted := f_minute_admitted, d_minute_admitted := PySem.W.fnOf "minute_admitted" "minute_admitted" (defArgs s_minute_admitted) (defBody s_minute_admitted) (defScope s_minute_admitted) .none kV_minute_admitted dc_minute_admitted pm_minute_admitted an_minute_admitted cd_minute_admitted ct_minute_admitted, f_longest_wait := f_longest_wait, d_longest_wait := PySem.W.fnOf "longest_wait" "longest_wait" (defArgs s_longest_wait) (defBody s_longest_wait) (defScope s_longest_wait) .none kV_longest_wait dc_longest_wait pm_longest_wait an_longest_wait cd_longest_wait ct_longest_wait, f_is_enough := f_is_enough, d_is_enough := PySem.W.fnOf "is_enough" "is_enough" (defArgs s_is_enough) (defBody s_is_enough) (defScope s_is_enough) .none kV_is_enough dc_is_enough pm_is_enough an_is_enough cd_is_enough ct_is_enough, f_is_feasible := f_is_feasible, d_is_feasible := PySem.W.fnOf "is_feasible" "is_feasible" (defArgs s_is_feasible) (defBody s_is_feasible) (defScope s_is_feasible) .none kV_is_feasible dc_is_feasible pm_is_feasible an_is_feasible cd_is_feasible ct_is_feasible, f_counted := f_counted, d_counted := PySem.W.fnOf "counted" "counted" (defArgs s_counted) (defBody s_counted) (defScope s_counted) .none kV_counted dc_counted pm_counted an_counted cd_counted ct_counted, f_told_best := f_told_best, d_told_best := PySem.W.fnOf "told_best" "told_best" (defArgs s_told_best) (defBody s_told_best) (defScope s_told_best) .none kV_told_best dc_told_best pm_told_best an_told_best cd_told_best ct_told_best, f_told_gate_minutes := f_told_gate_minutes, d_told_gate_minutes := PySem.W.fnOf "told_gate_minutes" "told_gate_minutes" (defArgs s_told_gate_minutes) (defBody s_told_gate_minutes) (defScope s_told_gate_minutes) .none kV_told_gate_minutes dc_told_gate_minutes pm_told_gate_minutes an_told_gate_minutes cd_told_gate_minutes ct_told_gate_minutes, f_told_interval := f_told_interval, d_told_interval := PySem.W.fnOf "told_interval" "told_interval" (defArgs s_told_interval) (defBody s_told_interval) (defScope s_told_interval) .none kV_told_interval dc_told_interval pm_told_interval an_told_interval cd_told_interval ct_told_interval, f_require_schedule := f_require_schedule, d_require_schedule := PySem.W.fnOf "require_schedule" "require_schedule" (defArgs s_require_schedule) (defBody s_require_schedule) (defScope s_require_schedule) .none kV_require_schedule dc_require_schedule pm_require_schedule an_require_schedule cd_require_schedule ct_require_schedule, f_told_of_schedule := f_told_of_schedule, d_told_of_schedule := PySem.W.fnOf "told_of_schedule" "told_of_schedule" (defArgs s_told_of_schedule) (defBody s_told_of_schedule) (defScope s_told_of_schedule) .none kV_told_of_schedule dc_told_of_schedule pm_told_of_schedule an_told_of_schedule cd_told_of_schedule ct_told_of_schedule, f_min_max_gates := f_min_max_gates, d_min_max_gates := PySem.W.fnOf "min_max_gates" "min_max_gates" (defArgs s_min_max_gates) (defBody s_min_max_gates) (defScope s_min_max_gates) .none kV_min_max_gates dc_min_max_gates pm_min_max_gates an_min_max_gates cd_min_max_gates ct_min_max_gates, f_min_max_wait := f_min_max_wait, d_min_max_wait := PySem.W.fnOf "min_max_wait" "min_max_wait" (defArgs s_min_max_wait) (defBody s_min_max_wait) (defScope s_min_max_wait) .none kV_min_max_wait dc_min_max_wait pm_min_max_wait an_min_max_wait cd_min_max_wait ct_min_max_wait, f_if_arrivals := f_if_arrivals, d_if_arrivals := PySem.W.fnOf "if_arrivals" "if_arrivals" (defArgs s_if_arrivals) (defBody s_if_arrivals) (defScope s_if_arrivals) .none kV_if_arrivals dc_if_arrivals pm_if_arrivals an_if_arrivals cd_if_arrivals ct_if_arrivals, f_if_max_wait := f_if_max_wait, d_if_max_wait := PySem.W.fnOf "if_max_wait" "if_max_wait" (defArgs s_if_max_wait) (defBody s_if_max_wait) (defScope s_if_max_wait) .none kV_if_max_wait dc_if_max_wait pm_if_max_wait an_if_max_wait cd_if_max_wait ct_if_max_wait, f_max_arrivals := f_max_arrivals, d_max_arrivals := PySem.W.fnOf "max_arrivals" "max_arrivals" (defArgs s_max_arrivals) (defBody s_max_arrivals) (defScope s_max_arrivals) .none kV_max_arrivals dc_max_arrivals pm_max_arrivals an_max_arrivals cd_max_arrivals ct_max_arrivals, f_total_arrivals := f_total_arrivals, d_total_arrivals := PySem.W.fnOf "total_arrivals" "total_arrivals" (defArgs s_total_arrivals) (defBody s_total_arrivals) (defScope s_total_arrivals) .none kV_total_arrivals dc_total_arrivals pm_total_arrivals an_total_arrivals cd_total_arrivals ct_total_arrivals, f_told_state := f_told_state, d_told_state := PySem.W.fnOf "told_state" "told_state" (defArgs s_told_state) (defBody s_told_state) (defScope s_told_state) .none kV_told_state dc_told_state pm_told_state an_told_state cd_told_state ct_told_state, f_told_plainly := f_told_plainly, d_told_plainly := PySem.W.fnOf "told_plainly" "told_plainly" (defArgs s_told_plainly) (defBody s_told_plainly) (defScope s_told_plainly) .none kV_told_plainly dc_told_plainly pm_told_plainly an_told_plainly cd_told_plainly ct_told_plainly, f_told := f_told, d_told := PySem.W.fnOf "told" "told" (defArgs s_told) (defBody s_told) (defScope s_told) .none kV_told dc_told pm_told an_told cd_told ct_told, f_Session_init := f_Session_init, d_Session_init := PySem.W.fnOf "__init__" "Session.__init__" (defArgs s_Session_init) (defBody s_Session_init) (defScope s_Session_init) .none kV_Session_init dc_Session_init pm_Session_init an_Session_init cd_Session_init ct_Session_init, f_Session_create := f_Session_create, d_Session_create := PySem.W.fnOf "create" "Session.create" (defArgs s_Session_create) (defBody s_Session_create) (defScope s_Session_create) .none kV_Session_create dc_Session_create pm_Session_create an_Session_create cd_Session_create ct_Session_create, f_Session_performed := f_Session_performed, d_Session_performed := PySem.W.fnOf "performed" "Session.performed" (defArgs s_Session_performed) (defBody s_Session_performed) (defScope s_Session_performed) .none kV_Session_performed dc_Session_performed pm_Session_performed an_Session_performed cd_Session_performed ct_Session_performed, f_Session_answer := f_Session_answer, d_Session_answer := PySem.W.fnOf "answer" "Session.answer" (defArgs s_Session_answer) (defBody s_Session_answer) (defScope s_Session_answer) .none kV_Session_answer dc_Session_answer pm_Session_answer an_Session_answer cd_Session_answer ct_Session_answer, f_answers := fa, d_answers := PySem.W.fnOf "answers" "answers" (defArgs s_answers) (defBody s_answers) (defScope s_answers) .none kV_answers dc_answers pm_answers an_answers cd_answers ct_answers } :=
    { c_Case := ⟨pgCase, hdCase, poCase, saCase⟩,
      g_Case := PySem.W.mg_of X G aCase,
      mk_Case := ⟨mkCase, a_Case_init, i_Case_init, kcCase⟩,
      n_arrivals := n_arrivals,
      n_per_gate := n_per_gate,
      n_max_gates := n_max_gates,
      n_max_wait := n_max_wait,
      c_Session := ⟨pgSession, hdSession, poSession, saSession⟩,
      g_Session := PySem.W.mg_of X G aSess,
      mk_Session := ⟨mkSession, a_Session_init, i_Session_init, kcSession⟩,
      n_case := n_case,
      ref := ref,
      z_len := PySem.W.mg_none_of X G z_len,
      z_sum := PySem.W.mg_none_of X G z_sum,
      z_range := PySem.W.mg_none_of X G z_range,
      z_list := PySem.W.mg_none_of X G z_list,
      z_max := PySem.W.mg_none_of X G z_max,
      z_min := PySem.W.mg_none_of X G z_min,
      z_zip := PySem.W.mg_none_of X G z_zip,
      z_enumerate := PySem.W.mg_none_of X G z_enumerate,
      z_all := PySem.W.mg_none_of X G z_all,
      z_int := PySem.W.mg_none_of X G z_int,
      k_NO_PLANNER := ⟨_, PySem.W.mg_of X G k_NO_PLANNER⟩,
      k_NO_MINUTE := ⟨_, PySem.W.mg_of X G k_NO_MINUTE⟩,
      k_NO_MINUTES := ⟨_, PySem.W.mg_of X G k_NO_MINUTES⟩,
      k_OUTSIDE := ⟨_, PySem.W.mg_of X G k_OUTSIDE⟩,
      k_FULL := ⟨_, PySem.W.mg_of X G k_FULL⟩,
      k_NONE_FOUND := ⟨_, PySem.W.mg_of X G k_NONE_FOUND⟩,
      k_MOST_PER_GATE := ⟨_, PySem.W.mg_of X G k_MOST_PER_GATE⟩,
      k_MOST_GATES := ⟨_, PySem.W.mg_of X G k_MOST_GATES⟩,
      k_MOST_WAIT := ⟨_, PySem.W.mg_of X G k_MOST_WAIT⟩,
      k_MOST_ARRIVALS := ⟨_, PySem.W.mg_of X G k_MOST_ARRIVALS⟩,
      k_MOST_MINUTES := ⟨_, PySem.W.mg_of X G k_MOST_MINUTES⟩,
      k_MOST_ELEMENT := ⟨_, PySem.W.mg_of X G k_MOST_ELEMENT⟩,
      k_CREATE := ⟨_, PySem.W.mg_of X G k_CREATE⟩,
      k_LAST_CHANGE := ⟨_, PySem.W.mg_of X G k_LAST_CHANGE⟩,
      k_COUNTS := PySem.W.mg_of X G aCnt,
      t_COUNTS := cnt,
      d_Case_init := ⟨F_Case_init, B_Case_init⟩,
      d_Case_count := ⟨F_Case_count, B_Case_count, ⟨a_Case_count, i_Case_count, q_Case_count⟩⟩,
      d_Case_length := ⟨F_Case_length, B_Case_length, ⟨a_Case_length, i_Case_length, q_Case_length⟩⟩,
      d_Case_total := ⟨F_Case_total, B_Case_total, ⟨a_Case_total, i_Case_total, q_Case_total⟩⟩,
      d_Case_with_minutes := ⟨F_Case_with_minutes, B_Case_with_minutes, ⟨a_Case_with_minutes, i_Case_with_minutes, q_Case_with_minutes⟩⟩,
      d_Case_with_arrivals := ⟨F_Case_with_arrivals, B_Case_with_arrivals, ⟨a_Case_with_arrivals, i_Case_with_arrivals, q_Case_with_arrivals⟩⟩,
      d_Case_with_per_gate := ⟨F_Case_with_per_gate, B_Case_with_per_gate, ⟨a_Case_with_per_gate, i_Case_with_per_gate, q_Case_with_per_gate⟩⟩,
      d_Case_with_max_gates := ⟨F_Case_with_max_gates, B_Case_with_max_gates, ⟨a_Case_with_max_gates, i_Case_with_max_gates, q_Case_with_max_gates⟩⟩,
      d_Case_with_max_wait := ⟨F_Case_with_max_wait, B_Case_with_max_wait, ⟨a_Case_with_max_wait, i_Case_with_max_wait, q_Case_with_max_wait⟩⟩,
      d_require := ⟨F_require, PySem.W.mg_of X G a_require, B_require⟩,
      d_add_minute := ⟨F_add_minute, PySem.W.mg_of X G a_add_minute, B_add_minute⟩,
      d_set_arrivals := ⟨F_set_arrivals, PySem.W.mg_of X G a_set_arrivals, B_set_arrivals⟩,
      d_remove_last_minute := ⟨F_remove_last_minute, PySem.W.mg_of X G a_remove_last_minute, B_remove_last_minute⟩,
      d_set_per_gate := ⟨F_set_per_gate, PySem.W.mg_of X G a_set_per_gate, B_set_per_gate⟩,
      d_set_max_gates := ⟨F_set_max_gates, PySem.W.mg_of X G a_set_max_gates, B_set_max_gates⟩,
      d_set_max_wait := ⟨F_set_max_wait, PySem.W.mg_of X G a_set_max_wait, B_set_max_wait⟩,
      d_changed := ⟨F_changed, PySem.W.mg_of X G a_changed, B_changed⟩,
      d_room := ⟨F_room, PySem.W.mg_of X G a_room, B_room⟩,
      d_infeasible_interval := ⟨F_infeasible_interval, PySem.W.mg_of X G a_infeasible_interval, B_infeasible_interval⟩,
      d_is_possible := ⟨F_is_possible, PySem.W.mg_of X G a_is_possible, B_is_possible⟩,
      d_needed := ⟨F_needed, PySem.W.mg_of X G a_needed, B_needed⟩,
      d_raised := ⟨F_raised, PySem.W.mg_of X G a_raised, B_raised⟩,
      d_least_sums := ⟨F_least_sums, PySem.W.mg_of X G a_least_sums, B_least_sums⟩,
      d_best_schedule := ⟨F_best_schedule, PySem.W.mg_of X G a_best_schedule, B_best_schedule⟩,
      d_arriving := ⟨F_arriving, PySem.W.mg_of X G a_arriving, B_arriving⟩,
      d_admissions := ⟨F_admissions, PySem.W.mg_of X G a_admissions, B_admissions⟩,
      d_are_all_admitted := ⟨F_are_all_admitted, PySem.W.mg_of X G a_are_all_admitted, B_are_all_admitted⟩,
      d_minute_admitted := ⟨F_minute_admitted, PySem.W.mg_of X G a_minute_admitted, B_minute_admitted⟩,
      d_longest_wait := ⟨F_longest_wait, PySem.W.mg_of X G a_longest_wait, B_longest_wait⟩,
      d_is_enough := ⟨F_is_enough, PySem.W.mg_of X G a_is_enough, B_is_enough⟩,
      d_is_feasible := ⟨F_is_feasible, PySem.W.mg_of X G a_is_feasible, B_is_feasible⟩,
      d_counted := ⟨F_counted, PySem.W.mg_of X G a_counted, B_counted⟩,
      d_told_best := ⟨F_told_best, PySem.W.mg_of X G a_told_best, B_told_best⟩,
      d_told_gate_minutes := ⟨F_told_gate_minutes, PySem.W.mg_of X G a_told_gate_minutes, B_told_gate_minutes⟩,
      d_told_interval := ⟨F_told_interval, PySem.W.mg_of X G a_told_interval, B_told_interval⟩,
      d_require_schedule := ⟨F_require_schedule, PySem.W.mg_of X G a_require_schedule, B_require_schedule⟩,
      d_told_of_schedule := ⟨F_told_of_schedule, PySem.W.mg_of X G a_told_of_schedule, B_told_of_schedule⟩,
      d_min_max_gates := ⟨F_min_max_gates, PySem.W.mg_of X G a_min_max_gates, B_min_max_gates⟩,
      d_min_max_wait := ⟨F_min_max_wait, PySem.W.mg_of X G a_min_max_wait, B_min_max_wait⟩,
      d_if_arrivals := ⟨F_if_arrivals, PySem.W.mg_of X G a_if_arrivals, B_if_arrivals⟩,
      d_if_max_wait := ⟨F_if_max_wait, PySem.W.mg_of X G a_if_max_wait, B_if_max_wait⟩,
      d_max_arrivals := ⟨F_max_arrivals, PySem.W.mg_of X G a_max_arrivals, B_max_arrivals⟩,
      d_total_arrivals := ⟨F_total_arrivals, PySem.W.mg_of X G a_total_arrivals, B_total_arrivals⟩,
      d_told_state := ⟨F_told_state, PySem.W.mg_of X G a_told_state, B_told_state⟩,
      d_told_plainly := ⟨F_told_plainly, PySem.W.mg_of X G a_told_plainly, B_told_plainly⟩,
      d_told := ⟨F_told, PySem.W.mg_of X G a_told, B_told⟩,
      d_Session_init := ⟨F_Session_init, B_Session_init⟩,
      d_Session_create := ⟨F_Session_create, B_Session_create, ⟨a_Session_create, i_Session_create, q_Session_create⟩⟩,
      d_Session_performed := ⟨F_Session_performed, B_Session_performed, ⟨a_Session_performed, i_Session_performed, q_Session_performed⟩⟩,
      d_Session_answer := ⟨F_Session_answer, B_Session_answer, ⟨a_Session_answer, i_Session_answer, q_Session_answer⟩⟩,
      d_answers := ⟨F_answers, PySem.W.mg_of X G a_answers, B_answers⟩ }
  exact ⟨PySem.W.fnOf "answers" "answers" (defArgs s_answers) (defBody s_answers) (defScope s_answers) .none kV_answers dc_answers pm_answers an_answers cd_answers ct_answers, fun s us hu => match us, hu with | [_], _ => .of_eq rfl, fun base _ _ => ok_answers T⟩
end Gw
open PySem PySem.W PyProof.Rows
set_option maxRecDepth 100000 in
set_option maxHeartbeats 0 in
theorem PySem.Challenge.cw_gatehours_s01_answers_holds : PySem.Challenge.rw_gatehours_s01_answers.Holds := by
  w_on; k_headS; (case hw => exact ⟨[.list [.int 3]], by decide +kernel, by decide +kernel⟩)
  k_fillS
  refine L2.walk_specK (r := PySem.Challenge.rw_gatehours_s01_answers) (k := 11) (CX := L2.CX0) (ps := ["calls"]) (sp := Gw.sp_answers) (by decide +kernel) rfl rfl ⟨rfl, by decide, by decide⟩ (fun w h Y => PySem.W.kIn_of Y) ?F ?S (fun _ _ _ _ z => z)
  case F =>
    intro w mg fa h Y KX G hmg
    refine' Gw.all_mk KX G hmg ?aCase ?aSess ?aRef ?pgCase ?hdCase ?poCase ?saCase ?mkCase ?kcCase ?n_arrivals ?n_per_gate ?n_max_gates ?n_max_wait ?pgSession ?hdSession ?poSession ?saSession ?mkSession ?kcSession ?n_case ?xR ?saR ?gaR ?ggR ?noR ?iR ?tR ?lR ?ccR ?kR ?eR ?tyR ?hdR ?isR ?suR ?vE ?zE ?z_len ?z_sum ?z_range ?z_list ?z_max ?z_min ?z_zip ?z_enumerate ?z_all ?z_int ?k_NO_PLANNER ?k_NO_MINUTE ?k_NO_MINUTES ?k_OUTSIDE ?k_FULL ?k_NONE_FOUND ?k_MOST_PER_GATE ?k_MOST_GATES ?k_MOST_WAIT ?k_MOST_ARRIVALS ?k_MOST_MINUTES ?k_MOST_ELEMENT ?k_CREATE ?k_LAST_CHANGE ?aCnt ?lCnt ?a_Case_init ?i_Case_init ?l_Case_init ?c_Case_init ?q_Case_init ?a_Case_count ?i_Case_count ?l_Case_count ?c_Case_count ?q_Case_count ?a_Case_length ?i_Case_length ?l_Case_length ?c_Case_length ?q_Case_length ?a_Case_total ?i_Case_total ?l_Case_total ?c_Case_total ?q_Case_total ?a_Case_with_minutes ?i_Case_with_minutes ?l_Case_with_minutes ?c_Case_with_minutes ?q_Case_with_minutes ?a_Case_with_arrivals ?i_Case_with_arrivals ?l_Case_with_arrivals ?c_Case_with_arrivals ?q_Case_with_arrivals ?a_Case_with_per_gate ?i_Case_with_per_gate ?l_Case_with_per_gate ?c_Case_with_per_gate ?q_Case_with_per_gate ?a_Case_with_max_gates ?i_Case_with_max_gates ?l_Case_with_max_gates ?c_Case_with_max_gates ?q_Case_with_max_gates ?a_Case_with_max_wait ?i_Case_with_max_wait ?l_Case_with_max_wait ?c_Case_with_max_wait ?q_Case_with_max_wait ?a_require ?l_require ?c_require ?q_require ?a_add_minute ?l_add_minute ?c_add_minute ?q_add_minute ?a_set_arrivals ?l_set_arrivals ?c_set_arrivals ?q_set_arrivals ?a_remove_last_minute ?l_remove_last_minute ?c_remove_last_minute ?q_remove_last_minute ?a_set_per_gate ?l_set_per_gate ?c_set_per_gate ?q_set_per_gate ?a_set_max_gates ?l_set_max_gates ?c_set_max_gates ?q_set_max_gates ?a_set_max_wait ?l_set_max_wait ?c_set_max_wait ?q_set_max_wait ?a_changed ?l_changed ?c_changed ?q_changed ?a_room ?l_room ?c_room ?q_room ?a_infeasible_interval ?l_infeasible_interval ?c_infeasible_interval ?q_infeasible_interval ?a_is_possible ?l_is_possible ?c_is_possible ?q_is_possible ?a_needed ?l_needed ?c_needed ?q_needed ?a_raised ?l_raised ?c_raised ?q_raised ?a_least_sums ?l_least_sums ?c_least_sums ?q_least_sums ?a_best_schedule ?l_best_schedule ?c_best_schedule ?q_best_schedule ?a_arriving ?l_arriving ?c_arriving ?q_arriving ?a_admissions ?l_admissions ?c_admissions ?q_admissions ?a_are_all_admitted ?l_are_all_admitted ?c_are_all_admitted ?q_are_all_admitted ?a_minute_admitted ?l_minute_admitted ?c_minute_admitted ?q_minute_admitted ?a_longest_wait ?l_longest_wait ?c_longest_wait ?q_longest_wait ?a_is_enough ?l_is_enough ?c_is_enough ?q_is_enough ?a_is_feasible ?l_is_feasible ?c_is_feasible ?q_is_feasible ?a_counted ?l_counted ?c_counted ?q_counted ?a_told_best ?l_told_best ?c_told_best ?q_told_best ?a_told_gate_minutes ?l_told_gate_minutes ?c_told_gate_minutes ?q_told_gate_minutes ?a_told_interval ?l_told_interval ?c_told_interval ?q_told_interval ?a_require_schedule ?l_require_schedule ?c_require_schedule ?q_require_schedule ?a_told_of_schedule ?l_told_of_schedule ?c_told_of_schedule ?q_told_of_schedule ?a_min_max_gates ?l_min_max_gates ?c_min_max_gates ?q_min_max_gates ?a_min_max_wait ?l_min_max_wait ?c_min_max_wait ?q_min_max_wait ?a_if_arrivals ?l_if_arrivals ?c_if_arrivals ?q_if_arrivals ?a_if_max_wait ?l_if_max_wait ?c_if_max_wait ?q_if_max_wait ?a_max_arrivals ?l_max_arrivals ?c_max_arrivals ?q_max_arrivals ?a_total_arrivals ?l_total_arrivals ?c_total_arrivals ?q_total_arrivals ?a_told_state ?l_told_state ?c_told_state ?q_told_state ?a_told_plainly ?l_told_plainly ?c_told_plainly ?q_told_plainly ?a_told ?l_told ?c_told ?q_told ?a_Session_init ?i_Session_init ?l_Session_init ?c_Session_init ?q_Session_init ?a_Session_create ?i_Session_create ?l_Session_create ?c_Session_create ?q_Session_create ?a_Session_performed ?i_Session_performed ?l_Session_performed ?c_Session_performed ?q_Session_performed ?a_Session_answer ?i_Session_answer ?l_Session_answer ?c_Session_answer ?q_Session_answer ?a_answers ?l_answers ?c_answers ?q_answers
    (case aCase => k_is)
    (case aSess => k_is)
    (case aRef => k_is)
    (case pgCase => k_is)
    (case hdCase => k_is)
    (case poCase => k_is)
    (case saCase => k_is)
    (case mkCase => k_is)
    (case kcCase => k_is)
    (case n_arrivals => k_is)
    (case n_per_gate => k_is)
    (case n_max_gates => k_is)
    (case n_max_wait => k_is)
    (case pgSession => k_is)
    (case hdSession => k_is)
    (case poSession => k_is)
    (case saSession => k_is)
    (case mkSession => k_is)
    (case kcSession => k_is)
    (case n_case => k_is)
    (case xR => k_is)
    (case saR => k_is)
    (case gaR => k_is)
    (case ggR => k_is)
    (case noR => k_is)
    (case iR => k_is)
    (case tR => k_is)
    (case lR => k_is)
    (case ccR => k_is)
    (case kR => k_is)
    (case eR => k_is)
    (case tyR => k_is)
    (case hdR => k_is)
    (case isR => k_is)
    (case suR => first | rfl | k_is)
    (case vE => first | k_is | (decide +kernel) | kernel_rfl)
    (case zE => k_is)
    (case z_len => k_is)
    (case z_sum => k_is)
    (case z_range => k_is)
    (case z_list => k_is)
    (case z_max => k_is)
    (case z_min => k_is)
    (case z_zip => k_is)
    (case z_enumerate => k_is)
    (case z_all => k_is)
    (case z_int => k_is)
    (case k_NO_PLANNER => k_is)
    (case k_NO_MINUTE => k_is)
    (case k_NO_MINUTES => k_is)
    (case k_OUTSIDE => k_is)
    (case k_FULL => k_is)
    (case k_NONE_FOUND => k_is)
    (case k_MOST_PER_GATE => k_is)
    (case k_MOST_GATES => k_is)
    (case k_MOST_WAIT => k_is)
    (case k_MOST_ARRIVALS => k_is)
    (case k_MOST_MINUTES => k_is)
    (case k_MOST_ELEMENT => k_is)
    (case k_CREATE => k_is)
    (case k_LAST_CHANGE => k_is)
    (case aCnt => k_is)
    (case lCnt => k_is)
    (case a_Case_init => k_is)
    (case i_Case_init => k_is)
    (case l_Case_init => k_is)
    (case c_Case_init => k_is)
    (case q_Case_init => k_is)
    (case a_Case_count => k_is)
    (case i_Case_count => k_is)
    (case l_Case_count => k_is)
    (case c_Case_count => k_is)
    (case q_Case_count => k_is)
    (case a_Case_length => k_is)
    (case i_Case_length => k_is)
    (case l_Case_length => k_is)
    (case c_Case_length => k_is)
    (case q_Case_length => k_is)
    (case a_Case_total => k_is)
    (case i_Case_total => k_is)
    (case l_Case_total => k_is)
    (case c_Case_total => k_is)
    (case q_Case_total => k_is)
    (case a_Case_with_minutes => k_is)
    (case i_Case_with_minutes => k_is)
    (case l_Case_with_minutes => k_is)
    (case c_Case_with_minutes => k_is)
    (case q_Case_with_minutes => k_is)
    (case a_Case_with_arrivals => k_is)
    (case i_Case_with_arrivals => k_is)
    (case l_Case_with_arrivals => k_is)
    (case c_Case_with_arrivals => k_is)
    (case q_Case_with_arrivals => k_is)
    (case a_Case_with_per_gate => k_is)
    (case i_Case_with_per_gate => k_is)
    (case l_Case_with_per_gate => k_is)
    (case c_Case_with_per_gate => k_is)
    (case q_Case_with_per_gate => k_is)
    (case a_Case_with_max_gates => k_is)
    (case i_Case_with_max_gates => k_is)
    (case l_Case_with_max_gates => k_is)
    (case c_Case_with_max_gates => k_is)
    (case q_Case_with_max_gates => k_is)
    (case a_Case_with_max_wait => k_is)
    (case i_Case_with_max_wait => k_is)
    (case l_Case_with_max_wait => k_is)
    (case c_Case_with_max_wait => k_is)
    (case q_Case_with_max_wait => k_is)
    (case a_require => k_is)
    (case l_require => k_is)
    (case c_require => k_is)
    (case q_require => k_is)
    (case a_add_minute => k_is)
    (case l_add_minute => k_is)
    (case c_add_minute => k_is)
    (case q_add_minute => k_is)
    (case a_set_arrivals => k_is)
    (case l_set_arrivals => k_is)
    (case c_set_arrivals => k_is)
    (case q_set_arrivals => k_is)
    (case a_remove_last_minute => k_is)
    (case l_remove_last_minute => k_is)
    (case c_remove_last_minute => k_is)
    (case q_remove_last_minute => k_is)
    (case a_set_per_gate => k_is)
    (case l_set_per_gate => k_is)
    (case c_set_per_gate => k_is)
    (case q_set_per_gate => k_is)
    (case a_set_max_gates => k_is)
    (case l_set_max_gates => k_is)
    (case c_set_max_gates => k_is)
    (case q_set_max_gates => k_is)
    (case a_set_max_wait => k_is)
    (case l_set_max_wait => k_is)
    (case c_set_max_wait => k_is)
    (case q_set_max_wait => k_is)
    (case a_changed => k_is)
    (case l_changed => k_is)
    (case c_changed => k_is)
    (case q_changed => k_is)
    (case a_room => k_is)
    (case l_room => k_is)
    (case c_room => k_is)
    (case q_room => k_is)
    (case a_infeasible_interval => k_is)
    (case l_infeasible_interval => k_is)
    (case c_infeasible_interval => k_is)
    (case q_infeasible_interval => k_is)
    (case a_is_possible => k_is)
    (case l_is_possible => k_is)
    (case c_is_possible => k_is)
    (case q_is_possible => k_is)
    (case a_needed => k_is)
    (case l_needed => k_is)
    (case c_needed => k_is)
    (case q_needed => k_is)
    (case a_raised => k_is)
    (case l_raised => k_is)
    (case c_raised => k_is)
    (case q_raised => k_is)
    (case a_least_sums => k_is)
    (case l_least_sums => k_is)
    (case c_least_sums => k_is)
    (case q_least_sums => k_is)
    (case a_best_schedule => k_is)
    (case l_best_schedule => k_is)
    (case c_best_schedule => k_is)
    (case q_best_schedule => k_is)
    (case a_arriving => k_is)
    (case l_arriving => k_is)
    (case c_arriving => k_is)
    (case q_arriving => k_is)
    (case a_admissions => k_is)
    (case l_admissions => k_is)
    (case c_admissions => k_is)
    (case q_admissions => k_is)
    (case a_are_all_admitted => k_is)
    (case l_are_all_admitted => k_is)
    (case c_are_all_admitted => k_is)
    (case q_are_all_admitted => k_is)
    (case a_minute_admitted => k_is)
    (case l_minute_admitted => k_is)
    (case c_minute_admitted => k_is)
    (case q_minute_admitted => k_is)
    (case a_longest_wait => k_is)
    (case l_longest_wait => k_is)
    (case c_longest_wait => k_is)
    (case q_longest_wait => k_is)
    (case a_is_enough => k_is)
    (case l_is_enough => k_is)
    (case c_is_enough => k_is)
    (case q_is_enough => k_is)
    (case a_is_feasible => k_is)
    (case l_is_feasible => k_is)
    (case c_is_feasible => k_is)
    (case q_is_feasible => k_is)
    (case a_counted => k_is)
    (case l_counted => k_is)
    (case c_counted => k_is)
    (case q_counted => k_is)
    (case a_told_best => k_is)
    (case l_told_best => k_is)
    (case c_told_best => k_is)
    (case q_told_best => k_is)
    (case a_told_gate_minutes => k_is)
    (case l_told_gate_minutes => k_is)
    (case c_told_gate_minutes => k_is)
    (case q_told_gate_minutes => k_is)
    (case a_told_interval => k_is)
    (case l_told_interval => k_is)
    (case c_told_interval => k_is)
    (case q_told_interval => k_is)
    (case a_require_schedule => k_is)
    (case l_require_schedule => k_is)
    (case c_require_schedule => k_is)
    (case q_require_schedule => k_is)
    (case a_told_of_schedule => k_is)
    (case l_told_of_schedule => k_is)
    (case c_told_of_schedule => k_is)
    (case q_told_of_schedule => k_is)
    (case a_min_max_gates => k_is)
    (case l_min_max_gates => k_is)
    (case c_min_max_gates => k_is)
    (case q_min_max_gates => k_is)
    (case a_min_max_wait => k_is)
    (case l_min_max_wait => k_is)
    (case c_min_max_wait => k_is)
    (case q_min_max_wait => k_is)
    (case a_if_arrivals => k_is)
    (case l_if_arrivals => k_is)
    (case c_if_arrivals => k_is)
    (case q_if_arrivals => k_is)
    (case a_if_max_wait => k_is)
    (case l_if_max_wait => k_is)
    (case c_if_max_wait => k_is)
    (case q_if_max_wait => k_is)
    (case a_max_arrivals => k_is)
    (case l_max_arrivals => k_is)
    (case c_max_arrivals => k_is)
    (case q_max_arrivals => k_is)
    (case a_total_arrivals => k_is)
    (case l_total_arrivals => k_is)
    (case c_total_arrivals => k_is)
    (case q_total_arrivals => k_is)
    (case a_told_state => k_is)
    (case l_told_state => k_is)
    (case c_told_state => k_is)
    (case q_told_state => k_is)
    (case a_told_plainly => k_is)
    (case l_told_plainly => k_is)
    (case c_told_plainly => k_is)
    (case q_told_plainly => k_is)
    (case a_told => k_is)
    (case l_told => k_is)
    (case c_told => k_is)
    (case q_told => k_is)
    (case a_Session_init => k_is)
    (case i_Session_init => k_is)
    (case l_Session_init => k_is)
    (case c_Session_init => k_is)
    (case q_Session_init => k_is)
    (case a_Session_create => k_is)
    (case i_Session_create => k_is)
    (case l_Session_create => k_is)
    (case c_Session_create => k_is)
    (case q_Session_create => k_is)
    (case a_Session_performed => k_is)
    (case i_Session_performed => k_is)
    (case l_Session_performed => k_is)
    (case c_Session_performed => k_is)
    (case q_Session_performed => k_is)
    (case a_Session_answer => k_is)
    (case i_Session_answer => k_is)
    (case l_Session_answer => k_is)
    (case c_Session_answer => k_is)
    (case q_Session_answer => k_is)
    (case a_answers => k_is)
    (case l_answers => k_is)
    (case c_answers => k_is)
    (case q_answers => k_is)
  case S =>
    intro K H xs a hO hwi hask hx
    cases hx with
    | cons h1 h2 =>
      cases h2
      cases h1 with
      | lst hs ha =>
        rename_i ca xs'
        have e := L2.ints_dw a.1 _ ha
        subst e
        have q : ((Codec.inLen 0 30000 a.1 && a.1.all (Codec.inInt 0 4294967295)) && true) = true := hwi
        rw [Bool.and_eq_true, Bool.and_eq_true] at q
        have hlen : a.1.length ≤ 30000 := (Codec.inNat_iff.mp q.1.1).2
        have hpos : ∀ x ∈ a.1, 0 ≤ x := fun x hx => by
          have z := List.all_eq_true.mp q.1.2 x hx
          unfold Codec.inInt at z
          rw [Bool.and_eq_true, decide_eq_true_iff] at z
          exact z.1
        obtain ⟨raw, r1, r2, r3, r4⟩ := Gh.asked_parts (l := a.1) hask
        have ez := Gh.iz_of hpos
        have hs' : L2.SqL K H ca (Gw.nz (a.1.map Int.toNat)) := by
          rw [← Gw.ints_nz, ← ez]
          exact hs
        refine ⟨ca, a.1.map Int.toNat, raw, rfl, hs', by rw [List.length_map]; exact hlen, by rw [← ez]; exact r1, r2, by rw [← r3]; exact r4, fun H' p hp => ?_⟩
        rw [← r3] at hp
        exact .lst (L2.SqL.of hp) (L2.dw_ints _)
#print axioms PySem.Challenge.cw_gatehours_s01_answers_holds
