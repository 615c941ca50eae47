import PyProof.Rows.All
import Wide.All
import OpenK.AllK
import Wide.FinOn
import KE.KStateDown
import Lean
import HandS.ForMost
import HandS.Codes
import HandS.Rev
import HandS.TupAny
import HandS.Deep
import HandS.More
import HandS.Wide
import HandS.Defaults
import HandS.Head0
import HandS.Head1
import HandS.Head2
import HandS.HeadEnd
import HandS.HeadHook1
import HandS.HeadHook2
import PySem.Challenge.RW_neverbelow_k38_whole_all_numbers_and_str
set_option linter.all false
set_option Elab.async false
/-! NBPoly: curves as lists of Rat, low to high. -/
namespace NB

abbrev Pl := List Rat

def ev : Pl → Rat → Rat
  | [], _ => 0
  | a :: p, x => a + x * ev p x

theorem ev_nil (x : Rat) : ev [] x = 0 := rfl
theorem ev_cons (a : Rat) (p : Pl) (x : Rat) : ev (a :: p) x = a + x * ev p x := rfl
theorem ev_append (q : Pl) (x : Rat) : ∀ p : Pl, ev (p ++ q) x = ev p x + x ^ p.length * ev q x
  | [] => by simp only [List.nil_append, ev, List.length_nil]; grind
  | a :: p => by
    simp only [List.cons_append, ev, List.length_cons]
    rw [ev_append q x p]
    grind

/-- without the noughts at the end -/
def norm : Pl → Pl
  | [] => []
  | a :: p => match norm p with
    | [] => if a = 0 then [] else [a]
    | b :: r => a :: b :: r

def Norm (p : Pl) : Prop := p.getLast? ≠ some 0

theorem norm_cons (a : Rat) (p : Pl) : norm (a :: p) = if norm p = [] then (if a = 0 then [] else [a]) else a :: norm p := by
  show (match norm p with
    | [] => if a = 0 then [] else [a]
    | b :: r => a :: b :: r) = _
  cases norm p with
  | nil => rfl
  | cons b r => rfl

theorem Norm_nil : Norm [] := by simp [Norm]
theorem Norm_tail {a : Rat} {p : Pl} (h : Norm (a :: p)) : Norm p := by
  unfold Norm at *
  cases p with
  | nil => simp
  | cons b r => simpa [List.getLast?_cons_cons] using h
theorem Norm_cons {a : Rat} {p : Pl} (h : Norm p) (hp : p ≠ []) : Norm (a :: p) := by
  unfold Norm at *
  cases p with
  | nil => exact absurd rfl hp
  | cons b r => simpa [List.getLast?_cons_cons] using h
theorem Norm_one {a : Rat} (h : a ≠ 0) : Norm [a] := by
  unfold Norm; simpa using h
theorem Norm_one_iff {a : Rat} : Norm [a] ↔ a ≠ 0 := by
  unfold Norm; simp

theorem Norm_norm : ∀ p : Pl, Norm (norm p)
  | [] => Norm_nil
  | a :: p => by
    rw [norm_cons]
    have ih := Norm_norm p
    split
    · split
      · exact Norm_nil
      · rename_i h
        exact Norm_one h
    · rename_i h
      exact Norm_cons ih h

theorem ev_norm (x : Rat) : ∀ p : Pl, ev (norm p) x = ev p x
  | [] => rfl
  | a :: p => by
    rw [norm_cons]
    have ih := ev_norm x p
    split
    · rename_i h
      rw [h] at ih
      simp only [ev] at ih ⊢
      rw [← ih]
      split
      · rename_i h2
        simp only [ev]; grind
      · simp only [ev]
    · simp only [ev, ih]

theorem norm_of_Norm : ∀ {p : Pl}, Norm p → norm p = p
  | [], _ => rfl
  | a :: p, h => by
    rw [norm_cons, norm_of_Norm (Norm_tail h)]
    split
    · rename_i hp
      subst hp
      rw [if_neg (Norm_one_iff.mp h)]
    · rfl

theorem norm_len : ∀ p : Pl, (norm p).length ≤ p.length
  | [] => Nat.le_refl _
  | a :: p => by
    rw [norm_cons]
    have := norm_len p
    split
    · split <;> simp
    · simpa using this

/-- coefficients -/
def co (p : Pl) (i : Nat) : Rat := p.getD i 0
theorem co_nil (i : Nat) : co [] i = 0 := by simp [co]
theorem co_zero (a : Rat) (p : Pl) : co (a :: p) 0 = a := by simp [co]
theorem co_succ (a : Rat) (p : Pl) (i : Nat) : co (a :: p) (i + 1) = co p i := by simp [co]
theorem co_lt {p : Pl} {i : Nat} (h : i < p.length) : co p i = p[i] := by simp [co, h]
theorem co_ge {p : Pl} {i : Nat} (h : p.length ≤ i) : co p i = 0 := by simp [co, h]

/-! ### identity -/
theorem ev_bd : ∀ p : Pl, ∃ M : Rat, 0 ≤ M ∧ ∀ x : Rat, 0 ≤ x → x ≤ 1 → -M ≤ ev p x ∧ ev p x ≤ M
  | [] => ⟨0, by grind, fun x _ _ => by simp only [ev]; grind⟩
  | a :: p => by
    obtain ⟨M, hM, h⟩ := ev_bd p
    have key : ∀ x : Rat, 0 ≤ x → x ≤ 1 → -M ≤ x * ev p x ∧ x * ev p x ≤ M := fun x h0 h1 => by
      obtain ⟨e1, e2⟩ := h x h0 h1
      have a1 : 0 ≤ x * (M - ev p x) := Rat.mul_nonneg h0 (by grind)
      have a2 : 0 ≤ x * (M + ev p x) := Rat.mul_nonneg h0 (by grind)
      have a3 : 0 ≤ (1 - x) * M := Rat.mul_nonneg (by grind) hM
      grind
    by_cases ha : 0 ≤ a
    · refine ⟨a + M, by grind, fun x h0 h1 => ?_⟩
      obtain ⟨k1, k2⟩ := key x h0 h1
      simp only [ev]; grind
    · refine ⟨-a + M, by grind, fun x h0 h1 => ?_⟩
      obtain ⟨k1, k2⟩ := key x h0 h1
      simp only [ev]; grind

theorem rat_div_pos {a b : Rat} (ha : 0 < a) (hb : 0 < b) : 0 < a / b := by
  rw [Rat.div_def]
  exact Rat.mul_pos ha (Rat.inv_pos.mpr hb)

/-- nought at all small places: every coefficient is nought -/
theorem co_of_small : ∀ (p : Pl), (∀ x : Rat, 0 < x → x ≤ 1 → ev p x = 0) → ∀ i, co p i = 0
  | [], _, i => co_nil i
  | a :: p, h, i => by
    obtain ⟨M, hM, hb⟩ := ev_bd p
    have ha : a = 0 := by
      by_cases h0 : a = 0
      · exact h0
      · exfalso
        have main : ∀ c : Rat, 0 < c → (∀ x : Rat, 0 < x → x ≤ 1 → c ≤ x * M) → False := fun c hc hx => by
          have d : 0 < c + M + 1 := by grind
          have x0 : 0 < c / (c + M + 1) := rat_div_pos hc d
          have e : c / (c + M + 1) * (c + M + 1) = c := by grind
          generalize c / (c + M + 1) = x at x0 e
          have x1 : x ≤ 1 := by
            by_cases h1 : x ≤ 1
            · exact h1
            · have := Rat.mul_nonneg (show (0 : Rat) ≤ x - 1 by grind) (Rat.le_of_lt d)
              grind
          have := hx x x0 x1
          have := Rat.mul_pos x0 (show (0 : Rat) < c + 1 by grind)
          grind
        by_cases hp : 0 < a
        · refine main a hp fun x x0 x1 => ?_
          have e := h x x0 x1
          obtain ⟨b1, b2⟩ := hb x (Rat.le_of_lt x0) x1
          have := Rat.mul_nonneg (Rat.le_of_lt x0) (show (0 : Rat) ≤ M + ev p x by grind)
          simp only [ev] at e
          grind
        · refine main (-a) (by grind) fun x x0 x1 => ?_
          have e := h x x0 x1
          obtain ⟨b1, b2⟩ := hb x (Rat.le_of_lt x0) x1
          have := Rat.mul_nonneg (Rat.le_of_lt x0) (show (0 : Rat) ≤ M - ev p x by grind)
          simp only [ev] at e
          grind
    cases i with
    | zero => rw [co_zero, ha]
    | succ i =>
      rw [co_succ]
      refine co_of_small p (fun x x0 x1 => ?_) i
      have e := h x x0 x1
      simp only [ev] at e
      have : x * ev p x = 0 := by grind
      grind

/-! ### sums, multiples -/
def addR : Pl → Pl → Pl
  | [], q => q
  | p, [] => p
  | a :: p, b :: q => (a + b) :: addR p q
theorem addR_nil (p : Pl) : addR p [] = p := by cases p <;> rfl
theorem nil_addR (p : Pl) : addR [] p = p := by cases p <;> rfl
theorem ev_addR (x : Rat) : ∀ p q : Pl, ev (addR p q) x = ev p x + ev q x
  | [], q => by rw [nil_addR]; simp only [ev]; grind
  | a :: p, [] => by rw [addR_nil]; simp only [ev]; grind
  | a :: p, b :: q => by
    simp only [addR, ev]
    rw [ev_addR x p q]
    grind
theorem addR_len : ∀ p q : Pl, (addR p q).length = max p.length q.length
  | [], q => by rw [nil_addR]; simp
  | a :: p, [] => by rw [addR_nil]; simp
  | a :: p, b :: q => by
    simp only [addR, List.length_cons, addR_len p q]
    omega
theorem co_addR : ∀ (p q : Pl) (i : Nat), co (addR p q) i = co p i + co q i
  | [], q, i => by rw [nil_addR, co_nil]; grind
  | a :: p, [], i => by rw [addR_nil, co_nil]; grind
  | a :: p, b :: q, 0 => by simp only [addR, co_zero]
  | a :: p, b :: q, i + 1 => by simp only [addR, co_succ]; exact co_addR p q i

def sclR (k : Rat) (p : Pl) : Pl := p.map fun a => a * k
theorem ev_sclR (k x : Rat) : ∀ p : Pl, ev (sclR k p) x = ev p x * k
  | [] => by simp only [sclR, List.map_nil, ev]; grind
  | a :: p => by
    have ih := ev_sclR k x p
    simp only [sclR, List.map_cons, ev] at ih ⊢
    rw [ih]; grind
theorem sclR_len (k : Rat) (p : Pl) : (sclR k p).length = p.length := by simp [sclR]
theorem co_sclR (k : Rat) (p : Pl) (i : Nat) : co (sclR k p) i = co p i * k := by
  induction p generalizing i with
  | nil => simp only [sclR, List.map_nil, co_nil]; grind
  | cons a p ih =>
    cases i with
    | zero => simp only [sclR, List.map_cons, co_zero]
    | succ i => simp only [sclR, List.map_cons, co_succ]; exact ih i

/-- same values on small places: same coefficients -/
theorem co_ext {p q : Pl} (h : ∀ x : Rat, 0 < x → x ≤ 1 → ev p x = ev q x) (i : Nat) : co p i = co q i := by
  have := co_of_small (addR p (sclR (-1) q)) (fun x h0 h1 => by
    rw [ev_addR, ev_sclR, h x h0 h1]; grind) i
  rw [co_addR, co_sclR] at this
  grind

theorem Norm_len {p : Pl} (h : Norm p) (hp : p ≠ []) : co p (p.length - 1) ≠ 0 := by
  have hl : p.length - 1 < p.length := by
    cases p with
    | nil => exact absurd rfl hp
    | cons => simp
  rw [co_lt hl]
  intro e
  apply h
  rw [List.getLast?_eq_getElem?, List.getElem?_eq_getElem hl, e]

theorem len_le_of_co {p q : Pl} (hp : Norm p) (h : ∀ i, co p i = co q i) : p.length ≤ q.length := by
  by_cases e : p = []
  · subst e; simp
  · have := Norm_len hp e
    rw [h] at this
    by_cases hq : p.length ≤ q.length
    · exact hq
    · exact absurd (co_ge (by omega)) this

theorem ext_co {p q : Pl} (hl : p.length = q.length) (h : ∀ i, co p i = co q i) : p = q := by
  apply List.ext_getElem hl
  intro i h1 h2
  have := h i
  rwa [co_lt h1, co_lt h2] at this

/-- IDENTITY -/
theorem ident {p q : Pl} (hp : Norm p) (hq : Norm q) (h : ∀ x : Rat, ev p x = ev q x) : p = q := by
  have hc := co_ext (p := p) (q := q) fun x _ _ => h x
  exact ext_co (Nat.le_antisymm (len_le_of_co hp hc) (len_le_of_co hq fun i => (hc i).symm)) hc
theorem ident_len {p q : Pl} (hl : p.length = q.length) (h : ∀ x : Rat, 0 < x → x ≤ 1 → ev p x = ev q x) : p = q := ext_co hl (co_ext h)
theorem ident_norm {p q : Pl} (h : ∀ x : Rat, ev p x = ev q x) : norm p = norm q :=
  ident (Norm_norm p) (Norm_norm q) fun x => by rw [ev_norm, ev_norm, h]

/-! ### products -/
def mulR : Pl → Pl → Pl
  | [], _ => []
  | a :: p, q => addR (sclR a q) (0 :: mulR p q)
theorem ev_mulR (x : Rat) : ∀ p q : Pl, ev (mulR p q) x = ev p x * ev q x
  | [], q => by simp only [mulR, ev]; grind
  | a :: p, q => by
    simp only [mulR, ev]
    rw [ev_addR, ev_sclR]
    simp only [ev]
    rw [ev_mulR x p q]
    grind
theorem mulR_len : ∀ p q : Pl, q ≠ [] → p ≠ [] → (mulR p q).length = p.length + q.length - 1
  | [], q, _, hp => absurd rfl hp
  | [a], q, hq, _ => by
    have : 1 ≤ q.length := List.length_pos_iff.mpr hq
    simp only [mulR, addR_len, sclR_len, List.length_cons, List.length_nil]
    omega
  | a :: b :: p, q, hq, _ => by
    have ih := mulR_len (b :: p) q hq (by simp)
    have : 1 ≤ q.length := List.length_pos_iff.mpr hq
    rw [mulR, addR_len, sclR_len, List.length_cons, ih]
    simp only [List.length_cons]
    omega
/-- the last one of a product -/
theorem mulR_last : ∀ p q : Pl, q ≠ [] → p ≠ [] → co (mulR p q) (p.length + q.length - 2) = co p (p.length - 1) * co q (q.length - 1)
  | [], q, _, hp => absurd rfl hp
  | [a], q, hq, _ => by
    have : 1 ≤ q.length := List.length_pos_iff.mpr hq
    have e1 : [a].length + q.length - 2 = q.length - 1 := by simp only [List.length_cons, List.length_nil]; omega
    have e2 : [a].length - 1 = 0 := by simp
    rw [e1, e2, co_zero, mulR, co_addR, co_sclR]
    have : co (0 :: mulR [] q) (q.length - 1) = 0 := by
      cases q.length - 1 with
      | zero => rw [co_zero]
      | succ n => rw [co_succ, mulR, co_nil]
    rw [this]; grind
  | a :: b :: p, q, hq, _ => by
    have ih := mulR_last (b :: p) q hq (by simp)
    have : 1 ≤ q.length := List.length_pos_iff.mpr hq
    have e1 : (a :: b :: p).length + q.length - 2 = ((b :: p).length + q.length - 2) + 1 := by simp only [List.length_cons]; omega
    have e2 : (a :: b :: p).length - 1 = ((b :: p).length - 1) + 1 := by simp
    rw [e1, e2, mulR, co_addR, co_sclR, co_succ, co_succ, ih, co_ge (p := q) (by simp only [List.length_cons]; omega)]
    grind
theorem mulR_Norm {p q : Pl} (hp : Norm p) (hq : Norm q) (eq : q ≠ []) : Norm (mulR p q) := by
  by_cases ep : p = []
  · subst ep; exact Norm_nil
  · intro e
    have hl := mulR_len p q eq ep
    have h1 : 1 ≤ p.length := List.length_pos_iff.mpr ep
    have h2 : 1 ≤ q.length := List.length_pos_iff.mpr eq
    have := mulR_last p q eq ep
    rw [List.getLast?_eq_getElem?, hl] at e
    have hlt : p.length + q.length - 1 - 1 < (mulR p q).length := by omega
    rw [List.getElem?_eq_getElem hlt] at e
    have e2 := Option.some.inj e
    rw [show p.length + q.length - 2 = p.length + q.length - 1 - 1 by omega, co_lt hlt, e2] at this
    have a := Norm_len hp ep
    have b := Norm_len hq eq
    have := Rat.mul_eq_zero.mp this.symm
    grind

/-! ### the program's own operations -/
def add (p q : Pl) : Pl := norm (addR p q)
def scl (k : Rat) (p : Pl) : Pl := norm (sclR k p)
def mul (p q : Pl) : Pl := norm (mulR p q)
def tak (p q : Pl) : Pl := add p (scl (-1) q)
theorem ev_add (p q : Pl) (x : Rat) : ev (add p q) x = ev p x + ev q x := by rw [add, ev_norm, ev_addR]
theorem ev_scl (k : Rat) (p : Pl) (x : Rat) : ev (scl k p) x = ev p x * k := by rw [scl, ev_norm, ev_sclR]
theorem ev_mul (p q : Pl) (x : Rat) : ev (mul p q) x = ev p x * ev q x := by rw [mul, ev_norm, ev_mulR]
theorem ev_tak (p q : Pl) (x : Rat) : ev (tak p q) x = ev p x - ev q x := by rw [tak, ev_add, ev_scl]; grind
theorem Norm_add (p q : Pl) : Norm (add p q) := Norm_norm _
theorem Norm_scl (k : Rat) (p : Pl) : Norm (scl k p) := Norm_norm _
theorem Norm_mul (p q : Pl) : Norm (mul p q) := Norm_norm _
theorem Norm_tak (p q : Pl) : Norm (tak p q) := Norm_norm _
theorem add_len (p q : Pl) : (add p q).length ≤ max p.length q.length := by
  have := norm_len (addR p q); rw [addR_len] at this; exact this
theorem tak_len (p q : Pl) : (tak p q).length ≤ max p.length q.length := by
  have h1 := add_len p (scl (-1) q)
  have h2 := norm_len (sclR (-1) q)
  rw [sclR_len] at h2
  unfold tak scl at *
  omega
theorem scl_Norm {k : Rat} (hk : k ≠ 0) {p : Pl} (hp : Norm p) : Norm (sclR k p) := by
  unfold Norm sclR at *
  rw [List.getLast?_map]
  intro e
  cases h : p.getLast? with
  | none => rw [h] at e; cases e
  | some a =>
    rw [h] at e
    have : a * k = 0 := Option.some.inj e
    have := Rat.mul_eq_zero.mp this
    rw [h] at hp
    grind
theorem scl_eq {k : Rat} (hk : k ≠ 0) {p : Pl} (hp : Norm p) : scl k p = sclR k p := norm_of_Norm (scl_Norm hk hp)
theorem mul_eq {p q : Pl} (hp : Norm p) (hq : Norm q) (e : q ≠ []) : mul p q = mulR p q := norm_of_Norm (mulR_Norm hp hq e)
theorem mul_len {p q : Pl} (hp : Norm p) (hq : Norm q) (e : p ≠ []) (e2 : q ≠ []) : (mul p q).length = p.length + q.length - 1 := by
  rw [mul_eq hp hq e2, mulR_len p q e2 e]
theorem mul_nil_left (q : Pl) : mul [] q = [] := rfl
theorem ev_zero_of {p : Pl} (hp : Norm p) (h : ∀ x : Rat, ev p x = 0) : p = [] := ident hp Norm_nil h
theorem mul_nil_right (p : Pl) : mul p [] = [] := ev_zero_of (Norm_mul _ _) fun x => by rw [ev_mul, ev_nil]; grind
theorem mul_ne_nil {p q : Pl} (hp : Norm p) (hq : Norm q) (e : p ≠ []) (e2 : q ≠ []) : mul p q ≠ [] := fun h => by
  have := mul_len hp hq e e2
  rw [h] at this
  have h1 : 1 ≤ p.length := List.length_pos_iff.mpr e
  have h2 : 1 ≤ q.length := List.length_pos_iff.mpr e2
  simp only [List.length_nil] at this
  omega
/-- the last number of a curve -/
def lst (p : Pl) : Rat := co p (p.length - 1)
theorem lst_ne {p : Pl} (hp : Norm p) (e : p ≠ []) : lst p ≠ 0 := Norm_len hp e
theorem lst_mul {p q : Pl} (hp : Norm p) (hq : Norm q) (e : p ≠ []) (e2 : q ≠ []) : lst (mul p q) = lst p * lst q := by
  unfold lst
  rw [mul_len hp hq e e2, mul_eq hp hq e2, ← mulR_last p q e2 e]
  congr 1
theorem lst_sclR (k : Rat) (p : Pl) : lst (sclR k p) = lst p * k := by
  unfold lst; rw [sclR_len, co_sclR]
theorem lst_scl {k : Rat} (hk : k ≠ 0) {p : Pl} (hp : Norm p) : lst (scl k p) = lst p * k := by
  rw [scl_eq hk hp, lst_sclR]
theorem scl_len {k : Rat} (hk : k ≠ 0) {p : Pl} (hp : Norm p) : (scl k p).length = p.length := by
  rw [scl_eq hk hp, sclR_len]

/-- divided by its own last number -/
def mon (p : Pl) : Pl := if p = [] then [] else scl (1 / lst p) p
theorem Norm_mon (p : Pl) : Norm (mon p) := by
  unfold mon; split
  · exact Norm_nil
  · exact Norm_scl _ _
theorem mon_nil : mon [] = [] := rfl
theorem one_div_ne {a : Rat} (h : a ≠ 0) : (1 : Rat) / a ≠ 0 := by
  intro e
  have : (1 : Rat) / a * a = 1 := by grind
  rw [e] at this
  grind
theorem ev_mon {p : Pl} (e : p ≠ []) (x : Rat) : ev (mon p) x = ev p x / lst p := by
  unfold mon; rw [if_neg e, ev_scl]; grind
theorem lst_mon {p : Pl} (hp : Norm p) (e : p ≠ []) : lst (mon p) = 1 := by
  have h := lst_ne hp e
  unfold mon; rw [if_neg e, lst_scl (one_div_ne h) hp]; grind
theorem mon_len {p : Pl} (hp : Norm p) : (mon p).length = p.length := by
  unfold mon; split
  · rename_i h; rw [h]
  · rename_i e
    exact scl_len (one_div_ne (lst_ne hp e)) hp
theorem mon_ne {p : Pl} (hp : Norm p) (e : p ≠ []) : mon p ≠ [] := fun h => by
  have := mon_len hp; rw [h] at this
  exact e (List.length_eq_zero_iff.mp this.symm)

/-- the slope -/
def slpF : Nat → Pl → Pl
  | _, [] => []
  | k, a :: p => a * (k : Rat) :: slpF (k + 1) p
def slp (p : Pl) : Pl := slpF 1 p.tail
theorem slpF_len : ∀ (k : Nat) (p : Pl), (slpF k p).length = p.length
  | _, [] => rfl
  | k, a :: p => by simp only [slpF, List.length_cons, slpF_len (k + 1) p]
theorem slp_len (p : Pl) : (slp p).length = p.length - 1 := by
  unfold slp; rw [slpF_len, List.length_tail]
theorem co_slpF : ∀ (k : Nat) (p : Pl) (i : Nat), co (slpF k p) i = co p i * ((k + i : Nat) : Rat)
  | k, [], i => by simp only [slpF, co_nil]; grind
  | k, a :: p, 0 => by simp only [slpF, co_zero]; rfl
  | k, a :: p, i + 1 => by
    simp only [slpF, co_succ, co_slpF (k + 1) p i]
    rw [show k + 1 + i = k + (i + 1) by omega]
theorem Norm_slp {p : Pl} (h : Norm p) : Norm (slp p) := by
  cases p with
  | nil => exact Norm_nil
  | cons a p =>
    intro e
    have hl : (slp (a :: p)).length = p.length := by rw [slp_len]; simp
    rw [List.getLast?_eq_getElem?] at e
    cases hp : p with
    | nil => rw [hp] at e; simp [slp, slpF] at e
    | cons b r =>
      have hn : p ≠ [] := by rw [hp]; simp
      have hlt : (slp (a :: p)).length - 1 < (slp (a :: p)).length := by rw [hl, hp]; simp
      rw [List.getElem?_eq_getElem hlt] at e
      have e2 := Option.some.inj e
      rw [← co_lt hlt] at e2
      unfold slp at e2
      simp only [List.tail_cons] at e2
      rw [co_slpF, slpF_len] at e2
      have h1 := Norm_len (Norm_tail h) hn
      have h2 := Rat.mul_eq_zero.mp e2
      rcases h2 with h2 | h2
      · exact h1 h2
      · have : ((1 + (p.length - 1) : Nat) : Rat) = ((0 : Nat) : Rat) := h2
        rw [Rat.natCast_inj] at this
        omega
end NB

/-! NBDiv: values by coefficients, slopes, divisibility, common parts. -/
namespace NB

theorem ev_of_co : ∀ {p q : Pl}, (∀ i, co p i = co q i) → ∀ x : Rat, ev p x = ev q x
  | [], [], _, _ => rfl
  | [], b :: q, h, x => by
    have h0 := h 0
    rw [co_nil, co_zero] at h0
    have := ev_of_co (p := []) (q := q) (fun i => by have := h (i + 1); rw [co_nil, co_succ] at this; rw [co_nil, this]) x
    rw [ev_nil] at this ⊢
    rw [ev_cons]; grind
  | a :: p, [], h, x => by
    have h0 := h 0
    rw [co_nil, co_zero] at h0
    have := ev_of_co (p := p) (q := []) (fun i => by have := h (i + 1); rw [co_nil, co_succ] at this; rw [co_nil, this]) x
    rw [ev_nil] at this ⊢
    rw [ev_cons]; grind
  | a :: p, b :: q, h, x => by
    have h0 := h 0
    rw [co_zero, co_zero] at h0
    have := ev_of_co (p := p) (q := q) (fun i => by have := h (i + 1); rwa [co_succ, co_succ] at this) x
    rw [ev_cons, ev_cons, h0, this]

/-! ### slopes -/
theorem ev_slpF_succ (x : Rat) : ∀ (k : Nat) (p : Pl), ev (slpF (k + 1) p) x = ev p x + ev (slpF k p) x
  | k, [] => by simp only [slpF, ev]; grind
  | k, a :: p => by
    simp only [slpF, ev]
    rw [ev_slpF_succ x (k + 1) p]
    have : ((k + 1 : Nat) : Rat) = (k : Rat) + 1 := by rw [Rat.natCast_add]; rfl
    rw [this]; grind
theorem ev_slpF_zero (x : Rat) : ∀ p : Pl, ev (slpF 0 p) x = x * ev (slp p) x
  | [] => by simp only [slp, slpF, List.tail_nil, ev]; grind
  | a :: p => by
    simp only [slp, slpF, List.tail_cons, ev]
    have : ((0 : Nat) : Rat) = 0 := rfl
    rw [this]; grind
theorem ev_slp_cons (a : Rat) (p : Pl) (x : Rat) : ev (slp (a :: p)) x = ev p x + x * ev (slp p) x := by
  show ev (slpF 1 p) x = _
  rw [ev_slpF_succ, ev_slpF_zero]
theorem slp_nil : slp [] = [] := rfl
theorem co_slp (p : Pl) (i : Nat) : co (slp p) i = co p (i + 1) * ((1 + i : Nat) : Rat) := by
  unfold slp
  rw [co_slpF]
  cases p with
  | nil => simp only [List.tail_nil, co_nil]
  | cons a p => simp only [List.tail_cons, co_succ]
theorem ev_slp_congr {p q : Pl} (h : ∀ x : Rat, ev p x = ev q x) (x : Rat) : ev (slp p) x = ev (slp q) x := by
  refine ev_of_co (fun i => ?_) x
  rw [co_slp, co_slp, co_ext (fun x _ _ => h x)]
theorem ev_slp_addR (x : Rat) : ∀ p q : Pl, ev (slp (addR p q)) x = ev (slp p) x + ev (slp q) x
  | [], q => by rw [nil_addR, slp_nil, ev_nil]; grind
  | a :: p, [] => by rw [addR_nil, slp_nil, ev_nil]; grind
  | a :: p, b :: q => by
    simp only [addR]
    rw [ev_slp_cons, ev_slp_cons, ev_slp_cons, ev_slp_addR x p q, ev_addR]; grind
theorem ev_slp_sclR (k x : Rat) : ∀ p : Pl, ev (slp (sclR k p)) x = ev (slp p) x * k
  | [] => by simp only [sclR, List.map_nil, slp_nil, ev]; grind
  | a :: p => by
    have ih := ev_slp_sclR k x p
    have e := ev_sclR k x p
    show ev (slp (a * k :: sclR k p)) x = _
    rw [ev_slp_cons, ev_slp_cons, ih, e]; grind
theorem ev_slp_mulR (x : Rat) : ∀ p q : Pl, ev (slp (mulR p q)) x = ev (slp p) x * ev q x + ev p x * ev (slp q) x
  | [], q => by simp only [mulR, slp_nil, ev]; grind
  | a :: p, q => by
    simp only [mulR]
    rw [ev_slp_addR, ev_slp_sclR, ev_slp_cons, ev_slp_cons, ev_slp_mulR x p q, ev_mulR, ev_cons]; grind

/-! ### divisibility, coprime curves (by values) -/
def Dv (d p : Pl) : Prop := ∃ e : Pl, ∀ x : Rat, ev p x = ev e x * ev d x
def Cp (f g : Pl) : Prop := ∃ u v : Pl, ∀ x : Rat, ev u x * ev f x + ev v x * ev g x = 1

theorem Cp.symm {f g : Pl} (h : Cp f g) : Cp g f := by
  obtain ⟨u, v, h⟩ := h
  exact ⟨v, u, fun x => by have := h x; grind⟩
theorem Cp.congr {f g g' : Pl} (h : Cp f g) (e : ∀ x : Rat, ev g x = ev g' x) : Cp f g' := by
  obtain ⟨u, v, h⟩ := h
  exact ⟨u, v, fun x => by rw [← e]; exact h x⟩
theorem Cp.mul {f g h : Pl} (a : Cp f g) (b : Cp f h) : Cp f (mulR g h) := by
  obtain ⟨u1, v1, a⟩ := a
  obtain ⟨u2, v2, b⟩ := b
  -- (u1 f + v1 g)(u2 f + v2 h) = f (u1 u2 f + u1 v2 h + v1 u2 g) + v1 v2 g h
  refine ⟨addR (mulR (mulR u1 u2) f) (addR (mulR (mulR u1 v2) h) (mulR (mulR v1 u2) g)), mulR v1 v2, fun x => ?_⟩
  have ha := a x
  have hb := b x
  simp only [ev_addR, ev_mulR]
  have : (ev u1 x * ev f x + ev v1 x * ev g x) * (ev u2 x * ev f x + ev v2 x * ev h x) = 1 := by rw [ha, hb]; grind
  grind
theorem Cp.addmul {f g : Pl} (s : Pl) (a : Cp f g) : Cp f (addR (mulR f s) g) := by
  obtain ⟨u, v, a⟩ := a
  refine ⟨addR u (sclR (-1) (mulR v s)), v, fun x => ?_⟩
  have ha := a x
  simp only [ev_addR, ev_mulR, ev_sclR]
  grind
theorem Cp.const {f : Pl} {c : Rat} (hc : c ≠ 0) : Cp f [c] := ⟨[], [1 / c], fun x => by simp only [ev]; grind⟩
theorem Cp.one {f : Pl} : Cp f [1] := .const (by grind)

/-! ### common parts -/
structure IsGcd (p q d : Pl) : Prop where
  nm : Norm d
  ne : d ≠ []
  mo : lst d = 1
  dp : Dv d p
  dq : Dv d q
  gr : ∀ e : Pl, Dv e p → Dv e q → Dv e d

theorem Dv.trans {a b c : Pl} (h : Dv a b) (k : Dv b c) : Dv a c := by
  obtain ⟨e, h⟩ := h
  obtain ⟨f, k⟩ := k
  exact ⟨mulR f e, fun x => by rw [k, h, ev_mulR]; grind⟩
theorem Dv.refl (a : Pl) : Dv a a := ⟨[1], fun x => by simp only [ev]; grind⟩
theorem Dv.nil (a : Pl) : Dv a [] := ⟨[], fun x => by simp only [ev]; grind⟩
theorem Dv.lin {a b c : Pl} (u v : Pl) (h : Dv a b) (k : Dv a c) {r : Pl} (e : ∀ x : Rat, ev r x = ev u x * ev b x + ev v x * ev c x) : Dv a r := by
  obtain ⟨s, h⟩ := h
  obtain ⟨t, k⟩ := k
  exact ⟨addR (mulR u s) (mulR v t), fun x => by rw [e, h, k]; simp only [ev_addR, ev_mulR]; grind⟩
theorem Dv.norm_wit {d p : Pl} (h : Dv d p) : ∃ e : Pl, Norm e ∧ ∀ x : Rat, ev p x = ev e x * ev d x := by
  obtain ⟨e, h⟩ := h
  exact ⟨norm e, Norm_norm e, fun x => by rw [ev_norm]; exact h x⟩
theorem wit_len {d p e : Pl} (hd : Norm d) (hp : Norm p) (he : Norm e) (ed : d ≠ []) (ep : p ≠ []) (h : ∀ x : Rat, ev p x = ev e x * ev d x) : e ≠ [] ∧ p = mul e d ∧ p.length = e.length + d.length - 1 := by
  have e1 : p = mul e d := ident hp (Norm_mul _ _) fun x => by rw [h, ev_mul]
  have ne : e ≠ [] := fun z => by
    subst z
    exact ep e1
  exact ⟨ne, e1, by rw [e1, mul_len he hd ne ed]⟩
theorem dv_mono_eq {d d' : Pl} (hd : Norm d) (hd' : Norm d') (e : d ≠ []) (e' : d' ≠ []) (m : lst d = 1) (m' : lst d' = 1) (a : Dv d d') (b : Dv d' d) : d = d' := by
  obtain ⟨u, hu, h⟩ := a.norm_wit
  obtain ⟨v, hv, k⟩ := b.norm_wit
  obtain ⟨u1, u2, u3⟩ := wit_len hd hd' hu e e' h
  obtain ⟨v1, v2, v3⟩ := wit_len hd' hd hv e' e k
  have h1 : 1 ≤ u.length := List.length_pos_iff.mpr u1
  have h2 : 1 ≤ v.length := List.length_pos_iff.mpr v1
  have h3 : 1 ≤ d.length := List.length_pos_iff.mpr e
  have h4 : 1 ≤ d'.length := List.length_pos_iff.mpr e'
  have l1 : u.length = 1 := by omega
  obtain ⟨c, rfl⟩ : ∃ c, u = [c] := by
    match u, l1 with
    | [c], _ => exact ⟨c, rfl⟩
  have lm := lst_mul hu hd u1 e
  rw [← u2, m, m'] at lm
  have hc : c = 1 := by
    have : lst [c] = c := by simp [lst, co]
    rw [this] at lm; grind
  refine (ident hd' hd fun x => ?_).symm
  rw [h x, hc]
  simp only [ev]; grind
theorem IsGcd.unique {p q d d' : Pl} (a : IsGcd p q d) (b : IsGcd p q d') : d = d' :=
  dv_mono_eq a.nm b.nm a.ne b.ne a.mo b.mo (b.gr d a.dp a.dq) (a.gr d' b.dp b.dq)
/-- from a combination -/
theorem IsGcd.of {p q d : Pl} (hd : Norm d) (e : d ≠ []) (m : lst d = 1) (a : Dv d p) (b : Dv d q) (u v : Pl) (h : ∀ x : Rat, ev d x = ev u x * ev p x + ev v x * ev q x) : IsGcd p q d :=
  ⟨hd, e, m, a, b, fun _ h1 h2 => Dv.lin u v h1 h2 h⟩
theorem Dv_mon {p : Pl} (hp : Norm p) : Dv (mon p) p := by
  by_cases e : p = []
  · subst e; exact .refl _
  · have := lst_ne hp e
    exact ⟨[lst p], fun x => by rw [ev_mon e]; simp only [ev]; grind⟩
theorem mon_Dv {p : Pl} (hp : Norm p) : Dv p (mon p) := by
  by_cases e : p = []
  · subst e; exact .refl _
  · have := lst_ne hp e
    exact ⟨[1 / lst p], fun x => by rw [ev_mon e]; simp only [ev]; grind⟩
/-- one turn of the rests -/
theorem gcd_turn {p q r s : Pl} (hr : Norm r) (h : ∀ x : Rat, ev p x = ev s x * ev q x + ev r x) (e : Pl) : (Dv e p ∧ Dv e q) ↔ (Dv e q ∧ Dv e (mon r)) := by
  constructor
  · rintro ⟨a, b⟩
    refine ⟨b, Dv.trans (Dv.lin [1] (sclR (-1) s) a b (r := r) fun x => ?_) (mon_Dv hr)⟩
    have := h x
    simp only [ev, ev_sclR]; grind
  · rintro ⟨a, b⟩
    refine ⟨Dv.lin s [1] a (Dv.trans b (Dv_mon hr)) fun x => ?_, a⟩
    have := h x
    simp only [ev]; grind
/-- the end of the rests -/
theorem gcd_end {p q d : Pl} (hd : Norm d) (e : d ≠ []) (h : ∀ e : Pl, (Dv e p ∧ Dv e q) ↔ (Dv e d ∧ Dv e [])) : IsGcd p q (mon d) := by
  obtain ⟨a, b⟩ := (h (mon d)).mpr ⟨Dv_mon hd, Dv.nil _⟩
  exact ⟨Norm_mon d, mon_ne hd e, lst_mon hd e, a, b, fun f h1 h2 => Dv.trans ((h f).mp ⟨h1, h2⟩).1 (mon_Dv hd)⟩

/-! ### division -/
structure IsDiv (p d q r : Pl) : Prop where
  val : ∀ x : Rat, ev p x = ev q x * ev d x + ev r x
  nr : Norm r
  lr : r.length < d.length
  lq : q.length = p.length + 1 - d.length
theorem IsDiv.rest_nil {p d q r e : Pl} (h : IsDiv p d q r) (hd : Norm d) (he : ∀ x : Rat, ev p x = ev e x * ev d x) : r = [] := by
  have hdne : d ≠ [] := fun z => by subst z; exact absurd h.lr (by simp)
  refine Classical.byContradiction fun hr => ?_
  have k : ∀ x : Rat, ev r x = ev (norm (addR e (sclR (-1) q))) x * ev d x := fun x => by
    have h1 := h.val x
    have h2 := he x
    rw [ev_norm, ev_addR, ev_sclR]; grind
  obtain ⟨n1, _, n3⟩ := wit_len hd h.nr (Norm_norm _) hdne hr k
  have h1 : 1 ≤ (norm (addR e (sclR (-1) q))).length := List.length_pos_iff.mpr n1
  have := h.lr
  omega
theorem cancel {p q d : Pl} (hd : Norm d) (e : d ≠ []) (h : ∀ x : Rat, ev p x * ev d x = ev q x * ev d x) (x : Rat) : ev p x = ev q x := by
  have k : mul (norm (addR p (sclR (-1) q))) d = [] := ev_zero_of (Norm_mul _ _) fun x => by
    have := h x
    rw [ev_mul, ev_norm, ev_addR, ev_sclR]; grind
  have z : norm (addR p (sclR (-1) q)) = [] := Classical.byContradiction fun n => mul_ne_nil (Norm_norm _) hd n e k
  have := ev_norm x (addR p (sclR (-1) q))
  rw [z, ev_addR, ev_sclR, ev_nil] at this
  grind
/-- an exact division -/
theorem IsDiv.exact {p d q r e : Pl} (h : IsDiv p d q r) (hd : Norm d) (hp : Norm p) (hpn : p ≠ []) (hen : Norm e) (he : ∀ x : Rat, ev p x = ev e x * ev d x) : q = e ∧ r = [] := by
  have hdne : d ≠ [] := fun z => by subst z; exact absurd h.lr (by simp)
  have hr := h.rest_nil hd he
  refine ⟨?_, hr⟩
  obtain ⟨n1, _, n3⟩ := wit_len hd hp hen hdne hpn he
  have h1 : 1 ≤ e.length := List.length_pos_iff.mpr n1
  have h2 : 1 ≤ d.length := List.length_pos_iff.mpr hdne
  have hv : ∀ x : Rat, ev q x = ev e x := cancel hd hdne fun x => by
    have h1 := h.val x
    rw [hr, ev_nil] at h1
    have h2 := he x
    grind
  refine ident_len ?_ fun x _ _ => hv x
  have := h.lq
  omega
end NB

/-! NBBern: moved, stretched, mixing numbers, their signs. -/
namespace NB

/-! ### moved, stretched -/
def mov : Pl → Rat → Pl
  | [], _ => []
  | a :: p, c => add (mul (mov p c) [-c, 1]) (norm [a])
theorem ev_mov (c x : Rat) : ∀ p : Pl, ev (mov p c) x = ev p (x - c)
  | [] => rfl
  | a :: p => by
    rw [mov, ev_add, ev_mul, ev_norm, ev_mov c x p]
    simp only [ev]; grind
theorem Norm_mov (c : Rat) : ∀ p : Pl, Norm (mov p c)
  | [] => Norm_nil
  | a :: p => Norm_add _ _
theorem addR_Norm {p q : Pl} (hp : Norm p) (hl : q.length < p.length) : Norm (addR p q) := by
  intro e
  have hn : p ≠ [] := fun z => by subst z; simp at hl
  have l : (addR p q).length = p.length := by rw [addR_len]; omega
  rw [List.getLast?_eq_getElem?, l, List.getElem?_eq_getElem (by rw [l]; omega)] at e
  have e2 := Option.some.inj e
  rw [← co_lt (by rw [l]; omega), co_addR, co_ge (p := q) (by omega)] at e2
  have := Norm_len hp hn
  grind
theorem add_big {p q : Pl} (hp : Norm p) (hl : q.length < p.length) : (add p q).length = p.length := by
  rw [add, norm_of_Norm (addR_Norm hp hl), addR_len]; omega
theorem line_Norm (c : Rat) : Norm [c, 1] := by
  intro e
  have : (1 : Rat) = 0 := by simpa using e
  grind
theorem mov_len (c : Rat) : ∀ p : Pl, Norm p → (mov p c).length = p.length
  | [], _ => rfl
  | [a], h => by
    have ha := Norm_one_iff.mp h
    have : mov [a] c = [a] := ident (Norm_mov _ _) h fun x => by rw [ev_mov]; simp only [ev]; grind
    rw [this]
  | a :: b :: p, h => by
    have ih := mov_len c (b :: p) (Norm_tail h)
    have n1 : mov (b :: p) c ≠ [] := fun z => by rw [z] at ih; simp at ih
    have l := mul_len (Norm_mov c (b :: p)) (line_Norm (-c)) n1 (by simp)
    rw [ih] at l
    rw [mov, add_big (Norm_mul _ _)]
    · rw [l]; simp
    · have := norm_len [a]
      rw [l]; simp only [List.length_cons, List.length_nil] at *; omega

def strF : Pl → Rat → Rat → Pl
  | [], _, _ => []
  | a :: p, k, b => a / b :: strF p k (b * k)
def str (p : Pl) (k : Rat) : Pl := strF p k 1
theorem strF_len (k : Rat) : ∀ (p : Pl) (b : Rat), (strF p k b).length = p.length
  | [], _ => rfl
  | a :: p, b => by simp only [strF, List.length_cons, strF_len k p]
theorem ev_strF {k : Rat} (hk : k ≠ 0) (x : Rat) : ∀ (p : Pl) (b : Rat), b ≠ 0 → ev (strF p k b) x * b = ev p (x / k)
  | [], b, _ => by simp only [strF, ev]; grind
  | a :: p, b, hb => by
    have hbk : b * k ≠ 0 := fun e => by have := Rat.mul_eq_zero.mp e; grind
    have ih := ev_strF hk x p (b * k) hbk
    simp only [strF, ev]
    rw [← ih]
    grind
theorem str_len (p : Pl) (k : Rat) : (str p k).length = p.length := strF_len k p 1
theorem ev_str {k : Rat} (hk : k ≠ 0) (p : Pl) (x : Rat) : ev (str p k) x = ev p (x / k) := by
  have := ev_strF hk x p 1 (by grind)
  rw [str, ← this]; grind
theorem strF_last {k : Rat} (hk : k ≠ 0) : ∀ (p : Pl) (b : Rat), b ≠ 0 → Norm p → Norm (strF p k b)
  | [], _, _, _ => Norm_nil
  | [a], b, hb, h => by
    have ha := Norm_one_iff.mp h
    refine Norm_one fun e => ?_
    have : a / b * b = a := by grind
    rw [e] at this; grind
  | a :: c :: p, b, hb, h => by
    have hbk : b * k ≠ 0 := fun e => by have := Rat.mul_eq_zero.mp e; grind
    exact Norm_cons (strF_last hk (c :: p) (b * k) hbk (Norm_tail h)) (by simp [strF])
theorem Norm_str {k : Rat} (hk : k ≠ 0) {p : Pl} (h : Norm p) : Norm (str p k) := strF_last hk p 1 (by grind) h

/-! ### mixing numbers -/
def chs (n : Int) : Nat → Int
  | 0 => 1
  | j + 1 => (chs n j * (n - j)) / ((j : Int) + 1)
def sumTo (f : Nat → Rat) : Nat → Rat
  | 0 => 0
  | n + 1 => sumTo f n + f n
def onOne (p : Pl) (lo hi : Rat) : Pl := str (mov p (0 - lo)) (1 / (hi - lo))
def mixN (pw : Pl) (n k : Nat) : Rat := sumTo (fun j => (chs k j : Rat) / (chs n j : Rat) * co pw j) (min (k + 1) pw.length)
def mixP (pw : Pl) (n : Nat) : Pl := (List.range (n + 1)).map (mixN pw n)
def mixd (p : Pl) (lo hi : Rat) (n : Nat) : Pl := mixP (onOne p lo hi) n

theorem onOne_len {p : Pl} (h : Norm p) (lo hi : Rat) : (onOne p lo hi).length = p.length := by
  rw [onOne, str_len, mov_len _ _ h]
theorem ev_onOne (p : Pl) {lo hi : Rat} (h : lo < hi) (t : Rat) : ev (onOne p lo hi) t = ev p (lo + (hi - lo) * t) := by
  have hw : hi - lo ≠ 0 := by grind
  rw [onOne, ev_str (one_div_ne hw), ev_mov]
  congr 1
  grind

/-! ### homogeneous values -/
def hom : Pl → Rat → Rat → Rat
  | [], _, _ => 0
  | a :: L, t, u => a * u ^ L.length + t * hom L t u
theorem hom_scale (z u : Rat) : ∀ (a : Rat) (L : Pl), hom (a :: L) (z * u) u = u ^ L.length * ev (a :: L) z
  | a, [] => by simp only [hom, ev, List.length_nil]; grind
  | a, b :: L => by
    have ih := hom_scale z u b L
    rw [hom, ih, ev_cons a]
    simp only [List.length_cons]
    grind
structure Bern (L p : Pl) (s e : Rat) : Prop where
  len : L.length = p.length
  val : ∀ t : Rat, hom L t (1 - t) = ev p (s + (e - s) * t)
theorem rpow_add (u : Rat) (m : Nat) : ∀ n : Nat, u ^ (m + n) = u ^ m * u ^ n
  | 0 => by rw [Nat.add_zero, Rat.pow_zero]; grind
  | n + 1 => by rw [← Nat.add_assoc, Rat.pow_succ, rpow_add u m n, Rat.pow_succ]; grind
theorem pow_pos' {u : Rat} (h : 0 < u) : ∀ n : Nat, 0 < u ^ n
  | 0 => by rw [Rat.pow_zero]; grind
  | n + 1 => by rw [Rat.pow_succ]; exact Rat.mul_pos (pow_pos' h n) h
theorem hom_ev {a : Rat} {L : Pl} {z : Rat} (hz : 0 < z) : hom (a :: L) (z / (1 + z)) (1 - z / (1 + z)) = (1 / (1 + z)) ^ L.length * ev (a :: L) z := by
  have h1 : (1 : Rat) + z ≠ 0 := by grind
  have e1 : 1 - z / (1 + z) = 1 / (1 + z) := by grind
  have e2 : z / (1 + z) = z * (1 / (1 + z)) := by grind
  rw [e1, e2, hom_scale]
theorem Bern.unique {L M p : Pl} {s e : Rat} (a : Bern L p s e) (b : Bern M p s e) : L = M := by
  have hl : L.length = M.length := by rw [a.len, b.len]
  cases L with
  | nil => exact (List.length_eq_zero_iff.mp hl.symm).symm
  | cons c L =>
    cases M with
    | nil => simp at hl
    | cons d M =>
      refine ident_len hl fun z h0 _ => ?_
      have e1 := hom_ev (a := c) (L := L) h0
      have e2 := hom_ev (a := d) (L := M) h0
      rw [a.val, ← b.val, e2] at e1
      simp only [List.length_cons, Nat.add_right_cancel_iff] at hl
      rw [hl] at e1
      have hp : 0 < (1 / (1 + z) : Rat) ^ M.length := pow_pos' (rat_div_pos (by grind) (by grind)) _
      have : (1 / (1 + z) : Rat) ^ M.length * (ev (c :: L) z - ev (d :: M) z) = 0 := by grind
      have := Rat.mul_eq_zero.mp this
      grind
theorem hom_addR (t u : Rat) : ∀ L M : Pl, L.length = M.length → hom (addR L M) t u = hom L t u + hom M t u
  | [], [], _ => by simp only [addR, hom]; grind
  | [], b :: M, h => by simp at h
  | a :: L, [], h => by simp at h
  | a :: L, b :: M, h => by
    have hl : L.length = M.length := by simpa using h
    simp only [addR, hom]
    rw [hom_addR t u L M hl, addR_len, hl, Nat.max_self]
    grind
theorem hom_sclR (k t u : Rat) : ∀ L : Pl, hom (sclR k L) t u = hom L t u * k
  | [] => by simp only [sclR, List.map_nil, hom]; grind
  | a :: L => by
    have ih := hom_sclR k t u L
    show hom (a * k :: sclR k L) t u = _
    rw [hom, ih, sclR_len, hom]; grind
theorem hom_mulR {t u : Rat} (hu : u ≠ 0) {a b : Rat} {L M : Pl} : hom (mulR (a :: L) (b :: M)) t u = hom (a :: L) t u * hom (b :: M) t u := by
  have e : t = t / u * u := by grind
  have hl := mulR_len (a :: L) (b :: M) (by simp) (by simp)
  obtain ⟨c, N, hN⟩ : ∃ c N, mulR (a :: L) (b :: M) = c :: N := by
    cases h : mulR (a :: L) (b :: M) with
    | nil => rw [h] at hl; simp only [List.length_cons, List.length_nil] at hl; omega
    | cons c N => exact ⟨c, N, rfl⟩
  rw [hN, e, hom_scale, hom_scale, hom_scale, ← hN, ev_mulR]
  have : N.length = L.length + M.length := by
    rw [hN] at hl; simp only [List.length_cons] at hl; omega
  rw [this, rpow_add]
  grind
/-- a product of mixing lists belongs to the product -/
theorem Bern.mul {L M p q r : Pl} {s e : Rat} (a : Bern L p s e) (b : Bern M q s e) (hp : p ≠ []) (hq : q ≠ []) (hl : r.length = p.length + q.length - 1) (hv : ∀ x : Rat, ev r x = ev p x * ev q x) : Bern (mulR L M) r s e := by
  have nl : L ≠ [] := fun z => by have := a.len; rw [z] at this; exact hp (List.length_eq_zero_iff.mp this.symm)
  have nm : M ≠ [] := fun z => by have := b.len; rw [z] at this; exact hq (List.length_eq_zero_iff.mp this.symm)
  have ll := mulR_len L M nm nl
  refine ⟨by rw [ll, hl, a.len, b.len], fun t => ?_⟩
  obtain ⟨c, N, hN⟩ : ∃ c N, mulR L M = c :: N := by
    cases h : mulR L M with
    | nil => rw [h] at ll; have h1 := List.length_pos_iff.mpr nl; have h2 := List.length_pos_iff.mpr nm; simp at ll; omega
    | cons c N => exact ⟨c, N, rfl⟩
  obtain ⟨x, L', rfl⟩ := List.exists_cons_of_ne_nil nl
  obtain ⟨y, M', rfl⟩ := List.exists_cons_of_ne_nil nm
  by_cases hu : (1 : Rat) - t = 0
  · -- t = 1: both sides are values of one-variable curves; by the last ones
    have key : ∀ (a : Rat) (L : Pl), hom (a :: L) 1 0 = co (a :: L) L.length := by
      intro a L
      induction L generalizing a with
      | nil => simp only [hom, List.length_nil, co_zero]; rw [Rat.pow_zero]; grind
      | cons b L ih => rw [hom, ih b, List.length_cons, co_succ, Rat.pow_succ]; grind
    have e1 : t = 1 := by grind
    have va := a.val 1
    have vb := b.val 1
    have z : (1 : Rat) - 1 = 0 := by grind
    rw [z, key] at va vb
    rw [e1, z, hN, key, ← hN]
    have hlast := mulR_last (x :: L') (y :: M') (by simp) (by simp)
    have hNl : N.length = (x :: L').length + (y :: M').length - 2 := by
      rw [hN] at ll; simp only [List.length_cons] at ll ⊢; omega
    rw [hNl, hlast, hv]
    simp only [List.length_cons, Nat.add_sub_cancel]
    rw [va, vb]
  · rw [hom_mulR hu, a.val, b.val, hv]
theorem Bern.scl {L p r : Pl} {s e k : Rat} (a : Bern L p s e) (hl : r.length = p.length) (hv : ∀ x : Rat, ev r x = ev p x * k) : Bern (sclR k L) r s e :=
  ⟨by rw [sclR_len, a.len, hl], fun t => by rw [hom_sclR, a.val, hv]⟩
theorem Bern.congr {L p r : Pl} {s e : Rat} (a : Bern L p s e) (hl : r.length = p.length) (hv : ∀ x : Rat, ev r x = ev p x) : Bern L r s e :=
  ⟨by rw [a.len, hl], fun t => by rw [a.val, hv]⟩

/-! ### lists of one sign -/
structure One (σ : Rat) (L : Pl) : Prop where
  nn : ∀ i : Nat, 0 ≤ σ * co L i
  ps : 0 < σ * ev L 1
theorem nn_mulR {σ τ : Rat} : ∀ {L M : Pl}, (∀ i : Nat, 0 ≤ σ * co L i) → (∀ i : Nat, 0 ≤ τ * co M i) → ∀ i : Nat, 0 ≤ σ * τ * co (mulR L M) i
  | [], M, _, _, i => by rw [mulR, co_nil]; grind
  | a :: L, M, hL, hM, i => by
    rw [mulR, co_addR, co_sclR]
    have h0 := hL 0
    rw [co_zero] at h0
    have h1 := Rat.mul_nonneg h0 (hM i)
    have ih := nn_mulR (σ := σ) (τ := τ) (L := L) (M := M) (fun i => by have := hL (i + 1); rwa [co_succ] at this) hM
    cases i with
    | zero => rw [co_zero]; grind
    | succ i => rw [co_succ]; have := ih i; grind
theorem One.mul {σ τ : Rat} {L M : Pl} (a : One σ L) (b : One τ M) : One (σ * τ) (mulR L M) :=
  ⟨nn_mulR a.nn b.nn, by
    rw [ev_mulR]
    have := Rat.mul_pos a.ps b.ps
    grind⟩
theorem One.scl {σ k : Rat} {L : Pl} (a : One σ L) (hk : k ≠ 0) : One (σ * k) (sclR k L) := by
  have hk2 : 0 < k * k := by
    by_cases h : 0 < k
    · exact Rat.mul_pos h h
    · have : 0 < -k := by grind
      have := Rat.mul_pos this this
      grind
  refine ⟨fun i => ?_, ?_⟩
  · rw [co_sclR]
    have := Rat.mul_nonneg (Rat.le_of_lt hk2) (a.nn i)
    grind
  · rw [ev_sclR]
    have := Rat.mul_pos hk2 a.ps
    grind
theorem One.re {σ τ : Rat} {L : Pl} (a : One σ L) (h : 0 < σ * τ) : One τ L := by
  -- τ has the sign of σ
  have key : ∀ y : Rat, 0 ≤ σ * y → 0 ≤ τ * y := fun y hy => by
    by_cases hs : 0 < σ
    · have ht : 0 < τ := by
        by_cases h' : 0 < τ
        · exact h'
        · have := Rat.mul_nonneg (Rat.le_of_lt hs) (show (0 : Rat) ≤ -τ by grind)
          grind
      have : 0 ≤ y := by
        by_cases h' : 0 ≤ y
        · exact h'
        · have := Rat.mul_pos hs (show (0 : Rat) < -y by grind)
          grind
      exact Rat.mul_nonneg (Rat.le_of_lt ht) this
    · by_cases h0 : σ = 0
      · rw [h0] at h; grind
      · have hs' : 0 < -σ := by grind
        have ht : 0 < -τ := by
          by_cases h' : 0 < -τ
          · exact h'
          · have := Rat.mul_nonneg (Rat.le_of_lt hs') (show (0 : Rat) ≤ τ by grind)
            grind
        have : 0 ≤ -y := by
          by_cases h' : 0 ≤ -y
          · exact h'
          · have := Rat.mul_pos hs' (show (0 : Rat) < y by grind)
            grind
        have := Rat.mul_nonneg (Rat.le_of_lt ht) this
        grind
  refine ⟨fun i => key _ (a.nn i), ?_⟩
  have h1 := key _ (Rat.le_of_lt a.ps)
  have h2 : τ * ev L 1 ≠ 0 := fun e => by
    rcases Rat.mul_eq_zero.mp e with e | e
    · rw [e] at h; grind
    · have := a.ps; rw [e] at this; grind
  grind
theorem nn_ev {σ z : Rat} (hz : 0 < z) : ∀ {L : Pl}, (∀ i : Nat, 0 ≤ σ * co L i) → 0 ≤ σ * ev L z ∧ (σ * ev L z = 0 → ∀ i : Nat, σ * co L i = 0)
  | [], _ => ⟨by rw [ev_nil]; grind, fun _ i => by rw [co_nil]; grind⟩
  | a :: L, h => by
    have h0 := h 0
    rw [co_zero] at h0
    obtain ⟨i1, i2⟩ := nn_ev (σ := σ) hz (L := L) fun i => by have := h (i + 1); rwa [co_succ] at this
    have h1 := Rat.mul_nonneg (Rat.le_of_lt hz) i1
    rw [ev_cons]
    refine ⟨by grind, fun e i => ?_⟩
    have ea : σ * a = 0 := by grind
    have ez : z * (σ * ev L z) = 0 := by grind
    have el : σ * ev L z = 0 := by
      rcases Rat.mul_eq_zero.mp ez with e | e
      · grind
      · exact e
    cases i with
    | zero => rw [co_zero]; exact ea
    | succ i => rw [co_succ]; exact i2 el i
theorem One.ev_pos {σ : Rat} {L : Pl} (a : One σ L) {z : Rat} (hz : 0 < z) : 0 < σ * ev L z := by
  obtain ⟨h1, h2⟩ := nn_ev hz a.nn
  by_cases h : σ * ev L z = 0
  · exfalso
    have h3 := h2 h
    have : ∀ L : Pl, (∀ i : Nat, σ * co L i = 0) → σ * ev L 1 = 0 := by
      intro L
      induction L with
      | nil => intro _; rw [ev_nil]; grind
      | cons a L ih =>
        intro hh
        have e0 := hh 0
        rw [co_zero] at e0
        have := ih fun i => by have := hh (i + 1); rwa [co_succ] at this
        rw [ev_cons]; grind
    have := this L h3
    have := a.ps
    grind
  · grind
theorem One.hom_pos {σ : Rat} {L : Pl} (a : One σ L) {t : Rat} (h0 : 0 < t) (h1 : t < 1) : 0 < σ * hom L t (1 - t) := by
  cases L with
  | nil => have := a.ps; rw [ev_nil] at this; grind
  | cons b L =>
    have hu : 0 < 1 - t := by grind
    have e : t = t / (1 - t) * (1 - t) := by grind
    have hz : 0 < t / (1 - t) := rat_div_pos h0 hu
    have k : hom (b :: L) t (1 - t) = (1 - t) ^ L.length * ev (b :: L) (t / (1 - t)) := by
      have := hom_scale (t / (1 - t)) (1 - t) b L
      rwa [← e] at this
    rw [k]
    have := Rat.mul_pos (pow_pos' hu L.length) (a.ev_pos hz)
    grind
/-- the sign of mixing numbers -/
def sgnOf (L : Pl) : Int := if (∀ a ∈ L, 0 ≤ a) ∧ (∃ a ∈ L, 0 < a) then 1 else if (∀ a ∈ L, a ≤ 0) ∧ (∃ a ∈ L, a < 0) then -1 else 0
theorem nn_ev1 {σ : Rat} : ∀ {L : Pl}, (∀ a ∈ L, 0 ≤ σ * a) → 0 ≤ σ * ev L 1 ∧ ∀ a ∈ L, σ * a ≤ σ * ev L 1
  | [], _ => ⟨by rw [ev_nil]; grind, fun a h => by simp at h⟩
  | b :: L, h => by
    obtain ⟨i1, i2⟩ := nn_ev1 (σ := σ) (L := L) fun a ha => h a (List.mem_cons_of_mem _ ha)
    have hb := h b List.mem_cons_self
    rw [ev_cons]
    refine ⟨by grind, fun a ha => ?_⟩
    rcases List.mem_cons.mp ha with rfl | ha
    · grind
    · have := i2 a ha; grind
theorem one_iff {σ : Rat} {L : Pl} : One σ L ↔ (∀ a ∈ L, 0 ≤ σ * a) ∧ ∃ a ∈ L, 0 < σ * a := by
  constructor
  · intro h
    have hm : ∀ a ∈ L, 0 ≤ σ * a := fun a ha => by
      obtain ⟨i, hi, e⟩ := List.getElem_of_mem ha
      have := h.nn i
      rwa [co_lt hi, e] at this
    refine ⟨hm, Classical.byContradiction fun hn => ?_⟩
    have h0 : ∀ a ∈ L, σ * a = 0 := fun a ha => by
      have h1 := hm a ha
      by_cases h2 : 0 < σ * a
      · exact absurd ⟨a, ha, h2⟩ hn
      · grind
    have : ∀ L : Pl, (∀ a ∈ L, σ * a = 0) → σ * ev L 1 = 0 := by
      intro L
      induction L with
      | nil => intro _; rw [ev_nil]; grind
      | cons b L ih =>
        intro hh
        have := hh b List.mem_cons_self
        have := ih fun a ha => hh a (List.mem_cons_of_mem _ ha)
        rw [ev_cons]; grind
    have := this L h0
    have := h.ps
    grind
  · rintro ⟨h1, a, ha, h2⟩
    refine ⟨fun i => ?_, ?_⟩
    · by_cases hi : i < L.length
      · rw [co_lt hi]; exact h1 _ (List.getElem_mem hi)
      · rw [co_ge (by omega)]; grind
    · have := (nn_ev1 h1).2 a ha
      grind
theorem sgnOf_pos {L : Pl} : sgnOf L = 1 ↔ One 1 L := by
  rw [one_iff]
  unfold sgnOf
  have e1 : ∀ a : Rat, 1 * a = a := fun a => by grind
  simp only [e1]
  constructor
  · intro h
    split at h
    · assumption
    · split at h <;> exact absurd h (by decide)
  · intro h
    rw [if_pos h]
theorem not_both {L : Pl} (a : One 1 L) (b : One (-1) L) : False := by
  have h1 := a.ps
  have h2 := b.ps
  grind
theorem sgnOf_neg {L : Pl} : sgnOf L = -1 ↔ One (-1) L := by
  have key : One (-1) L ↔ (∀ a ∈ L, a ≤ 0) ∧ ∃ a ∈ L, a < 0 := by
    rw [one_iff]
    constructor
    · rintro ⟨h1, a, ha, h2⟩
      exact ⟨fun b hb => by have := h1 b hb; grind, a, ha, by grind⟩
    · rintro ⟨h1, a, ha, h2⟩
      exact ⟨fun b hb => by have := h1 b hb; grind, a, ha, by grind⟩
  constructor
  · intro h
    rw [key]
    unfold sgnOf at h
    split at h
    · exact absurd h (by decide)
    · split at h
      · assumption
      · exact absurd h (by decide)
  · intro h
    have hp : ¬ ((∀ a ∈ L, 0 ≤ a) ∧ ∃ a ∈ L, 0 < a) := fun q => by
      have : One 1 L := sgnOf_pos.mp (by unfold sgnOf; rw [if_pos q])
      exact not_both this h
    unfold sgnOf
    rw [if_neg hp, if_pos (key.mp h)]
theorem sgnOf_cases (L : Pl) : sgnOf L = 1 ∨ sgnOf L = -1 ∨ sgnOf L = 0 := by
  unfold sgnOf
  split
  · exact .inl rfl
  · split
    · exact .inr (.inl rfl)
    · exact .inr (.inr rfl)
theorem sgnOf_ne {L : Pl} : sgnOf L ≠ 0 ↔ ∃ σ : Rat, (σ = 1 ∨ σ = -1) ∧ One σ L := by
  constructor
  · intro h
    rcases sgnOf_cases L with e | e | e
    · exact ⟨1, .inl rfl, sgnOf_pos.mp e⟩
    · exact ⟨-1, .inr rfl, sgnOf_neg.mp e⟩
    · exact absurd e h
  · rintro ⟨σ, rfl | rfl, h⟩
    · rw [sgnOf_pos.mpr h]; decide
    · rw [sgnOf_neg.mpr h]; decide
end NB

/-! NBMix: the program's mixing numbers and mixing lists. -/
namespace NB

theorem mixP1 (a : Rat) : mixP [a] 0 = [a] := by
  have e0 : mixN [a] 0 0 = a := by
    show 0 + (chs 0 0 : Rat) / (chs 0 0 : Rat) * a = a
    simp only [chs]; grind
  show [mixN [a] 0 0] = _
  rw [e0]
theorem mixP2 (a b : Rat) : mixP [a, b] 1 = [a, a + b] := by
  have e0 : mixN [a, b] 1 0 = a := by
    show 0 + (chs 0 0 : Rat) / (chs 1 0 : Rat) * a = a
    simp only [chs]; grind
  have e1 : mixN [a, b] 1 1 = a + b := by
    show 0 + (chs 1 0 : Rat) / (chs 1 0 : Rat) * a + (chs 1 1 : Rat) / (chs 1 1 : Rat) * b = a + b
    have : chs 1 1 = 1 := by decide
    rw [this]; simp only [chs]; grind
  show [mixN [a, b] 1 0, mixN [a, b] 1 1] = _
  rw [e0, e1]
theorem mixP3 (a b c : Rat) : mixP [a, b, c] 2 = [a, a + b / 2, a + b + c] := by
  have c0 : ∀ n : Int, chs n 0 = 1 := fun _ => rfl
  have h11 : chs 1 1 = 1 := by decide
  have h21 : chs 2 1 = 2 := by decide
  have h22 : chs 2 2 = 1 := by decide
  have e0 : mixN [a, b, c] 2 0 = a := by
    show 0 + (chs 0 0 : Rat) / (chs 2 0 : Rat) * a = a
    simp only [c0]; grind
  have e1 : mixN [a, b, c] 2 1 = a + b / 2 := by
    show 0 + (chs 1 0 : Rat) / (chs 2 0 : Rat) * a + (chs 1 1 : Rat) / (chs 2 1 : Rat) * b = _
    simp only [c0, h11, h21]; grind
  have e2 : mixN [a, b, c] 2 2 = a + b + c := by
    show 0 + (chs 2 0 : Rat) / (chs 2 0 : Rat) * a + (chs 2 1 : Rat) / (chs 2 1 : Rat) * b + (chs 2 2 : Rat) / (chs 2 2 : Rat) * c = _
    simp only [c0, h21, h22]; grind
  show [mixN [a, b, c] 2 0, mixN [a, b, c] 2 1, mixN [a, b, c] 2 2] = _
  rw [e0, e1, e2]
theorem mixP4 (a b c d : Rat) : mixP [a, b, c, d] 3 = [a, a + b / 3, a + 2 * b / 3 + c / 3, a + b + c + d] := by
  have c0 : ∀ n : Int, chs n 0 = 1 := fun _ => rfl
  have h11 : chs 1 1 = 1 := by decide
  have h21 : chs 2 1 = 2 := by decide
  have h22 : chs 2 2 = 1 := by decide
  have h31 : chs 3 1 = 3 := by decide
  have h32 : chs 3 2 = 3 := by decide
  have h33 : chs 3 3 = 1 := by decide
  have e0 : mixN [a, b, c, d] 3 0 = a := by
    show 0 + (chs 0 0 : Rat) / (chs 3 0 : Rat) * a = a
    simp only [c0]; grind
  have e1 : mixN [a, b, c, d] 3 1 = a + b / 3 := by
    show 0 + (chs 1 0 : Rat) / (chs 3 0 : Rat) * a + (chs 1 1 : Rat) / (chs 3 1 : Rat) * b = _
    simp only [c0, h11, h31]; grind
  have e2 : mixN [a, b, c, d] 3 2 = a + 2 * b / 3 + c / 3 := by
    show 0 + (chs 2 0 : Rat) / (chs 3 0 : Rat) * a + (chs 2 1 : Rat) / (chs 3 1 : Rat) * b + (chs 2 2 : Rat) / (chs 3 2 : Rat) * c = _
    simp only [c0, h21, h22, h31, h32]; grind
  have e3 : mixN [a, b, c, d] 3 3 = a + b + c + d := by
    show 0 + (chs 3 0 : Rat) / (chs 3 0 : Rat) * a + (chs 3 1 : Rat) / (chs 3 1 : Rat) * b + (chs 3 2 : Rat) / (chs 3 2 : Rat) * c + (chs 3 3 : Rat) / (chs 3 3 : Rat) * d = _
    simp only [c0, h31, h32, h33]; grind
  show [mixN [a, b, c, d] 3 0, mixN [a, b, c, d] 3 1, mixN [a, b, c, d] 3 2, mixN [a, b, c, d] 3 3] = _
  rw [e0, e1, e2, e3]
theorem mixP5 (a b c d f : Rat) : mixP [a, b, c, d, f] 4 = [a, a + b / 4, a + b / 2 + c / 6, a + 3 * b / 4 + c / 2 + d / 4, a + b + c + d + f] := by
  have c0 : ∀ n : Int, chs n 0 = 1 := fun _ => rfl
  have h11 : chs 1 1 = 1 := by decide
  have h21 : chs 2 1 = 2 := by decide
  have h22 : chs 2 2 = 1 := by decide
  have h31 : chs 3 1 = 3 := by decide
  have h32 : chs 3 2 = 3 := by decide
  have h33 : chs 3 3 = 1 := by decide
  have h41 : chs 4 1 = 4 := by decide
  have h42 : chs 4 2 = 6 := by decide
  have h43 : chs 4 3 = 4 := by decide
  have h44 : chs 4 4 = 1 := by decide
  have e0 : mixN [a, b, c, d, f] 4 0 = a := by
    show 0 + (chs 0 0 : Rat) / (chs 4 0 : Rat) * a = a
    simp only [c0]; grind
  have e1 : mixN [a, b, c, d, f] 4 1 = a + b / 4 := by
    show 0 + (chs 1 0 : Rat) / (chs 4 0 : Rat) * a + (chs 1 1 : Rat) / (chs 4 1 : Rat) * b = _
    simp only [c0, h11, h41]; grind
  have e2 : mixN [a, b, c, d, f] 4 2 = a + b / 2 + c / 6 := by
    show 0 + (chs 2 0 : Rat) / (chs 4 0 : Rat) * a + (chs 2 1 : Rat) / (chs 4 1 : Rat) * b + (chs 2 2 : Rat) / (chs 4 2 : Rat) * c = _
    simp only [c0, h21, h22, h41, h42]; grind
  have e3 : mixN [a, b, c, d, f] 4 3 = a + 3 * b / 4 + c / 2 + d / 4 := by
    show 0 + (chs 3 0 : Rat) / (chs 4 0 : Rat) * a + (chs 3 1 : Rat) / (chs 4 1 : Rat) * b + (chs 3 2 : Rat) / (chs 4 2 : Rat) * c + (chs 3 3 : Rat) / (chs 4 3 : Rat) * d = _
    simp only [c0, h31, h32, h33, h41, h42, h43]; grind
  have e4 : mixN [a, b, c, d, f] 4 4 = a + b + c + d + f := by
    show 0 + (chs 4 0 : Rat) / (chs 4 0 : Rat) * a + (chs 4 1 : Rat) / (chs 4 1 : Rat) * b + (chs 4 2 : Rat) / (chs 4 2 : Rat) * c + (chs 4 3 : Rat) / (chs 4 3 : Rat) * d + (chs 4 4 : Rat) / (chs 4 4 : Rat) * f = _
    simp only [c0, h41, h42, h43, h44]; grind
  show [mixN [a, b, c, d, f] 4 0, mixN [a, b, c, d, f] 4 1, mixN [a, b, c, d, f] 4 2, mixN [a, b, c, d, f] 4 3, mixN [a, b, c, d, f] 4 4] = _
  rw [e0, e1, e2, e3, e4]

/-- mixing lists: the numbers times the ways to choose -/
theorem mix_hom : ∀ pw : Pl, pw ≠ [] → pw.length ≤ 5 → ∃ L : Pl, L.length = pw.length ∧ (∀ t : Rat, hom L t (1 - t) = ev pw t) ∧ ∀ σ : Rat, One σ (mixP pw (pw.length - 1)) ↔ One σ L
  | [], h, _ => absurd rfl h
  | [a], _, _ => ⟨[a], rfl, fun t => by simp only [hom, ev, List.length_nil]; rw [Rat.pow_zero]; grind, fun σ => by rw [show [a].length - 1 = 0 from rfl, mixP1]⟩
  | [a, b], _, _ => ⟨[a, a + b], rfl, fun t => by
      simp only [hom, ev, List.length_nil, List.length_cons]
      rw [Rat.pow_zero]; grind, fun σ => by rw [show [a, b].length - 1 = 1 from rfl, mixP2]⟩
  | [a, b, c], _, _ => ⟨[a, 2 * a + b, a + b + c], rfl, fun t => by
      simp only [hom, ev, List.length_nil, List.length_cons]
      grind, fun σ => by
      rw [show [a, b, c].length - 1 = 2 from rfl, mixP3, one_iff, one_iff]
      simp only [List.mem_cons, List.not_mem_nil, or_false, forall_eq_or_imp, forall_eq, exists_eq_or_imp, exists_eq_left]
      have e : σ * (2 * a + b) = 2 * (σ * (a + b / 2)) := by grind
      rw [e]
      generalize σ * (a + b / 2) = y
      generalize σ * (a + b + c) = z
      generalize σ * a = x
      grind⟩
  | [a, b, c, d], _, _ => ⟨[a, 3 * a + b, 3 * a + 2 * b + c, a + b + c + d], rfl, fun t => by
      simp only [hom, ev, List.length_nil, List.length_cons]
      grind, fun σ => by
      rw [show [a, b, c, d].length - 1 = 3 from rfl, mixP4, one_iff, one_iff]
      simp only [List.mem_cons, List.not_mem_nil, or_false, forall_eq_or_imp, forall_eq, exists_eq_or_imp, exists_eq_left]
      have e : σ * (3 * a + b) = 3 * (σ * (a + b / 3)) := by grind
      have e2 : σ * (3 * a + 2 * b + c) = 3 * (σ * (a + 2 * b / 3 + c / 3)) := by grind
      rw [e, e2]
      generalize σ * (a + b / 3) = y
      generalize σ * (a + 2 * b / 3 + c / 3) = z
      generalize σ * (a + b + c + d) = w
      generalize σ * a = x
      grind⟩
  | [a, b, c, d, f], _, _ => ⟨[a, 4 * a + b, 6 * a + 3 * b + c, 4 * a + 3 * b + 2 * c + d, a + b + c + d + f], rfl, fun t => by
      simp only [hom, ev, List.length_nil, List.length_cons]
      grind, fun σ => by
      rw [show [a, b, c, d, f].length - 1 = 4 from rfl, mixP5, one_iff, one_iff]
      simp only [List.mem_cons, List.not_mem_nil, or_false, forall_eq_or_imp, forall_eq, exists_eq_or_imp, exists_eq_left]
      have e : σ * (4 * a + b) = 4 * (σ * (a + b / 4)) := by grind
      have e2 : σ * (6 * a + 3 * b + c) = 6 * (σ * (a + b / 2 + c / 6)) := by grind
      have e3 : σ * (4 * a + 3 * b + 2 * c + d) = 4 * (σ * (a + 3 * b / 4 + c / 2 + d / 4)) := by grind
      rw [e, e2, e3]
      generalize σ * (a + b / 4) = y
      generalize σ * (a + b / 2 + c / 6) = z
      generalize σ * (a + 3 * b / 4 + c / 2 + d / 4) = w
      generalize σ * (a + b + c + d + f) = v
      generalize σ * a = x
      grind⟩
  | a :: b :: c :: d :: f :: g :: r, _, h => absurd h (by simp only [List.length_cons]; omega)

theorem mix_bern {p : Pl} (hp : Norm p) (h1 : p ≠ []) (h5 : p.length ≤ 5) {s e : Rat} (h : s < e) : ∃ L : Pl, Bern L p s e ∧ ∀ σ : Rat, One σ (mixd p s e (p.length - 1)) ↔ One σ L := by
  have hl := onOne_len hp s e
  have hne : onOne p s e ≠ [] := fun z => by rw [z] at hl; exact h1 (List.length_eq_zero_iff.mp hl.symm)
  obtain ⟨L, l1, l2, l3⟩ := mix_hom (onOne p s e) hne (by rw [hl]; exact h5)
  refine ⟨L, ⟨by rw [l1, hl], fun t => by rw [l2, ev_onOne p h]⟩, fun σ => ?_⟩
  rw [← l3, hl]; rfl

/-- the sign that the program finds on a stretch -/
def clr (p : Pl) (s e : Rat) : Int := sgnOf (mixd p s e (p.length - 1))
section
variable {p : Pl} {s e : Rat}
theorem clr_ne (hp : Norm p) (h1 : p ≠ []) (h5 : p.length ≤ 5) (h : s < e) {L : Pl} (b : Bern L p s e) {σ : Rat} (hs : σ = 1 ∨ σ = -1) (o : One σ L) : clr p s e ≠ 0 := by
  obtain ⟨M, b2, k⟩ := mix_bern hp h1 h5 h
  rw [b2.unique b] at k
  exact sgnOf_ne.mpr ⟨σ, hs, (k σ).mpr o⟩
theorem clr_ne' (hp : Norm p) (h1 : p ≠ []) (h5 : p.length ≤ 5) (h : s < e) {L : Pl} (b : Bern L p s e) {σ : Rat} (o : One σ L) : clr p s e ≠ 0 := by
  by_cases hs : 0 < σ
  · exact clr_ne hp h1 h5 h b (.inl rfl) (o.re (by grind))
  · have : σ ≠ 0 := fun z => by have := o.ps; rw [z] at this; grind
    exact clr_ne hp h1 h5 h b (.inr rfl) (o.re (by grind))
/-- .. shows the sign between both ends -/
theorem clr_sign (hp : Norm p) (h1 : p ≠ []) (h5 : p.length ≤ 5) (h : s < e) (hc : clr p s e ≠ 0) : ∃ σ : Rat, (σ = 1 ∨ σ = -1) ∧ ∀ x : Rat, s < x → x < e → 0 < σ * ev p x := by
  obtain ⟨σ, hs, o⟩ := sgnOf_ne.mp hc
  obtain ⟨L, b, k⟩ := mix_bern hp h1 h5 h
  refine ⟨σ, hs, fun x h0 h2 => ?_⟩
  have hw : 0 < e - s := by grind
  have t0 : 0 < (x - s) / (e - s) := rat_div_pos (by grind) hw
  have t1 : (x - s) / (e - s) < 1 := by
    have : 0 < (e - x) / (e - s) := rat_div_pos (by grind) hw
    grind
  have := ((k σ).mp o).hom_pos t0 t1
  rw [b.val] at this
  have e2 : s + (e - s) * ((x - s) / (e - s)) = x := by grind
  rwa [e2] at this
end
end NB

/-! NBShape: curves made of factors: common parts, plain parts, one-signed lists. -/
namespace NB

/-! ### powers, the common part of a curve and its slope -/
def pw (f : Pl) : Nat → Pl
  | 0 => [1]
  | n + 1 => mul f (pw f n)
theorem ev_pw (f : Pl) (x : Rat) : ∀ n : Nat, ev (pw f n) x = ev f x ^ n
  | 0 => by simp only [pw, ev]; rw [Rat.pow_zero]; grind
  | n + 1 => by rw [pw, ev_mul, ev_pw f x n, Rat.pow_succ]; grind
theorem Norm_1 : Norm [1] := Norm_one (by grind)
theorem lst_1 : lst [1] = 1 := rfl
structure Mo (f : Pl) : Prop where
  nm : Norm f
  ne : f ≠ []
  mo : lst f = 1
theorem Mo.one : Mo [1] := ⟨Norm_1, by simp, lst_1⟩
theorem Mo.mul {f g : Pl} (a : Mo f) (b : Mo g) : Mo (mul f g) :=
  ⟨Norm_mul _ _, mul_ne_nil a.nm b.nm a.ne b.ne, by rw [lst_mul a.nm b.nm a.ne b.ne, a.mo, b.mo]; grind⟩
theorem Mo.pw {f : Pl} (a : Mo f) : ∀ n : Nat, Mo (pw f n)
  | 0 => .one
  | n + 1 => .mul a (Mo.pw a n)
theorem Mo.len {f : Pl} (a : Mo f) : 1 ≤ f.length := List.length_pos_iff.mpr a.ne
theorem Mo.mul_len {f g : Pl} (a : Mo f) (b : Mo g) : (NB.mul f g).length = f.length + g.length - 1 := NB.mul_len a.nm b.nm a.ne b.ne
theorem ev_slp_pw (f : Pl) (x : Rat) : ∀ n : Nat, ev (slp (pw f (n + 1))) x = ((n + 1 : Nat) : Rat) * ev f x ^ n * ev (slp f) x
  | 0 => by
    rw [ev_slp_congr (q := f) fun x => by rw [pw, ev_mul, pw]; simp only [ev]; grind]
    have : ((0 + 1 : Nat) : Rat) = 1 := rfl
    rw [this, Rat.pow_zero]; grind
  | n + 1 => by
    have ih := ev_slp_pw f x n
    rw [ev_slp_congr (q := mulR f (pw f (n + 1))) fun x => by rw [pw, ev_mul, ev_mulR], ev_slp_mulR, ih, ev_pw, Rat.pow_succ]
    have : ((n + 1 + 1 : Nat) : Rat) = ((n + 1 : Nat) : Rat) + 1 := by rw [Rat.natCast_add]; rfl
    rw [this]; grind

/-- what plain asks of a curve -/
def IsPlain (p F : Pl) : Prop := ∃ D e : Pl, IsGcd p (slp p) D ∧ Norm e ∧ (∀ x : Rat, ev p x = ev e x * ev D x) ∧ F = mon e

section
variable {f g h p : Pl} {c : Rat} {i j k : Nat}
/-- the product of the factors but once each -/
def gG (f g h : Pl) (i j k : Nat) : Pl := mul (pw f i) (mul (pw g j) (pw h k))
def gF (f g h : Pl) : Pl := mul f (mul g h)
def gW (f g h : Pl) (i j k : Nat) : Pl := addR (sclR ((i + 1 : Nat) : Rat) (mulR (slp f) (mulR g h))) (addR (sclR ((j + 1 : Nat) : Rat) (mulR (slp g) (mulR f h))) (sclR ((k + 1 : Nat) : Rat) (mulR (slp h) (mulR f g))))
theorem succ_ne (n : Nat) : ((n + 1 : Nat) : Rat) ≠ 0 := by
  intro e
  have : ((n + 1 : Nat) : Rat) = ((0 : Nat) : Rat) := e
  rw [Rat.natCast_inj] at this
  omega
theorem Cp.scl {f g : Pl} {k : Rat} (hk : k ≠ 0) (a : Cp f g) : Cp f (sclR k g) := by
  obtain ⟨u, v, a⟩ := a
  refine ⟨u, sclR (1 / k) v, fun x => ?_⟩
  have := a x
  rw [ev_sclR, ev_sclR]; grind
theorem cp_W (fg : Cp f g) (fh : Cp f h) (ff : Cp f (slp f)) : Cp f (gW f g h i j k) := by
  have a : Cp f (sclR ((i + 1 : Nat) : Rat) (mulR (slp f) (mulR g h))) := .scl (succ_ne i) (.mul ff (.mul fg fh))
  refine (a.addmul (addR (sclR ((j + 1 : Nat) : Rat) (mulR (slp g) h)) (sclR ((k + 1 : Nat) : Rat) (mulR (slp h) g)))).congr fun x => ?_
  simp only [gW, ev_addR, ev_sclR, ev_mulR]; grind
theorem ev_gF (x : Rat) : ev (gF f g h) x = ev f x * (ev g x * ev h x) := by rw [gF, ev_mul, ev_mul]
theorem ev_gG (x : Rat) : ev (gG f g h i j k) x = ev f x ^ i * (ev g x ^ j * ev h x ^ k) := by rw [gG, ev_mul, ev_mul, ev_pw, ev_pw, ev_pw]
theorem gcd3 (hf : Mo f) (hg : Mo g) (hh : Mo h) (hc : c ≠ 0) (fg : Cp f g) (fh : Cp f h) (gh : Cp g h) (ff : Cp f (slp f)) (gg : Cp g (slp g)) (hhh : Cp h (slp h))
    (hp : ∀ x : Rat, ev p x = c * (ev f x ^ (i + 1) * (ev g x ^ (j + 1) * ev h x ^ (k + 1)))) : IsGcd p (slp p) (gG f g h i j k) ∧ IsPlain p (gF f g h) := by
  have MG : Mo (gG f g h i j k) := .mul (.pw hf i) (.mul (.pw hg j) (.pw hh k))
  have MF : Mo (gF f g h) := .mul hf (.mul hg hh)
  -- the slope
  have hs : ∀ x : Rat, ev (slp p) x = c * (ev (gG f g h i j k) x * ev (gW f g h i j k) x) := fun x => by
    rw [ev_slp_congr (q := sclR c (mulR (pw f (i + 1)) (mulR (pw g (j + 1)) (pw h (k + 1))))) (fun x => by rw [hp, ev_sclR, ev_mulR, ev_mulR, ev_pw, ev_pw, ev_pw]; grind) x]
    rw [ev_slp_sclR, ev_slp_mulR, ev_slp_mulR, ev_slp_pw, ev_slp_pw, ev_slp_pw, ev_mulR, ev_pw, ev_pw, ev_pw, ev_gG]
    simp only [gW, ev_addR, ev_sclR, ev_mulR]
    simp only [Rat.pow_succ]
    generalize ev f x ^ i = A
    generalize ev g x ^ j = B
    generalize ev h x ^ k = C
    grind
  have hpv : ∀ x : Rat, ev p x = c * (ev (gG f g h i j k) x * ev (gF f g h) x) := fun x => by
    rw [hp, ev_gG, ev_gF]
    simp only [Rat.pow_succ]
    generalize ev f x ^ i = A
    generalize ev g x ^ j = B
    generalize ev h x ^ k = C
    grind
  -- coprime
  have c1 : Cp (gW f g h i j k) f := (cp_W fg fh ff).symm
  have c2 : Cp (gW f g h i j k) g := ((cp_W (i := j) (j := i) (k := k) fg.symm gh gg).congr fun x => by simp only [gW, ev_addR, ev_sclR, ev_mulR]; grind).symm
  have c3 : Cp (gW f g h i j k) h := ((cp_W (i := k) (j := i) (k := j) fh.symm gh.symm hhh).congr fun x => by simp only [gW, ev_addR, ev_sclR, ev_mulR]; grind).symm
  obtain ⟨u, v, huv⟩ := c1.mul (c2.mul c3)
  have gcd : IsGcd p (slp p) (gG f g h i j k) := by
    refine .of MG.nm MG.ne MG.mo ⟨sclR c (gF f g h), fun x => by rw [hpv, ev_sclR]; grind⟩ ⟨sclR c (gW f g h i j k), fun x => by rw [hs, ev_sclR]; grind⟩ (sclR (1 / c) v) (sclR (1 / c) u) fun x => ?_
    have := huv x
    rw [ev_mulR, ev_mulR] at this
    rw [ev_sclR, ev_sclR, hpv, hs, ev_gF]
    grind
  refine ⟨gcd, gG f g h i j k, scl c (gF f g h), gcd, Norm_scl _ _, fun x => by rw [hpv, ev_scl]; grind, ?_⟩
  have l := lst_scl hc MF.nm
  have n : scl c (gF f g h) ≠ [] := fun z => by
    have := scl_len hc MF.nm
    rw [z] at this
    exact MF.ne (List.length_eq_zero_iff.mp this.symm)
  refine ident MF.nm (Norm_mon _) fun x => ?_
  rw [ev_mon n, l, MF.mo, ev_scl]
  grind
end

/-! ### the factors -/
def lin (a : Rat) : Pl := [-a, 1]
def qd (b m : Rat) : Pl := [b * b + m, 2 * b, 1]
theorem ev_lin (a x : Rat) : ev (lin a) x = x - a := by simp only [lin, ev]; grind
theorem ev_qd (b m x : Rat) : ev (qd b m) x = (x + b) * (x + b) + m := by simp only [qd, ev]; grind
theorem Mo.lin (a : Rat) : Mo (lin a) := ⟨line_Norm _, by simp [NB.lin], rfl⟩
theorem Mo.qd (b m : Rat) : Mo (qd b m) := by
  refine ⟨fun e => ?_, by simp [NB.qd], rfl⟩
  have : (1 : Rat) = 0 := by simpa [NB.qd] using e
  grind
theorem cp_one_l (f : Pl) : Cp [1] f := Cp.one.symm
theorem cp_lin {a b : Rat} (h : a ≠ b) : Cp (lin a) (lin b) := ⟨[1 / (b - a)], [-1 / (b - a)], fun x => by
  have : b - a ≠ 0 := by grind
  simp only [ev_lin]; simp only [ev]; grind⟩
theorem cp_lin_qd {a b m : Rat} (h : (a + b) * (a + b) + m ≠ 0) : Cp (lin a) (qd b m) :=
  ⟨[-(a + 2 * b) / ((a + b) * (a + b) + m), -1 / ((a + b) * (a + b) + m)], [1 / ((a + b) * (a + b) + m)], fun x => by
    simp only [ev_lin, ev_qd]; simp only [ev]
    generalize hd : (a + b) * (a + b) + m = d at h
    have : (x + b) * (x + b) + m = (x - a) * (x + a + 2 * b) + d := by grind
    rw [this]
    grind⟩
theorem cp_lin_slp (a : Rat) : Cp (lin a) (slp (lin a)) := Cp.one.congr fun x => by
  show ev [1] x = ev [1 * ((1 : Nat) : Rat)] x
  have : ((1 : Nat) : Rat) = 1 := rfl
  rw [this]; simp only [ev]; grind
theorem ev_slp_qd (b m x : Rat) : ev (slp (qd b m)) x = 2 * (x + b) := by
  show ev [2 * b * ((1 : Nat) : Rat), 1 * ((2 : Nat) : Rat)] x = _
  have : ((1 : Nat) : Rat) = 1 := rfl
  have e2 : ((2 : Nat) : Rat) = 2 := rfl
  rw [this, e2]; simp only [ev]; grind
theorem cp_qd_slp {b m : Rat} (h : m ≠ 0) : Cp (qd b m) (slp (qd b m)) := ⟨[1 / m], [-b / (2 * m), -1 / (2 * m)], fun x => by
  rw [ev_slp_qd, ev_qd]; simp only [ev]; grind⟩
theorem cp_one_slp : Cp [1] (slp [1]) := cp_one_l _

def Lf : Option Rat → Pl
  | none => [1]
  | some a => lin a
def Qf : Option (Rat × Rat) → Pl
  | none => [1]
  | some q => qd q.1 q.2
theorem Mo.Lf : ∀ o : Option Rat, Mo (Lf o)
  | none => .one
  | some a => .lin a
theorem Mo.Qf : ∀ o : Option (Rat × Rat), Mo (Qf o)
  | none => .one
  | some q => .qd q.1 q.2

/-- a curve by its factors: c (x - a)^(i+1) (x - b)^(j+1) ((x + q)^2 + m)^(k+1), each of them perhaps not there -/
structure Sh where
  c : Rat
  oa : Option Rat
  ob : Option Rat
  oq : Option (Rat × Rat)
  i : Nat
  j : Nat
  k : Nat
namespace Sh
def f (S : Sh) : Pl := Lf S.oa
def g (S : Sh) : Pl := Lf S.ob
def h (S : Sh) : Pl := Qf S.oq
def val (S : Sh) (x : Rat) : Rat := S.c * (ev S.f x ^ (S.i + 1) * (ev S.g x ^ (S.j + 1) * ev S.h x ^ (S.k + 1)))
/-- the plain part -/
def F (S : Sh) : Pl := gF S.f S.g S.h
def G (S : Sh) : Pl := gG S.f S.g S.h S.i S.j S.k
/-- the curve -/
def P (S : Sh) : Pl := scl S.c (mul (pw S.f (S.i + 1)) (mul (pw S.g (S.j + 1)) (pw S.h (S.k + 1))))
structure Ok (S : Sh) : Prop where
  c0 : S.c ≠ 0
  ab : ∀ a b : Rat, S.oa = some a → S.ob = some b → a ≠ b
  m0 : ∀ q : Rat × Rat, S.oq = some q → q.2 ≠ 0
  aq : ∀ (a : Rat) (q : Rat × Rat), (S.oa = some a ∨ S.ob = some a) → S.oq = some q → (a + q.1) * (a + q.1) + q.2 ≠ 0
  len : S.P.length ≤ 5
variable {S : Sh}
theorem ev_P (S : Sh) (x : Rat) : ev S.P x = S.val x := by
  rw [P, ev_scl, ev_mul, ev_mul, ev_pw, ev_pw, ev_pw, val]; grind
theorem Norm_P (S : Sh) : Norm S.P := Norm_scl _ _
theorem MoF (S : Sh) : Mo S.F := .mul (.Lf _) (.mul (.Lf _) (.Qf _))
theorem MoB (S : Sh) : Mo (mul (pw S.f (S.i + 1)) (mul (pw S.g (S.j + 1)) (pw S.h (S.k + 1)))) := .mul (.pw (.Lf _) _) (.mul (.pw (.Lf _) _) (.pw (.Qf _) _))
theorem len_P (hc : S.c ≠ 0) : S.P.length = (mul (pw S.f (S.i + 1)) (mul (pw S.g (S.j + 1)) (pw S.h (S.k + 1)))).length := scl_len hc S.MoB.nm
theorem P_ne (hc : S.c ≠ 0) : S.P ≠ [] := fun z => by
  have := len_P (S := S) hc
  rw [z] at this
  exact S.MoB.ne (List.length_eq_zero_iff.mp this.symm)
theorem Ok.gcd (o : S.Ok) : IsGcd S.P (slp S.P) S.G ∧ IsPlain S.P S.F := by
  have c1 : Cp S.f S.g := by
    unfold f g
    cases ha : S.oa with
    | none => exact cp_one_l _
    | some a =>
      cases hb : S.ob with
      | none => exact .one
      | some b => exact cp_lin (o.ab a b ha hb)
  have c2 : Cp S.f S.h := by
    unfold f h
    cases ha : S.oa with
    | none => exact cp_one_l _
    | some a =>
      cases hq : S.oq with
      | none => exact .one
      | some q => exact cp_lin_qd (o.aq a q (.inl ha) hq)
  have c3 : Cp S.g S.h := by
    unfold g h
    cases ha : S.ob with
    | none => exact cp_one_l _
    | some a =>
      cases hq : S.oq with
      | none => exact .one
      | some q => exact cp_lin_qd (o.aq a q (.inr ha) hq)
  have s1 : ∀ oa : Option Rat, Cp (Lf oa) (slp (Lf oa)) := fun oa => by
    cases oa with
    | none => exact cp_one_slp
    | some a => exact cp_lin_slp a
  have s2 : Cp S.h (slp S.h) := by
    unfold h
    cases hq : S.oq with
    | none => exact cp_one_slp
    | some q => exact cp_qd_slp (o.m0 q hq)
  exact gcd3 (.Lf _) (.Lf _) (.Qf _) o.c0 c1 c2 c3 (s1 _) (s1 _) s2 fun x => by rw [ev_P, val]
end Sh

/-! ### one-signed mixing lists -/
def OB (p : Pl) (s e : Rat) : Prop := ∃ (L : Pl) (σ : Rat), Bern L p s e ∧ One σ L
section
variable {p q r : Pl} {s e : Rat}
theorem OB.one : OB [1] s e := ⟨[1], 1, ⟨rfl, fun t => by simp only [hom, ev, List.length_nil]; rw [Rat.pow_zero]; grind⟩, one_iff.mpr ⟨fun a ha => by
  have : a = 1 := by simpa using ha
  grind, 1, by simp, by grind⟩⟩
theorem OB.mul (a : OB p s e) (b : OB q s e) (hp : p ≠ []) (hq : q ≠ []) (hl : r.length = p.length + q.length - 1) (hv : ∀ x : Rat, ev r x = ev p x * ev q x) : OB r s e := by
  obtain ⟨L, σ, a1, a2⟩ := a
  obtain ⟨M, τ, b1, b2⟩ := b
  exact ⟨_, _, a1.mul b1 hp hq hl hv, a2.mul b2⟩
theorem OB.mulM (hp : Mo p) (hq : Mo q) (a : OB p s e) (b : OB q s e) : OB (NB.mul p q) s e := a.mul b hp.ne hq.ne (hp.mul_len hq) (ev_mul p q)
theorem OB.pw (hp : Mo p) (a : OB p s e) : ∀ n : Nat, OB (NB.pw p n) s e
  | 0 => .one
  | n + 1 => .mulM hp (.pw hp n) a (OB.pw hp a n)
theorem OB.scl {k : Rat} (hk : k ≠ 0) (a : OB p s e) (hp : Norm p) : OB (NB.scl k p) s e := by
  obtain ⟨L, σ, a1, a2⟩ := a
  exact ⟨_, _, a1.scl (scl_len hk hp) (ev_scl k p), a2.scl hk⟩
theorem OB.clr (a : OB p s e) (hp : Norm p) (h1 : p ≠ []) (h5 : p.length ≤ 5) (h : s < e) : NB.clr p s e ≠ 0 := by
  obtain ⟨L, σ, a1, a2⟩ := a
  exact clr_ne' hp h1 h5 h a1 a2
theorem bern_lin (a : Rat) : Bern [s - a, e - a] (lin a) s e := ⟨rfl, fun t => by
  rw [ev_lin]; simp only [hom, List.length_cons, List.length_nil]; grind⟩
theorem OB.lin {a : Rat} (h : s < e) (ha : a ≤ s ∨ e ≤ a) : OB (NB.lin a) s e := by
  rcases ha with ha | ha
  · refine ⟨_, 1, bern_lin a, one_iff.mpr ⟨fun y hy => ?_, e - a, by simp, by grind⟩⟩
    simp only [List.mem_cons, List.not_mem_nil, or_false] at hy
    grind
  · refine ⟨_, -1, bern_lin a, one_iff.mpr ⟨fun y hy => ?_, s - a, by simp, by grind⟩⟩
    simp only [List.mem_cons, List.not_mem_nil, or_false] at hy
    grind
theorem bern_qd (b m : Rat) : Bern [(s + b) * (s + b) + m, 2 * ((s + b) * (e + b) + m), (e + b) * (e + b) + m] (qd b m) s e := ⟨rfl, fun t => by
  rw [ev_qd]; simp only [hom, List.length_cons, List.length_nil]; grind⟩
theorem sq_nn (u : Rat) : 0 ≤ u * u := by
  by_cases h : 0 ≤ u
  · exact Rat.mul_nonneg h h
  · have : 0 ≤ -u := by grind
    have := Rat.mul_nonneg this this
    grind
theorem OB.qd {b m : Rat} (hm : 0 < m) (h : 0 ≤ (s + b) * (e + b) + m) : OB (NB.qd b m) s e := by
  have h1 := sq_nn (s + b)
  have h2 := sq_nn (e + b)
  refine ⟨_, 1, bern_qd b m, one_iff.mpr ⟨fun y hy => ?_, (s + b) * (s + b) + m, by simp, by grind⟩⟩
  simp only [List.mem_cons, List.not_mem_nil, or_false] at hy
  grind
end
end NB

/-! NBEst: on a short stretch about a place where a curve is not nought its mixing numbers have one sign. -/
namespace NB

def bd (x A : Rat) : Prop := -A ≤ x ∧ x ≤ A
theorem bd.nn {x A : Rat} (h : bd x A) : 0 ≤ A := by unfold bd at h; grind
theorem bd.mul {x y A B : Rat} (a : bd x A) (b : bd y B) : bd (x * y) (A * B) := by
  obtain ⟨a1, a2⟩ := a
  obtain ⟨b1, b2⟩ := b
  have h1 := Rat.mul_nonneg (show (0 : Rat) ≤ A - x by grind) (show (0 : Rat) ≤ B + y by grind)
  have h2 := Rat.mul_nonneg (show (0 : Rat) ≤ A + x by grind) (show (0 : Rat) ≤ B - y by grind)
  have h3 := Rat.mul_nonneg (show (0 : Rat) ≤ A - x by grind) (show (0 : Rat) ≤ B - y by grind)
  have h4 := Rat.mul_nonneg (show (0 : Rat) ≤ A + x by grind) (show (0 : Rat) ≤ B + y by grind)
  constructor <;> grind
theorem bd.add {x y A B : Rat} (a : bd x A) (b : bd y B) : bd (x + y) (A + B) := by
  unfold bd at *; constructor <;> grind
theorem bd.mono {x A B : Rat} (a : bd x A) (h : A ≤ B) : bd x B := by unfold bd at *; constructor <;> grind
theorem bd.smul {x A : Rat} (a : bd x A) {k : Rat} (hk : 0 ≤ k) : bd (k * x) (k * A) := by
  have : bd k k := by unfold bd; constructor <;> grind
  exact this.mul a

theorem onOne_eq {p q : Pl} (hp : Norm p) {s e : Rat} (h : s < e) (hl : q.length = p.length) (hv : ∀ t : Rat, ev q t = ev p (s + (e - s) * t)) : onOne p s e = q :=
  ident_len (by rw [onOne_len hp, hl]) fun t _ _ => by rw [ev_onOne p h, hv]

/-- all numbers near to a number that isn't nought -/
theorem one_near {L : Pl} {y E : Rat} (hL : L ≠ []) (h : ∀ b ∈ L, bd (b - y) E) (hy : (0 < y ∧ E < y) ∨ (y < 0 ∧ E < -y)) : sgnOf L ≠ 0 := by
  obtain ⟨b0, hb0⟩ := List.exists_mem_of_ne_nil L hL
  rcases hy with hy | hy
  · refine sgnOf_ne.mpr ⟨1, .inl rfl, one_iff.mpr ⟨fun b hb => ?_, b0, hb0, ?_⟩⟩
    · have := h b hb; unfold bd at this; grind
    · have := h b0 hb0; unfold bd at this; grind
  · refine sgnOf_ne.mpr ⟨-1, .inr rfl, one_iff.mpr ⟨fun b hb => ?_, b0, hb0, ?_⟩⟩
    · have := h b hb; unfold bd at this; grind
    · have := h b0 hb0; unfold bd at this; grind

theorem est_aux {w A R C : Rat} (hC : A * (R * R) = C) (h1 : 0 ≤ w * (C - A)) (h2 : 0 ≤ w * (C - A * R)) : w * (A + A * (R + R) + A * (R * R + R * R + R * R)) ≤ 6 * (C * w) := by
  subst hC; grind
section
variable {s e r R A : Rat}
theorem bd_in (h1 : s ≤ r) (h2 : r ≤ e) (hs : bd s R) (he : bd e R) : bd r R := by unfold bd at *; constructor <;> grind
/-- the estimate: coefficients within A, stretch within R, 1 ≤ R, shorter than 1 -/
theorem est {H : Pl} (hn : Norm H) (h1 : H ≠ []) (h4 : H.length ≤ 4) (h : s < e) (hs : bd s R) (he : bd e R) (hR : 1 ≤ R) (hA : ∀ b ∈ H, bd b A) (hw : e - s ≤ 1) (r1 : s ≤ r) (r2 : r ≤ e)
    (hy : (0 < ev H r ∧ 20 * (A * (R * R)) * (e - s) < ev H r) ∨ (ev H r < 0 ∧ 20 * (A * (R * R)) * (e - s) < -(ev H r))) : clr H s e ≠ 0 := by
  have hr := bd_in r1 r2 hs he
  have w0 : 0 ≤ e - s := by grind
  have hA0 : 0 ≤ A := by
    obtain ⟨b, hb⟩ := List.exists_mem_of_ne_nil H h1
    exact (hA b hb).nn
  have hRR : R ≤ R * R := by
    have := Rat.mul_nonneg (show (0 : Rat) ≤ R by grind) (show (0 : Rat) ≤ R - 1 by grind)
    grind
  have hAR : A ≤ A * (R * R) := by
    have := Rat.mul_nonneg hA0 (show (0 : Rat) ≤ R * R - 1 by grind)
    grind
  have hAR1 : A * R ≤ A * (R * R) := by
    have := Rat.mul_nonneg hA0 (show (0 : Rat) ≤ R * R - R by grind)
    grind
  -- C = A R R
  generalize hC : A * (R * R) = C at *
  have C0 : 0 ≤ C := by grind
  have wC : 0 ≤ C * (e - s) := Rat.mul_nonneg C0 w0
  have wwC : (e - s) * (C * (e - s)) ≤ C * (e - s) := by
    have := Rat.mul_nonneg (show (0 : Rat) ≤ 1 - (e - s) by grind) wC
    grind
  have wwwC : (e - s) * ((e - s) * (C * (e - s))) ≤ C * (e - s) := by
    have := Rat.mul_nonneg w0 (show (0 : Rat) ≤ C * (e - s) - (e - s) * (C * (e - s)) by grind)
    grind
  have bw : bd (e - s) (e - s) := by unfold bd; constructor <;> grind
  have bsr : bd (s - r) (e - s) := by unfold bd; constructor <;> grind
  match H, h1, h4 with
  | [a], _, _ =>
    have ho : onOne [a] s e = [a] := onOne_eq hn h rfl fun t => by simp only [ev]; grind
    have ea : ev [a] r = a := by simp only [ev]; grind
    rw [ea] at hy
    refine one_near (y := a) (E := 20 * C * (e - s)) ?_ ?_ hy
    · unfold mixd; rw [ho, show [a].length - 1 = 0 from rfl, mixP1]; simp
    · unfold mixd; rw [ho, show [a].length - 1 = 0 from rfl, mixP1]
      intro b hb
      have : b = a := by simpa using hb
      unfold bd; constructor <;> grind
  | [a, b], _, _ =>
    have hb := hA b (by simp)
    have ho : onOne [a, b] s e = [a + b * s, (e - s) * b] := onOne_eq hn h rfl fun t => by simp only [ev]; grind
    have ea : ev [a, b] r = a + b * r := by simp only [ev]; grind
    rw [ea] at hy
    have e1 : bd ((e - s) * b) (C * (e - s)) := (bw.mul hb).mono (by
      have := Rat.mul_nonneg w0 (show (0 : Rat) ≤ C - A by grind)
      grind)
    have e0 : bd ((s - r) * b) (C * (e - s)) := (bsr.mul hb).mono (by
      have := Rat.mul_nonneg w0 (show (0 : Rat) ≤ C - A by grind)
      grind)
    refine one_near (y := a + b * r) (E := 20 * C * (e - s)) ?_ ?_ hy
    · unfold mixd; rw [ho, show [a, b].length - 1 = 1 from rfl, mixP2]; simp
    · unfold mixd; rw [ho, show [a, b].length - 1 = 1 from rfl, mixP2]
      intro z hz
      simp only [List.mem_cons, List.not_mem_nil, or_false] at hz
      unfold bd at *
      rcases hz with rfl | rfl <;> constructor <;> grind
  | [a, b, c], _, _ =>
    have hb := hA b (by simp)
    have hc := hA c (by simp)
    have ho : onOne [a, b, c] s e = [a + b * s + c * (s * s), (e - s) * (b + 2 * (c * s)), (e - s) * ((e - s) * c)] := onOne_eq hn h rfl fun t => by simp only [ev]; grind
    have ea : ev [a, b, c] r = a + b * r + c * (r * r) := by simp only [ev]; grind
    rw [ea] at hy
    have cs : bd (c * s) C := (hc.mul hs).mono (by grind)
    have e1 : bd ((e - s) * (b + 2 * (c * s))) (3 * (C * (e - s))) := (bw.mul (hb.add (cs.smul (k := 2) (by grind)))).mono (by
      have := Rat.mul_nonneg w0 (show (0 : Rat) ≤ C - A by grind)
      grind)
    have e2 : bd ((e - s) * ((e - s) * c)) (C * (e - s)) := (bw.mul (bw.mul hc)).mono (by
      have := Rat.mul_nonneg w0 (Rat.mul_nonneg w0 (show (0 : Rat) ≤ C - A by grind))
      grind)
    have e0 : bd ((s - r) * (b + c * (s + r))) (3 * (C * (e - s))) := (bsr.mul (hb.add (hc.mul (hs.add hr)))).mono (by
      have := Rat.mul_nonneg w0 (show (0 : Rat) ≤ C - A by grind)
      have := Rat.mul_nonneg w0 (show (0 : Rat) ≤ C - A * R by grind)
      grind)
    refine one_near (y := a + b * r + c * (r * r)) (E := 20 * C * (e - s)) ?_ ?_ hy
    · unfold mixd; rw [ho, show [a, b, c].length - 1 = 2 from rfl, mixP3]; simp
    · unfold mixd; rw [ho, show [a, b, c].length - 1 = 2 from rfl, mixP3]
      intro z hz
      simp only [List.mem_cons, List.not_mem_nil, or_false] at hz
      have ed : (s - r) * (b + c * (s + r)) = (a + b * s + c * (s * s)) - (a + b * r + c * (r * r)) := by grind
      rw [ed] at e0
      generalize a + b * s + c * (s * s) = p0 at *
      generalize a + b * r + c * (r * r) = y at *
      generalize (e - s) * (b + 2 * (c * s)) = p1 at *
      generalize (e - s) * ((e - s) * c) = p2 at *
      unfold bd at *
      rcases hz with rfl | rfl | rfl <;> constructor <;> grind
  | [a, b, c, d], _, _ =>
    have hb := hA b (by simp)
    have hc := hA c (by simp)
    have hd := hA d (by simp)
    have ho : onOne [a, b, c, d] s e = [a + b * s + c * (s * s) + d * (s * (s * s)), (e - s) * (b + 2 * (c * s) + 3 * (d * (s * s))), (e - s) * ((e - s) * (c + 3 * (d * s))), (e - s) * ((e - s) * ((e - s) * d))] := onOne_eq hn h rfl fun t => by simp only [ev]; grind
    have ea : ev [a, b, c, d] r = a + b * r + c * (r * r) + d * (r * (r * r)) := by simp only [ev]; grind
    rw [ea] at hy
    have cs : bd (c * s) C := (hc.mul hs).mono (by grind)
    have ds : bd (d * s) C := (hd.mul hs).mono (by grind)
    have dss : bd (d * (s * s)) C := (hd.mul (hs.mul hs)).mono (by grind)
    have e1 : bd ((e - s) * (b + 2 * (c * s) + 3 * (d * (s * s)))) (6 * (C * (e - s))) := (bw.mul ((hb.add (cs.smul (k := 2) (by grind))).add (dss.smul (k := 3) (by grind)))).mono (by
      have := Rat.mul_nonneg w0 (show (0 : Rat) ≤ C - A by grind)
      grind)
    have e2 : bd ((e - s) * ((e - s) * (c + 3 * (d * s)))) (4 * (C * (e - s))) := (bw.mul (bw.mul (hc.add (ds.smul (k := 3) (by grind))))).mono (by
      have := Rat.mul_nonneg w0 (Rat.mul_nonneg w0 (show (0 : Rat) ≤ C - A by grind))
      grind)
    have e3 : bd ((e - s) * ((e - s) * ((e - s) * d))) (C * (e - s)) := (bw.mul (bw.mul (bw.mul hd))).mono (by
      have := Rat.mul_nonneg w0 (Rat.mul_nonneg w0 (Rat.mul_nonneg w0 (show (0 : Rat) ≤ C - A by grind)))
      grind)
    have e0 : bd ((s - r) * (b + c * (s + r) + d * (s * s + s * r + r * r))) (6 * (C * (e - s))) := (bsr.mul ((hb.add (hc.mul (hs.add hr))).add (hd.mul (((hs.mul hs).add (hs.mul hr)).add (hr.mul hr))))).mono (est_aux hC (Rat.mul_nonneg w0 (show (0 : Rat) ≤ C - A by grind)) (Rat.mul_nonneg w0 (show (0 : Rat) ≤ C - A * R by grind)))
    refine one_near (y := a + b * r + c * (r * r) + d * (r * (r * r))) (E := 20 * C * (e - s)) ?_ ?_ hy
    · unfold mixd; rw [ho, show [a, b, c, d].length - 1 = 3 from rfl, mixP4]; simp
    · unfold mixd; rw [ho, show [a, b, c, d].length - 1 = 3 from rfl, mixP4]
      intro z hz
      simp only [List.mem_cons, List.not_mem_nil, or_false] at hz
      have ed : (s - r) * (b + c * (s + r) + d * (s * s + s * r + r * r)) = (a + b * s + c * (s * s) + d * (s * (s * s))) - (a + b * r + c * (r * r) + d * (r * (r * r))) := by grind
      rw [ed] at e0
      generalize a + b * s + c * (s * s) + d * (s * (s * s)) = p0 at *
      generalize a + b * r + c * (r * r) + d * (r * (r * r)) = y at *
      generalize (e - s) * (b + 2 * (c * s) + 3 * (d * (s * s))) = p1 at *
      generalize (e - s) * ((e - s) * (c + 3 * (d * s))) = p2 at *
      generalize (e - s) * ((e - s) * ((e - s) * d)) = p3 at *
      unfold bd at *
      rcases hz with rfl | rfl | rfl | rfl <;> constructor <;> grind
end
end NB

/-! NBKit: what map_of and verdict ask of a curve and its plain part; curves by factors have it. -/
namespace NB

/-- unlike signs at both ends -/
def unl (F : Pl) (s e : Rat) : Prop := ev F s * ev F e < 0
/-- a row shows the stretch -/
def Res (P F : Pl) (s e : Rat) : Prop := clr P s e ≠ 0 ∨ (unl F s e ∧ clr (slp F) s e ≠ 0)

structure Kit (P F : Pl) : Prop where
  nm : Norm P
  ne : P ≠ []
  l5 : P.length ≤ 5
  pl : IsPlain P F
  mf : Mo F
  f5 : F.length ≤ 5
  fz : ∀ x : Rat, ev F x = 0 ↔ ev P x = 0
  un : ∀ s e : Rat, s < e → unl F s e → (∃ x, s < x ∧ x < e ∧ ev P x = 0) ∨ ev P s < 0 ∨ ev P e < 0
  bl : ∀ s e : Rat, s < e → unl F s e → ∀ x, s < x → x < e → ev P x < 0 → ev P s < 0 ∨ ev P e < 0
/-- special places -/
def Spec (P F : Pl) (S : List Rat) : Prop := ∀ s e : Rat, s < e → (∀ a ∈ S, ¬ (s < a ∧ a < e)) → Res P F s e
/-- short stretches within R are shown -/
def Fine (P F : Pl) (R : Rat) (N : Nat) : Prop := ∀ s e : Rat, s < e → bd s R → bd e R → (e - s) * (2 : Rat) ^ N ≤ 1 → Res P F s e

theorem rpow_mul (a b : Rat) : ∀ n : Nat, (a * b) ^ n = a ^ n * b ^ n
  | 0 => by rw [Rat.pow_zero, Rat.pow_zero, Rat.pow_zero]; grind
  | n + 1 => by rw [Rat.pow_succ, Rat.pow_succ, Rat.pow_succ, rpow_mul a b n]; grind
theorem sq_pos {c : Rat} (h : c ≠ 0) : 0 < c * c := by
  have := sq_nn c
  have h2 : c * c ≠ 0 := fun e => by have := Rat.mul_eq_zero.mp e; grind
  grind
theorem pow_eq_zero {a : Rat} : ∀ n : Nat, a ^ (n + 1) = 0 ↔ a = 0
  | 0 => by rw [Rat.pow_succ, Rat.pow_zero]; grind
  | n + 1 => by
    rw [Rat.pow_succ, Rat.mul_eq_zero, pow_eq_zero n]
    grind

namespace Sh
variable {S : Sh}
theorem ev_F (S : Sh) (x : Rat) : ev S.F x = ev S.f x * (ev S.g x * ev S.h x) := ev_gF x
theorem val_zero (hc : S.c ≠ 0) (x : Rat) : S.val x = 0 ↔ ev S.f x = 0 ∨ ev S.g x = 0 ∨ ev S.h x = 0 := by
  unfold val
  rw [Rat.mul_eq_zero, Rat.mul_eq_zero, Rat.mul_eq_zero, pow_eq_zero, pow_eq_zero, pow_eq_zero]
  grind
theorem val_same (hc : S.c ≠ 0) {x y : Rat} (h1 : 0 < ev S.f x * ev S.f y) (h2 : 0 < ev S.g x * ev S.g y) (h3 : 0 < ev S.h x * ev S.h y) : 0 < S.val x * S.val y := by
  have e : S.val x * S.val y = (S.c * S.c) * ((ev S.f x * ev S.f y) ^ (S.i + 1) * ((ev S.g x * ev S.g y) ^ (S.j + 1) * (ev S.h x * ev S.h y) ^ (S.k + 1))) := by
    unfold val
    rw [rpow_mul, rpow_mul, rpow_mul]
    generalize ev S.f x ^ (S.i + 1) = a
    generalize ev S.f y ^ (S.i + 1) = b
    generalize ev S.g x ^ (S.j + 1) = c
    generalize ev S.g y ^ (S.j + 1) = d
    generalize ev S.h x ^ (S.k + 1) = u
    generalize ev S.h y ^ (S.k + 1) = v
    grind
  rw [e]
  exact Rat.mul_pos (sq_pos hc) (Rat.mul_pos (pow_pos' h1 _) (Rat.mul_pos (pow_pos' h2 _) (pow_pos' h3 _)))
/-- no place between or at both: values of one sign -/
theorem lf_same {o : Option Rat} {x y : Rat} (h : ∀ a, o = some a → (a < x ∧ a < y) ∨ (x < a ∧ y < a)) : 0 < ev (Lf o) x * ev (Lf o) y := by
  cases o with
  | none => simp only [Lf, ev]; grind
  | some a =>
    simp only [Lf, ev_lin]
    rcases h a rfl with ⟨h1, h2⟩ | ⟨h1, h2⟩
    · exact Rat.mul_pos (by grind) (by grind)
    · have := Rat.mul_pos (show (0 : Rat) < -(x - a) by grind) (show (0 : Rat) < -(y - a) by grind)
      grind
theorem lf_unlike {o : Option Rat} {x y : Rat} (hxy : x < y) (h : ev (Lf o) x * ev (Lf o) y < 0) : ∃ a, o = some a ∧ x < a ∧ a < y := by
  cases o with
  | none => simp only [Lf, ev] at h; grind
  | some a =>
    simp only [Lf, ev_lin] at h
    refine ⟨a, rfl, ?_, ?_⟩
    · by_cases h1 : x < a
      · exact h1
      · have := Rat.mul_nonneg (show (0 : Rat) ≤ x - a by grind) (show (0 : Rat) ≤ y - a by grind)
        grind
    · by_cases h1 : a < y
      · exact h1
      · have := Rat.mul_nonneg (show (0 : Rat) ≤ -(x - a) by grind) (show (0 : Rat) ≤ -(y - a) by grind)
        grind
/-- the quadratic factor is above nought -/
def Pos (S : Sh) : Prop := ∀ q : Rat × Rat, S.oq = some q → 0 < q.2
theorem Pos.h_pos (p : S.Pos) (x : Rat) : 0 < ev S.h x := by
  unfold h
  cases hq : S.oq with
  | none => simp only [Qf, ev]; grind
  | some q =>
    have := p q hq
    have := sq_nn (x + q.1)
    simp only [Qf, ev_qd]; grind
theorem mul_neg_cases {a b : Rat} (h : a * b < 0) : (a < 0 ∧ 0 < b) ∨ (0 < a ∧ b < 0) := by
  by_cases h1 : 0 ≤ a
  · by_cases h2 : 0 ≤ b
    · have := Rat.mul_nonneg h1 h2; grind
    · refine .inr ⟨?_, by grind⟩
      by_cases h3 : a = 0
      · rw [h3] at h; grind
      · grind
  · by_cases h2 : 0 < b
    · exact .inl ⟨by grind, h2⟩
    · have := Rat.mul_nonneg (show (0 : Rat) ≤ -a by grind) (show (0 : Rat) ≤ -b by grind)
      grind
theorem unl_cases (p : S.Pos) {s e : Rat} (h : unl S.F s e) : (ev S.f s * ev S.f e < 0 ∧ 0 < ev S.g s * ev S.g e) ∨ (0 < ev S.f s * ev S.f e ∧ ev S.g s * ev S.g e < 0) := by
  unfold unl at h
  rw [ev_F, ev_F] at h
  have hh : 0 < ev S.h s * ev S.h e := Rat.mul_pos (p.h_pos s) (p.h_pos e)
  have e1 : (ev S.f s * ev S.f e) * (ev S.g s * ev S.g e) * (ev S.h s * ev S.h e) < 0 := by grind
  have e2 : (ev S.f s * ev S.f e) * (ev S.g s * ev S.g e) < 0 := by
    rcases mul_neg_cases e1 with ⟨h1, _⟩ | ⟨_, h1⟩
    · exact h1
    · grind
  exact mul_neg_cases e2
/-- a factor whose values at both ends have one sign, not nought: none of its places lies between -/
theorem lf_out {o : Option Rat} {s e : Rat} (h : 0 < ev (Lf o) s * ev (Lf o) e) (hse : s < e) : ∀ a, o = some a → a < s ∨ e < a := fun a ha => by
  subst ha
  simp only [Lf, ev_lin] at h
  by_cases h1 : a < s
  · exact .inl h1
  · refine .inr ?_
    by_cases h2 : e < a
    · exact h2
    · have := Rat.mul_nonneg (show (0 : Rat) ≤ -(s - a) by grind) (show (0 : Rat) ≤ e - a by grind)
      grind
theorem bl_aux (hc : S.c ≠ 0) (p : S.Pos) {s e a x : Rat} (ha : S.oa = some a) (hsa : s < a) (hae : a < e) (hb : ∀ b, S.ob = some b → b < s ∨ e < b) (h1 : s < x) (h2 : x < e) (hx : S.val x < 0) : S.val s < 0 ∨ S.val e < 0 := by
  have fin : ∀ y : Rat, 0 < S.val x * S.val y → S.val y < 0 := fun y hy => by
    by_cases h : S.val y < 0
    · exact h
    · have := Rat.mul_nonneg (show (0 : Rat) ≤ -(S.val x) by grind) (show (0 : Rat) ≤ S.val y by grind)
      grind
  have hne : x ≠ a := fun z => by
    subst z
    have : S.val x = 0 := (val_zero hc x).mpr (.inl (by unfold f; rw [ha]; simp only [Lf, ev_lin]; grind))
    grind
  by_cases hxa : x < a
  · refine .inl (fin s (val_same hc (lf_same fun a' h => ?_) (lf_same fun b h => ?_) (Rat.mul_pos (p.h_pos _) (p.h_pos _))))
    · rw [ha] at h
      have := Option.some.inj h
      grind
    · have := hb b h
      grind
  · refine .inr (fin e (val_same hc (lf_same fun a' h => ?_) (lf_same fun b h => ?_) (Rat.mul_pos (p.h_pos _) (p.h_pos _))))
    · rw [ha] at h
      have := Option.some.inj h
      grind
    · have := hb b h
      grind
/-- both linear factors change places -/
def sw (S : Sh) : Sh := ⟨S.c, S.ob, S.oa, S.oq, S.j, S.i, S.k⟩
theorem sw_val (S : Sh) (x : Rat) : S.sw.val x = S.val x := by
  show S.c * (ev (Lf S.ob) x ^ (S.j + 1) * (ev (Lf S.oa) x ^ (S.i + 1) * ev S.h x ^ (S.k + 1))) = S.c * (ev (Lf S.oa) x ^ (S.i + 1) * (ev (Lf S.ob) x ^ (S.j + 1) * ev S.h x ^ (S.k + 1)))
  generalize ev (Lf S.ob) x ^ (S.j + 1) = a
  generalize ev (Lf S.oa) x ^ (S.i + 1) = b
  grind
theorem F_le (o : S.Ok) : S.F.length ≤ 5 := by
  have l1 := len_P o.c0
  have hlen : S.P.length ≤ 5 := o.len
  have a := Mo.mul_len (.pw (.Lf S.oa) (S.i + 1)) (.mul (.pw (.Lf S.ob) (S.j + 1)) (.pw (.Qf S.oq) (S.k + 1)))
  have b := Mo.mul_len (.pw (.Lf S.ob) (S.j + 1)) (.pw (.Qf S.oq) (S.k + 1))
  have c := Mo.mul_len (.Lf S.oa) (.mul (.Lf S.ob) (.Qf S.oq))
  have d := Mo.mul_len (.Lf S.ob) (.Qf S.oq)
  have pl : ∀ (f : Pl), Mo f → ∀ n : Nat, f.length ≤ (pw f (n + 1)).length := fun f hf n => by
    have := Mo.mul_len hf (hf.pw n)
    have := (hf.pw n).len
    rw [pw]; omega
  have p1 := pl _ (.Lf S.oa) S.i
  have p2 := pl _ (.Lf S.ob) S.j
  have p3 := pl _ (.Qf S.oq) S.k
  have q1 := (Mo.Lf S.oa).len
  have q2 := (Mo.Lf S.ob).len
  have q3 := (Mo.Qf S.oq).len
  show (mul (Lf S.oa) (mul (Lf S.ob) (Qf S.oq))).length ≤ 5
  rw [l1] at hlen
  have hlen2 : (mul (pw (Lf S.oa) (S.i + 1)) (mul (pw (Lf S.ob) (S.j + 1)) (pw (Qf S.oq) (S.k + 1)))).length ≤ 5 := hlen
  omega
theorem kit (o : S.Ok) (p : S.Pos) : Kit S.P S.F where
  nm := S.Norm_P
  ne := P_ne o.c0
  l5 := o.len
  pl := o.gcd.2
  mf := S.MoF
  f5 := F_le o
  fz := fun x => by
    rw [ev_P, val_zero o.c0, ev_F, Rat.mul_eq_zero, Rat.mul_eq_zero]
  un := fun s e h u => by
    refine .inl ?_
    rcases unl_cases p u with ⟨h1, _⟩ | ⟨_, h1⟩
    · obtain ⟨a, ha, h2, h3⟩ := lf_unlike h h1
      exact ⟨a, h2, h3, by rw [ev_P, val_zero o.c0]; exact .inl (by unfold f; rw [ha]; simp only [Lf, ev_lin]; grind)⟩
    · obtain ⟨a, ha, h2, h3⟩ := lf_unlike h h1
      exact ⟨a, h2, h3, by rw [ev_P, val_zero o.c0]; exact .inr (.inl (by unfold g; rw [ha]; simp only [Lf, ev_lin]; grind))⟩
  bl := fun s e h u x h1 h2 hx => by
    rw [ev_P] at hx ⊢
    rw [ev_P]
    rcases unl_cases p u with ⟨h3, h4⟩ | ⟨h4, h3⟩
    · obtain ⟨a, ha, h5, h6⟩ := lf_unlike h h3
      exact bl_aux o.c0 p ha h5 h6 (lf_out h4 h) h1 h2 hx
    · obtain ⟨a, ha, h5, h6⟩ := lf_unlike h h3
      have := bl_aux (S := S.sw) o.c0 p ha h5 h6 (lf_out h4 h) h1 h2 (by rw [sw_val]; exact hx)
      rwa [sw_val, sw_val] at this
/-- the special places of a curve by factors -/
def spots (S : Sh) : List Rat := S.oa.toList ++ (S.ob.toList ++ (S.oq.map fun q => -q.1).toList)
theorem spots_len (S : Sh) : S.spots.length ≤ 3 := by
  unfold spots
  cases S.oa <;> cases S.ob <;> cases S.oq <;> simp
theorem ob_lf {o : Option Rat} {s e : Rat} (h : s < e) (ha : ∀ a, o = some a → ¬ (s < a ∧ a < e)) : OB (Lf o) s e := by
  cases o with
  | none => exact .one
  | some a => exact .lin h (by have := ha a rfl; grind)
theorem ob_P (o : S.Ok) {s e : Rat} (h : s < e) (h1 : OB S.f s e) (h2 : OB S.g s e) (h3 : OB S.h s e) : clr S.P s e ≠ 0 :=
  (OB.scl o.c0 (.mulM (.pw (.Lf _) _) (.mul (.pw (.Lf _) _) (.pw (.Qf _) _)) (.pw (.Lf _) h1 _) (.mulM (.pw (.Lf _) _) (.pw (.Qf _) _) (.pw (.Lf _) h2 _) (.pw (.Qf _) h3 _))) S.MoB.nm).clr S.Norm_P (P_ne o.c0) o.len h
theorem spec (o : S.Ok) (p : S.Pos) : Spec S.P S.F S.spots := fun s e h hs => by
  have ha : ∀ a, S.oa = some a → ¬ (s < a ∧ a < e) := fun a ha => hs a (by unfold spots; rw [ha]; simp)
  have hb : ∀ a, S.ob = some a → ¬ (s < a ∧ a < e) := fun a ha => hs a (by unfold spots; rw [ha]; simp)
  have hq : ∀ q, S.oq = some q → ¬ (s < -q.1 ∧ -q.1 < e) := fun q hq => hs _ (by unfold spots; rw [hq]; simp)
  refine .inl (ob_P o h (ob_lf h ha) (ob_lf h hb) ?_)
  unfold Sh.h
  cases hoq : S.oq with
  | none => exact .one
  | some q =>
    have hm := p q hoq
    have hn := hq q hoq
    refine .qd hm ?_
    by_cases h1 : 0 ≤ s + q.1
    · have := Rat.mul_nonneg h1 (show (0 : Rat) ≤ e + q.1 by grind); grind
    · have := Rat.mul_nonneg (show (0 : Rat) ≤ -(s + q.1) by grind) (show (0 : Rat) ≤ -(e + q.1) by grind); grind
/-- how short is short -/
structure Nums (S : Sh) (R A : Rat) (N : Nat) : Prop where
  R1 : 1 ≤ R
  cf : ∀ b ∈ slp S.F, bd b A
  ab : ∀ a b : Rat, S.oa = some a → S.ob = some b → 1 < (a - b) * (2 : Rat) ^ N ∨ 1 < (b - a) * (2 : Rat) ^ N
  mu : ∀ q : Rat × Rat, S.oq = some q → 1 ≤ q.2 * (2 : Rat) ^ N
  sl : ∀ a : Rat, (S.oa = some a ∨ S.ob = some a) → 20 * (A * (R * R)) < ev (slp S.F) a * (2 : Rat) ^ N ∨ 20 * (A * (R * R)) < -(ev (slp S.F) a) * (2 : Rat) ^ N
theorem two_pos (N : Nat) : 0 < (2 : Rat) ^ N := pow_pos' (by grind) N
theorem two_ge (N : Nat) : 1 ≤ (2 : Rat) ^ N := by
  induction N with
  | zero => rw [Rat.pow_zero]; grind
  | succ n ih => rw [Rat.pow_succ]; grind
/-- x < y from w ≤ 1/t, x·t bounded -/
theorem short_lt {w t y C : Rat} (ht : 0 < t) (hw : w * t ≤ 1) (hC : 0 ≤ C) (h : C < y * t) : C * w < y := by
  by_cases h1 : C * w < y
  · exact h1
  · have := Rat.mul_nonneg (show (0 : Rat) ≤ C * w - y by grind) (Rat.le_of_lt ht)
    have := Rat.mul_nonneg hC (show (0 : Rat) ≤ 1 - w * t by grind)
    grind
theorem slp_F_ok (o : S.Ok) : (slp S.F).length ≤ 4 := by
  have := F_le o
  rw [slp_len]; omega
theorem place_row (o : S.Ok) (p : S.Pos) {R A : Rat} {N : Nat} (n : S.Nums R A N) {s e a : Rat} (h : s < e) (bs : bd s R) (be : bd e R) (hw : (e - s) * (2 : Rat) ^ N ≤ 1) (ha : S.oa = some a) (h1 : s < a) (h2 : a < e) : unl S.F s e ∧ clr (slp S.F) s e ≠ 0 := by
  have hN := two_pos N
  have hb : ∀ b, S.ob = some b → b < s ∨ e < b := fun b hb => by
    rcases n.ab a b ha hb with hh | hh
    · have := short_lt hN hw (by grind) hh; grind
    · have := short_lt hN hw (by grind) hh; grind
  constructor
  · unfold unl
    rw [ev_F, ev_F]
    have f1 : ev S.f s * ev S.f e < 0 := by
      unfold f; rw [ha]
      simp only [Lf, ev_lin]
      have := Rat.mul_pos (show (0 : Rat) < -(s - a) by grind) (show (0 : Rat) < e - a by grind)
      grind
    have f2 : 0 < ev S.g s * ev S.g e := lf_same fun b h => by have := hb b h; grind
    have f3 : 0 < ev S.h s * ev S.h e := Rat.mul_pos (p.h_pos _) (p.h_pos _)
    have := Rat.mul_pos (show (0 : Rat) < -(ev S.f s * ev S.f e) by grind) (Rat.mul_pos f2 f3)
    grind
  · have hs := n.sl a (.inl ha)
    have hne : slp S.F ≠ [] := fun z => by
      rw [z] at hs
      simp only [ev_nil] at hs
      have hA : 0 ≤ 20 * (A * (R * R)) ∨ True := .inr trivial
      -- the slope is not the curve of no numbers: F has a place
      have : S.F.length = 1 := by
        have h1 := slp_len S.F
        rw [z] at h1
        have := S.MoF.len
        simp at h1; omega
      have c := Mo.mul_len (.Lf S.oa) (.mul (.Lf S.ob) (.Qf S.oq))
      have d := (Mo.mul (.Lf S.ob) (.Qf S.oq)).len
      have e1 : (Lf S.oa).length = 2 := by rw [ha]; rfl
      have e2 : S.F.length = (mul (Lf S.oa) (mul (Lf S.ob) (Qf S.oq))).length := rfl
      omega
    have hC : 0 ≤ 20 * (A * (R * R)) := by
      obtain ⟨b, hb⟩ := List.exists_mem_of_ne_nil _ hne
      have h3 := (n.cf b hb).nn
      have h4 := sq_nn R
      have := Rat.mul_nonneg h3 h4
      grind
    have w1 : e - s ≤ 1 := by
      have h3 := two_ge N
      have := Rat.mul_nonneg (show (0 : Rat) ≤ e - s by grind) (show (0 : Rat) ≤ (2 : Rat) ^ N - 1 by grind)
      grind
    refine est (Norm_slp S.MoF.nm) hne (slp_F_ok o) h bs be n.R1 n.cf w1 (Rat.le_of_lt h1) (Rat.le_of_lt h2) ?_
    have w0 : 0 ≤ e - s := by grind
    have hCw := Rat.mul_nonneg hC w0
    rcases hs with hs | hs
    · have := short_lt hN hw hC hs
      exact .inl ⟨by grind, by grind⟩
    · have := short_lt hN hw hC hs
      exact .inr ⟨by grind, by grind⟩
theorem sw_F (S : Sh) : S.sw.F = S.F := ident S.sw.MoF.nm S.MoF.nm fun x => by
  rw [ev_F, ev_F]
  show ev (Lf S.ob) x * (ev (Lf S.oa) x * ev S.h x) = ev (Lf S.oa) x * (ev (Lf S.ob) x * ev S.h x)
  grind
theorem sw_P (S : Sh) : S.sw.P = S.P := ident (Norm_P _) (Norm_P _) fun x => by rw [ev_P, ev_P, sw_val]
theorem Ok.sw (o : S.Ok) : S.sw.Ok := ⟨o.c0, fun a b h1 h2 => (o.ab b a h2 h1).symm, o.m0, fun a q h1 h2 => o.aq a q h1.symm h2, by rw [sw_P]; exact o.len⟩
theorem Nums.sw {R A : Rat} {N : Nat} (n : S.Nums R A N) : S.sw.Nums R A N :=
  ⟨n.R1, by rw [sw_F]; exact n.cf, fun a b h1 h2 => (n.ab b a h2 h1).symm, n.mu, fun a h => by rw [sw_F]; exact n.sl a h.symm⟩
theorem fine (o : S.Ok) (p : S.Pos) {R A : Rat} {N : Nat} (n : S.Nums R A N) : Fine S.P S.F R N := fun s e h bs be hw => by
  have hN := two_pos N
  by_cases ha : ∃ a, S.oa = some a ∧ s < a ∧ a < e
  · obtain ⟨a, ha, h1, h2⟩ := ha
    exact .inr (place_row o p n h bs be hw ha h1 h2)
  by_cases hb : ∃ a, S.ob = some a ∧ s < a ∧ a < e
  · obtain ⟨a, ha, h1, h2⟩ := hb
    have := place_row (S := S.sw) o.sw p n.sw h bs be hw ha h1 h2
    rw [sw_F] at this
    exact .inr this
  refine .inl (ob_P o h (ob_lf h fun a h1 h2 => ha ⟨a, h1, h2⟩) (ob_lf h fun a h1 h2 => hb ⟨a, h1, h2⟩) ?_)
  unfold Sh.h
  cases hoq : S.oq with
  | none => exact .one
  | some q =>
    have hm := p q hoq
    refine .qd hm ?_
    by_cases h1 : 0 ≤ (s + q.1) * (e + q.1)
    · grind
    · have h3 : (s + q.1) * (e + q.1) < 0 := by grind
      have hw0 : 0 ≤ e - s := by grind
      have h2 := n.mu q hoq
      have w1 : (e - s) ≤ q.2 := by
        by_cases h4 : e - s ≤ q.2
        · exact h4
        · have := Rat.mul_pos (show (0 : Rat) < (e - s) - q.2 by grind) hN
          grind
      have w2 : e - s ≤ 1 := by
        have h3 := two_ge N
        have := Rat.mul_nonneg hw0 (show (0 : Rat) ≤ (2 : Rat) ^ N - 1 by grind)
        grind
      have w3 : (e - s) * (e - s) ≤ q.2 := by
        have := Rat.mul_nonneg hw0 (show (0 : Rat) ≤ 1 - (e - s) by grind)
        grind
      have h5 := sq_nn ((s + q.1) + (e + q.1))
      grind
end Sh
end NB

/-! NBVer: quadratics that go below nought; maps, verdicts; the bound beyond which no place lies. -/
namespace NB

/-! ### c ((x + b)^2 + m), m below nought -/
namespace Sh
structure Neg (S : Sh) (b m : Rat) : Prop where
  oa : S.oa = none
  ob : S.ob = none
  oq : S.oq = some (b, m)
  k : S.k = 0
  m0 : m < 0
variable {S : Sh} {b m : Rat}
theorem Neg.F (n : S.Neg b m) : S.F = qd b m := ident S.MoF.nm (Mo.qd b m).nm fun x => by
  rw [ev_F]; unfold f g h; rw [n.oa, n.ob, n.oq]; simp only [Lf, Qf, ev]; grind
theorem Neg.val (n : S.Neg b m) (x : Rat) : S.val x = S.c * ev (qd b m) x := by
  unfold Sh.val f g h; rw [n.oa, n.ob, n.oq, n.k]
  simp only [Lf, Qf, ev]
  have e1 : ∀ i : Nat, ((1 : Rat) + x * 0) ^ (i + 1) = 1 := fun i => by
    have : (1 : Rat) + x * 0 = 1 := by grind
    rw [this]
    induction i with
    | zero => rw [Rat.pow_succ, Rat.pow_zero]; grind
    | succ i ih => rw [Rat.pow_succ, ih]; grind
  rw [e1, e1, Rat.pow_succ, Rat.pow_zero]; grind
theorem Neg.kit (n : S.Neg b m) (o : S.Ok) : Kit S.P S.F where
  nm := S.Norm_P
  ne := P_ne o.c0
  l5 := o.len
  pl := o.gcd.2
  mf := S.MoF
  f5 := F_le o
  fz := fun x => by rw [ev_P, val_zero o.c0, ev_F, Rat.mul_eq_zero, Rat.mul_eq_zero]
  un := fun s e h u => by
    refine .inr ?_
    unfold unl at u
    rw [n.F] at u
    rw [ev_P, ev_P, n.val, n.val]
    by_cases hc : 0 < S.c
    · rcases mul_neg_cases u with ⟨h1, _⟩ | ⟨_, h1⟩
      · have := Rat.mul_pos hc (show (0 : Rat) < -(ev (qd b m) s) by grind); exact .inl (by grind)
      · have := Rat.mul_pos hc (show (0 : Rat) < -(ev (qd b m) e) by grind); exact .inr (by grind)
    · have h0 := o.c0
      rcases mul_neg_cases u with ⟨_, h1⟩ | ⟨h1, _⟩
      · have := Rat.mul_pos (show (0 : Rat) < -S.c by grind) h1; exact .inr (by grind)
      · have := Rat.mul_pos (show (0 : Rat) < -S.c by grind) h1; exact .inl (by grind)
  bl := fun s e h u x _ _ _ => by
    unfold unl at u
    rw [n.F] at u
    rw [ev_P, ev_P, n.val, n.val]
    by_cases hc : 0 < S.c
    · rcases mul_neg_cases u with ⟨h1, _⟩ | ⟨_, h1⟩
      · have := Rat.mul_pos hc (show (0 : Rat) < -(ev (qd b m) s) by grind); exact .inl (by grind)
      · have := Rat.mul_pos hc (show (0 : Rat) < -(ev (qd b m) e) by grind); exact .inr (by grind)
    · have h0 := o.c0
      rcases mul_neg_cases u with ⟨_, h1⟩ | ⟨h1, _⟩
      · have := Rat.mul_pos (show (0 : Rat) < -S.c by grind) h1; exact .inr (by grind)
      · have := Rat.mul_pos (show (0 : Rat) < -S.c by grind) h1; exact .inl (by grind)
theorem Neg.ob_P (n : S.Neg b m) (o : S.Ok) {s e : Rat} (h : s < e) (h3 : OB (qd b m) s e) : clr S.P s e ≠ 0 := by
  refine Sh.ob_P o h (by unfold f; rw [n.oa]; exact .one) (by unfold g; rw [n.ob]; exact .one) ?_
  unfold Sh.h; rw [n.oq]; exact h3
theorem slp_qd (b m : Rat) : slp (qd b m) = [2 * b, 2] := by
  show [2 * b * ((1 : Nat) : Rat), 1 * ((2 : Nat) : Rat)] = _
  have : ((1 : Nat) : Rat) = 1 := rfl
  have e2 : ((2 : Nat) : Rat) = 2 := rfl
  rw [this, e2]
  congr 1
  · grind
  · congr 1
    grind
theorem clr_slp_qd {b m s e : Rat} (h : s < e) (hb : ¬ (s < -b ∧ -b < e)) : clr (slp (qd b m)) s e ≠ 0 := by
  rw [slp_qd]
  have hn : Norm [2 * b, 2] := Norm_cons (Norm_one (by grind)) (by simp)
  refine clr_ne' hn (by simp) (by simp) h (L := [2 * (s + b), 2 * (e + b)]) ⟨rfl, fun t => by simp only [hom, ev, List.length_cons, List.length_nil]; grind⟩ (σ := if 0 ≤ s + b then 1 else -1) ?_
  split
  · refine one_iff.mpr ⟨fun y hy => ?_, 2 * (e + b), by simp, by grind⟩
    simp only [List.mem_cons, List.not_mem_nil, or_false] at hy
    grind
  · refine one_iff.mpr ⟨fun y hy => ?_, 2 * (s + b), by simp, by grind⟩
    simp only [List.mem_cons, List.not_mem_nil, or_false] at hy
    grind
theorem Neg.spec (n : S.Neg b m) (o : S.Ok) : Spec S.P S.F [-b] := fun s e h hs => by
  have hb : ¬ (s < -b ∧ -b < e) := hs (-b) (by simp)
  unfold Res unl
  rw [n.F]
  -- u = s + b, v = e + b of one side
  have huv : 0 ≤ (s + b) * (e + b) := by
    by_cases h1 : 0 ≤ s + b
    · exact Rat.mul_nonneg h1 (by grind)
    · have := Rat.mul_nonneg (show (0 : Rat) ≤ -(s + b) by grind) (show (0 : Rat) ≤ -(e + b) by grind); grind
  have big : ((s + b) * (s + b) ≤ (s + b) * (e + b) ∧ (s + b) * (e + b) ≤ (e + b) * (e + b) ∧ (s + b) * (s + b) < (e + b) * (e + b)) ∨ ((e + b) * (e + b) ≤ (s + b) * (e + b) ∧ (s + b) * (e + b) ≤ (s + b) * (s + b) ∧ (e + b) * (e + b) < (s + b) * (s + b)) := by
    by_cases h1 : 0 ≤ s + b
    · have a1 := Rat.mul_nonneg h1 (show (0 : Rat) ≤ (e + b) - (s + b) by grind)
      have a2 := Rat.mul_pos (show (0 : Rat) < e + b by grind) (show (0 : Rat) < (e + b) - (s + b) by grind)
      exact .inl ⟨by grind, by grind, by grind⟩
    · have a1 := Rat.mul_nonneg (show (0 : Rat) ≤ -(e + b) by grind) (show (0 : Rat) ≤ (e + b) - (s + b) by grind)
      have a2 := Rat.mul_pos (show (0 : Rat) < -(s + b) by grind) (show (0 : Rat) < (e + b) - (s + b) by grind)
      exact .inr ⟨by grind, by grind, by grind⟩
  have evs : ∀ x, ev (qd b m) x = (x + b) * (x + b) + m := ev_qd b m
  have ob1 : ∀ σ : Rat, One σ [(s + b) * (s + b) + m, 2 * ((s + b) * (e + b) + m), (e + b) * (e + b) + m] → clr S.P s e ≠ 0 := fun σ hh => n.ob_P o h ⟨_, σ, bern_qd b m, hh⟩
  rw [evs, evs]
  generalize (s + b) * (s + b) = u2 at *
  generalize (s + b) * (e + b) = uv at *
  generalize (e + b) * (e + b) = v2 at *
  by_cases hu : 0 ≤ u2 + m
  · by_cases hv : 0 ≤ v2 + m
    · refine .inl (ob1 1 (one_iff.mpr ⟨fun y hy => ?_, ?_⟩))
      · simp only [List.mem_cons, List.not_mem_nil, or_false] at hy
        grind
      · by_cases h3 : 0 < v2 + m
        · exact ⟨v2 + m, by simp, by grind⟩
        · exact ⟨u2 + m, by simp, by grind⟩
    · by_cases h0 : 0 < u2 + m
      · refine .inr ⟨?_, clr_slp_qd h hb⟩
        have := Rat.mul_pos h0 (show (0 : Rat) < -(v2 + m) by grind); grind
      · refine .inl (ob1 (-1) (one_iff.mpr ⟨fun y hy => ?_, v2 + m, by simp, by grind⟩))
        simp only [List.mem_cons, List.not_mem_nil, or_false] at hy
        grind
  · by_cases hv : 0 < v2 + m
    · refine .inr ⟨?_, clr_slp_qd h hb⟩
      have := Rat.mul_pos hv (show (0 : Rat) < -(u2 + m) by grind); grind
    · refine .inl (ob1 (-1) (one_iff.mpr ⟨fun y hy => ?_, u2 + m, by simp, by grind⟩))
      simp only [List.mem_cons, List.not_mem_nil, or_false] at hy
      grind
theorem Neg.fine (n : S.Neg b m) (o : S.Ok) {R : Rat} {N : Nat} (hm : 1 ≤ -m * (2 : Rat) ^ N) : Fine S.P S.F R N := fun s e h _ _ hw => by
  by_cases hb : s < -b ∧ -b < e
  · have hN := two_pos N
    have hw0 : 0 ≤ e - s := by grind
    have w1 : (e - s) ≤ -m := by
      by_cases h4 : e - s ≤ -m
      · exact h4
      · have := Rat.mul_pos (show (0 : Rat) < (e - s) - -m by grind) hN
        grind
    have w2 : e - s ≤ 1 := by
      have h3 := two_ge N
      have := Rat.mul_nonneg hw0 (show (0 : Rat) ≤ (2 : Rat) ^ N - 1 by grind)
      grind
    have w3 : (e - s) * (e - s) ≤ -m := by
      have := Rat.mul_nonneg hw0 (show (0 : Rat) ≤ 1 - (e - s) by grind)
      grind
    have a1 := Rat.mul_pos (show (0 : Rat) < -(s + b) by grind) (show (0 : Rat) < e + b by grind)
    have a2 := sq_nn (s + b)
    have a3 := Rat.mul_pos (show (0 : Rat) < e + b by grind) (show (0 : Rat) < e + b by grind)
    have a4 := Rat.mul_pos (show (0 : Rat) < -(s + b) by grind) (show (0 : Rat) < -(s + b) by grind)
    refine .inl (n.ob_P o h ⟨_, -1, bern_qd b m, one_iff.mpr ⟨fun y hy => ?_, (s + b) * (s + b) + m, by simp, by grind⟩⟩)
    simp only [List.mem_cons, List.not_mem_nil, or_false] at hy
    grind
  · refine n.spec o s e h fun a ha => ?_
    have : a = -b := by simpa using ha
    rw [this]; exact hb
end Sh

/-! ### maps -/
structure Row where
  place : Bool
  s : Rat
  e : Rat
  ns : Pl
noncomputable section
open Classical
def rowOn (P F : Pl) (s e : Rat) : Option Row :=
  if clr P s e ≠ 0 then some ⟨false, s, e, mixd P s e (P.length - 1)⟩
  else if ¬ unl F s e then none
  else if clr (slp F) s e = 0 then none else some ⟨true, s, e, mixd (slp F) s e ((slp F).length - 1)⟩
def endRow (F : Pl) (x : Rat) : List Row := if ev F x = 0 then [⟨true, x, x, []⟩] else []
end
theorem rowOn_none {P F : Pl} {s e : Rat} (h : rowOn P F s e = none) : ¬ Res P F s e := by
  unfold rowOn at h
  unfold Res
  split at h
  · cases h
  · split at h
    · rename_i h1 h2; rintro (h3 | ⟨h3, _⟩)
      · exact h1 h3
      · exact h2 h3
    · split at h
      · rename_i h1 h2 h3; rintro (h4 | ⟨_, h4⟩)
        · exact h1 h4
        · exact h4 h3
      · cases h
theorem rowOn_some {P F : Pl} {s e : Rat} {r : Row} (h : rowOn P F s e = some r) : r.s = s ∧ r.e = e ∧ ((r.place = false ∧ clr P s e ≠ 0) ∨ (r.place = true ∧ unl F s e)) := by
  unfold rowOn at h
  split at h
  · rename_i h1
    cases h
    exact ⟨rfl, rfl, .inl ⟨rfl, h1⟩⟩
  · split at h
    · cases h
    · rename_i h2
      split at h
      · cases h
      · cases h
        exact ⟨rfl, rfl, .inr ⟨rfl, Classical.not_not.mp h2⟩⟩

structure Cov (P F : Pl) (lo cur : Rat) (rows : List Row) : Prop where
  rg : ∀ r ∈ rows, lo ≤ r.s ∧ r.s ≤ r.e ∧ r.e ≤ cur
  cl : ∀ r ∈ rows, r.place = false → r.s < r.e ∧ clr P r.s r.e ≠ 0
  p1 : ∀ r ∈ rows, r.place = true → (r.s = r.e ∧ ev F r.s = 0) ∨ (r.s < r.e ∧ unl F r.s r.e)
  cv : ∀ x : Rat, lo ≤ x → x ≤ cur → lo < cur → ∃ r ∈ rows, r.s ≤ x ∧ x ≤ r.e ∧ r.s < r.e
  rt : ∀ x : Rat, lo ≤ x → x ≤ cur → ev F x = 0 → ∃ r ∈ rows, r.place = true

section
variable {P F : Pl} {lo cur e : Rat} {rows : List Row}
theorem mem_endRow {F : Pl} {x : Rat} {r : Row} (h : r ∈ endRow F x) : r.place = true ∧ r.s = x ∧ r.e = x ∧ ev F x = 0 := by
  unfold endRow at h
  split at h
  · rename_i h1
    have : r = ⟨true, x, x, []⟩ := by simpa using h
    subst this
    exact ⟨rfl, rfl, rfl, h1⟩
  · simp at h
theorem Cov.init (P F : Pl) (lo : Rat) : Cov P F lo lo (endRow F lo) where
  rg := fun r h => by obtain ⟨_, h1, h2, _⟩ := mem_endRow h; grind
  cl := fun r h hp => by obtain ⟨h0, _⟩ := mem_endRow h; rw [hp] at h0; cases h0
  p1 := fun r h _ => by obtain ⟨_, h1, h2, h3⟩ := mem_endRow h; exact .inl ⟨by rw [h1, h2], by rw [h1]; exact h3⟩
  cv := fun x _ _ h => by grind
  rt := fun x h1 h2 h3 => by
    have : x = lo := by grind
    subst this
    exact ⟨⟨true, x, x, []⟩, by unfold endRow; rw [if_pos h3]; simp, rfl⟩
theorem Cov.step (c : Cov P F lo cur rows) (K : Kit P F) (h : cur < e) (hlo : lo ≤ cur) {r : Row} (hr : rowOn P F cur e = some r) : Cov P F lo e (rows ++ r :: endRow F e) := by
  obtain ⟨rs, re, hk⟩ := rowOn_some hr
  have mem : ∀ r', r' ∈ rows ++ r :: endRow F e ↔ r' ∈ rows ∨ r' = r ∨ r' ∈ endRow F e := fun r' => by simp
  refine ⟨fun r' h' => ?_, fun r' h' hp => ?_, fun r' h' hp => ?_, fun x h1 h2 _ => ?_, fun x h1 h2 h3 => ?_⟩
  · rcases (mem r').mp h' with h' | rfl | h'
    · have := c.rg r' h'; grind
    · grind
    · obtain ⟨_, h1, h2, _⟩ := mem_endRow h'; grind
  · rcases (mem r').mp h' with h' | rfl | h'
    · exact c.cl r' h' hp
    · rcases hk with ⟨_, hk⟩ | ⟨hk, _⟩
      · rw [rs, re]; exact ⟨h, hk⟩
      · rw [hp] at hk; cases hk
    · obtain ⟨h0, _⟩ := mem_endRow h'; rw [hp] at h0; cases h0
  · rcases (mem r').mp h' with h' | rfl | h'
    · exact c.p1 r' h' hp
    · rcases hk with ⟨hk, _⟩ | ⟨_, hk⟩
      · rw [hp] at hk; cases hk
      · rw [rs, re]; exact .inr ⟨h, hk⟩
    · obtain ⟨_, h1, h2, h3⟩ := mem_endRow h'; exact .inl ⟨by rw [h1, h2], by rw [h1]; exact h3⟩
  · by_cases h3 : x ≤ cur
    · by_cases h4 : lo < cur
      · obtain ⟨r', hr', h5⟩ := c.cv x h1 h3 h4
        exact ⟨r', (mem r').mpr (.inl hr'), h5⟩
      · exact ⟨r, (mem r).mpr (.inr (.inl rfl)), by grind⟩
    · exact ⟨r, (mem r).mpr (.inr (.inl rfl)), by grind⟩
  · by_cases h4 : x ≤ cur
    · obtain ⟨r', hr', h5⟩ := c.rt x h1 h4 h3
      exact ⟨r', (mem r').mpr (.inl hr'), h5⟩
    · by_cases h5 : x = e
      · subst h5
        exact ⟨⟨true, x, x, []⟩, (mem _).mpr (.inr (.inr (by unfold endRow; rw [if_pos h3]; simp))), rfl⟩
      · refine ⟨r, (mem r).mpr (.inr (.inl rfl)), ?_⟩
        rcases hk with ⟨_, hk⟩ | ⟨hk, _⟩
        · exfalso
          obtain ⟨σ, _, hs⟩ := clr_sign K.nm K.ne K.l5 h hk
          have := hs x (by grind) (by grind)
          rw [(K.fz x).mp h3] at this
          grind
        · exact hk

/-- what below_place finds -/
def belowRow (P : Pl) (r : Row) : Option Rat := if ev P r.s < 0 then some r.s else if ev P ((r.s + r.e) / 2) < 0 then some ((r.s + r.e) / 2) else if ev P r.e < 0 then some r.e else none
def belowP (P : Pl) : List Row → Option Rat
  | [] => none
  | r :: rs => match belowRow P r with
    | some x => some x
    | none => belowP P rs
theorem belowRow_some {r : Row} {x : Rat} (h : belowRow P r = some x) (hr : r.s ≤ r.e) : ev P x < 0 ∧ r.s ≤ x ∧ x ≤ r.e := by
  unfold belowRow at h
  split at h
  · cases h; exact ⟨by assumption, by grind, hr⟩
  · split at h
    · cases h; exact ⟨by assumption, by grind, by grind⟩
    · split at h
      · cases h; exact ⟨by assumption, hr, by grind⟩
      · cases h
theorem belowP_some : ∀ {rows : List Row} {x : Rat}, belowP P rows = some x → (∀ r ∈ rows, lo ≤ r.s ∧ r.s ≤ r.e ∧ r.e ≤ cur) → ev P x < 0 ∧ lo ≤ x ∧ x ≤ cur
  | [], _, h, _ => by cases h
  | r :: rs, x, h, hr => by
    unfold belowP at h
    have h1 := hr r List.mem_cons_self
    cases hb : belowRow P r with
    | some y =>
      rw [hb] at h
      cases h
      have := belowRow_some hb h1.2.1
      grind
    | none =>
      rw [hb] at h
      exact belowP_some h fun r' h' => hr r' (List.mem_cons_of_mem _ h')
theorem belowP_none : ∀ {rows : List Row}, belowP P rows = none → ∀ r ∈ rows, ¬ ev P r.s < 0 ∧ ¬ ev P ((r.s + r.e) / 2) < 0 ∧ ¬ ev P r.e < 0
  | [], _, r, h => by simp at h
  | r :: rs, h, r', hr' => by
    unfold belowP at h
    cases hb : belowRow P r with
    | some y => rw [hb] at h; cases h
    | none =>
      rw [hb] at h
      rcases List.mem_cons.mp hr' with rfl | hr'
      · unfold belowRow at hb
        split at hb
        · cases hb
        · split at hb
          · cases hb
          · split at hb
            · cases hb
            · exact ⟨by assumption, by assumption, by assumption⟩
      · exact belowP_none h r' hr'
/-- a curve that goes below nought on a stretch is found -/
theorem Cov.none_below (c : Cov P F lo cur rows) (K : Kit P F) (h : lo < cur) (hb : belowP P rows = none) : ∀ x : Rat, lo ≤ x → x ≤ cur → 0 ≤ ev P x := fun x h1 h2 => by
  by_cases hx : 0 ≤ ev P x
  · exact hx
  · exfalso
    obtain ⟨r, hr, h3, h4, h5⟩ := c.cv x h1 h2 h
    obtain ⟨n1, n2, n3⟩ := belowP_none hb r hr
    have hxs : x ≠ r.s := fun z => by subst z; exact n1 (by grind)
    have hxe : x ≠ r.e := fun z => by subst z; exact n3 (by grind)
    cases hp : r.place with
    | false =>
      obtain ⟨_, hc⟩ := c.cl r hr hp
      obtain ⟨σ, hσ, hs⟩ := clr_sign K.nm K.ne K.l5 h5 hc
      have a1 := hs x (by grind) (by grind)
      have a2 := hs ((r.s + r.e) / 2) (by grind) (by grind)
      rcases hσ with rfl | rfl <;> grind
    | true =>
      rcases c.p1 r hr hp with ⟨z, _⟩ | ⟨_, hu⟩
      · grind
      · rcases K.bl r.s r.e h5 hu x (by grind) (by grind) (by grind) with h6 | h6
        · exact n1 h6
        · exact n3 h6
theorem Cov.place_root (c : Cov P F lo cur rows) (K : Kit P F) (hb : belowP P rows = none) (hp : ∃ r ∈ rows, r.place = true) : ∃ x : Rat, lo ≤ x ∧ x ≤ cur ∧ ev P x = 0 := by
  obtain ⟨r, hr, hp⟩ := hp
  have hg := c.rg r hr
  obtain ⟨n1, _, n3⟩ := belowP_none hb r hr
  rcases c.p1 r hr hp with ⟨_, h1⟩ | ⟨h0, h1⟩
  · exact ⟨r.s, hg.1, by grind, (K.fz _).mp h1⟩
  · rcases K.un r.s r.e h0 h1 with ⟨x, h2, h3, h4⟩ | h2 | h2
    · exact ⟨x, by grind, by grind, h4⟩
    · exact absurd h2 n1
    · exact absurd h2 n3
/-- the place told by a place row: a place where the curve is nought lies in it -/
theorem Cov.row_root (c : Cov P F lo cur rows) (K : Kit P F) (hb : belowP P rows = none) {r : Row} (hr : r ∈ rows) (hp : r.place = true) : ∃ x : Rat, r.s ≤ x ∧ x ≤ r.e ∧ ev P x = 0 := by
  obtain ⟨n1, _, n3⟩ := belowP_none hb r hr
  rcases c.p1 r hr hp with ⟨h2, h1⟩ | ⟨h0, h1⟩
  · exact ⟨r.s, by grind, by grind, (K.fz _).mp h1⟩
  · rcases K.un r.s r.e h0 h1 with ⟨x, h2, h3, h4⟩ | h2 | h2
    · exact ⟨x, by grind, by grind, h4⟩
    · exact absurd h2 n1
    · exact absurd h2 n3
end

/-! ### the bound -/
def absR (q : Rat) : Rat := if q < 0 then 0 - q else q
def maxF (L : Rat) : Rat → Pl → Rat
  | g, [] => g
  | g, a :: p => maxF L (if g < absR (a / L) then absR (a / L) else g) p
def bnd (P : Pl) : Rat := 1 + maxF (lst P) 0 P.dropLast
theorem maxF_ge (L : Rat) : ∀ (p : Pl) (g : Rat), g ≤ maxF L g p ∧ ∀ a ∈ p, absR (a / L) ≤ maxF L g p
  | [], g => ⟨Rat.le_refl, fun a h => by simp at h⟩
  | b :: p, g => by
    obtain ⟨h1, h2⟩ := maxF_ge L p (if g < absR (b / L) then absR (b / L) else g)
    unfold maxF
    refine ⟨by split at h1 <;> grind, fun a ha => ?_⟩
    rcases List.mem_cons.mp ha with rfl | ha
    · split at h1 <;> grind
    · exact h2 a ha
theorem init_bd {l M x y : Rat} (hl : 0 ≤ l) (hM : 0 ≤ M) (hy : 1 + M ≤ y) (hx : bd x y) : ∀ p : Pl, (∀ a ∈ p, bd a (M * l)) → bd (ev p x) (l * (y ^ p.length - 1))
  | [], _ => by
    simp only [ev, List.length_nil]
    rw [Rat.pow_zero]
    unfold bd; constructor <;> grind
  | a :: p, h => by
    have ih := init_bd hl hM hy hx p fun b hb => h b (List.mem_cons_of_mem _ hb)
    have ha := h a List.mem_cons_self
    refine (ha.add (hx.mul ih)).mono ?_
    rw [List.length_cons, Rat.pow_succ]
    have := Rat.mul_nonneg hl (show (0 : Rat) ≤ y - 1 - M by grind)
    generalize y ^ p.length = Y
    grind
theorem bd_absR {a L M : Rat} (hL : L ≠ 0) (h : absR (a / L) ≤ M) : bd a (M * absR L) := by
  have hb : bd (a / L) M := by
    unfold absR at h
    unfold bd
    split at h <;> constructor <;> grind
  have hL2 : bd L (absR L) := by
    unfold absR bd
    split <;> constructor <;> grind
  have := hb.mul hL2
  have e : a / L * L = a := by grind
  rwa [e] at this
theorem dropLast_lst {P : Pl} (h : P ≠ []) : P = P.dropLast ++ [lst P] := by
  have h1 := List.dropLast_concat_getLast h
  have h2 : P.getLast h = lst P := by
    unfold lst
    rw [co_lt (by have := List.length_pos_iff.mpr h; omega), List.getLast_eq_getElem]
  rw [← h2]; exact h1.symm
theorem absR_nn (q : Rat) : 0 ≤ absR q := by unfold absR; split <;> grind
theorem bnd_ge {P : Pl} : 1 ≤ bnd P := by
  have := (maxF_ge (lst P) P.dropLast 0).1
  unfold bnd; grind
/-- beyond the bound, to the right: the sign of the last number -/
theorem far_aux {P : Pl} (hp : Norm P) (h : P ≠ []) {x y : Rat} (hy : bnd P ≤ y) (hx : x = y ∨ x = -y) : 0 < lst P * x ^ P.dropLast.length * ev P x ∧ 0 < x ^ P.dropLast.length * x ^ P.dropLast.length := by
  have hL := lst_ne hp h
  obtain ⟨g1, g2⟩ := maxF_ge (lst P) P.dropLast 0
  have hy1 : 1 + maxF (lst P) 0 P.dropLast ≤ y := hy
  have bx : bd x y := by unfold bd; rcases hx with rfl | rfl <;> constructor <;> grind
  have hb := init_bd (absR_nn (lst P)) g1 hy1 bx P.dropLast fun a ha => bd_absR hL (g2 a ha)
  have e : ev P x = ev P.dropLast x + x ^ P.dropLast.length * lst P := by
    have := ev_append [lst P] x P.dropLast
    rw [← dropLast_lst h] at this
    rw [this]; simp only [ev]; grind
  have hy0 : 0 < y := by grind
  -- |x^n| = y^n
  have hxn : ∀ n : Nat, x ^ n = y ^ n ∨ x ^ n = -(y ^ n) := fun n => by
    induction n with
    | zero => exact .inl (by rw [Rat.pow_zero, Rat.pow_zero])
    | succ n ih => rw [Rat.pow_succ, Rat.pow_succ]; rcases hx with rfl | rfl <;> rcases ih with ih | ih <;> rw [ih] <;> grind
  have hyn := pow_pos' hy0 P.dropLast.length
  have hn1 := hxn P.dropLast.length
  generalize P.dropLast.length = n at *
  rw [e]
  generalize ev P.dropLast x = w at *
  generalize hL' : lst P = L at *
  have hl : absR L * absR L = L * L := by unfold absR; split <;> grind
  have hl0 := absR_nn L
  have bL : bd L (absR L) := by unfold absR bd; split <;> constructor <;> grind
  have hLL := sq_pos hL
  -- L x^n w within |L| y^n |L| (y^n - 1)
  have bX : bd (x ^ n) (y ^ n) := by unfold bd; rcases hn1 with h | h <;> rw [h] <;> constructor <;> grind
  have hm := (bL.mul bX).mul hb
  have hXX : x ^ n * x ^ n = y ^ n * y ^ n := by rcases hn1 with h | h <;> rw [h] <;> grind
  have hYY := Rat.mul_pos hyn hyn
  have e2 : absR L * y ^ n * (absR L * (y ^ n - 1)) = L * L * (y ^ n * y ^ n) - L * L * y ^ n := by rw [← hl]; grind
  rw [e2] at hm
  have h3 := Rat.mul_pos hLL hyn
  refine ⟨?_, by rw [hXX]; exact hYY⟩
  have e3 : L * x ^ n * (w + x ^ n * L) = L * x ^ n * w + L * L * (x ^ n * x ^ n) := by grind
  rw [e3, hXX]
  obtain ⟨m1, m2⟩ := hm
  grind
theorem far_right {P : Pl} (hp : Norm P) (h : P ≠ []) {x : Rat} (hx : bnd P ≤ x) : 0 < lst P * ev P x := by
  have h1 := (far_aux hp h hx (.inl rfl)).1
  have h0 : 0 < x := by have := bnd_ge (P := P); grind
  have hn := pow_pos' h0 P.dropLast.length
  generalize x ^ P.dropLast.length = X at *
  by_cases h2 : 0 < lst P * ev P x
  · exact h2
  · have := Rat.mul_nonneg (show (0 : Rat) ≤ -(lst P * ev P x) by grind) (Rat.le_of_lt hn)
    grind
/-- .. to the left: one sign -/
theorem far_left {P : Pl} (hp : Norm P) (h : P ≠ []) {x z : Rat} (hx : x ≤ -(bnd P)) (hz : z ≤ -(bnd P)) : 0 < ev P x * ev P z := by
  have h1 := (far_aux hp h (x := x) (y := -x) (by grind) (.inr (by grind))).1
  have h2 := (far_aux hp h (x := z) (y := -z) (by grind) (.inr (by grind))).1
  have b := bnd_ge (P := P)
  have sg : ∀ n : Nat, 0 < x ^ n * z ^ n := fun n => by
    rw [← rpow_mul]
    have := Rat.mul_pos (show (0 : Rat) < -x by grind) (show (0 : Rat) < -z by grind)
    exact pow_pos' (by grind) n
  have hs := sg P.dropLast.length
  have hL := sq_pos (lst_ne hp h)
  have h3 := Rat.mul_pos h1 h2
  generalize x ^ P.dropLast.length = X at *
  generalize z ^ P.dropLast.length = Z at *
  have h4 := Rat.mul_pos hL hs
  by_cases h5 : 0 < ev P x * ev P z
  · exact h5
  · have := Rat.mul_nonneg (Rat.le_of_lt h4) (show (0 : Rat) ≤ -(ev P x * ev P z) by grind)
    grind
end NB

/-! NBSz: sizes of numbers; what the program's number tells. -/
namespace NB

def Sz (n : Nat) (q : Rat) : Prop := q.num.natAbs ≤ 2 ^ n ∧ q.den ≤ 2 ^ n
def SzL (n : Nat) (p : Pl) : Prop := ∀ a ∈ p, Sz n a

theorem Sz.mono {m n : Nat} {q : Rat} (h : Sz m q) (hmn : m ≤ n) : Sz n q :=
  have := Nat.pow_le_pow_right (show 0 < 2 by omega) hmn
  ⟨Nat.le_trans h.1 this, Nat.le_trans h.2 this⟩
theorem SzL.mono {m n : Nat} {p : Pl} (h : SzL m p) (hmn : m ≤ n) : SzL n p := fun a ha => (h a ha).mono hmn
theorem divInt_num {t b : Int} (h : 0 < b) : (Rat.divInt t b).num = t / (Int.gcd b t : Int) := by
  rw [Rat.num_divInt, Int.sign_eq_one_of_pos h, Int.one_mul]
theorem divInt_den {t b : Int} (h : b ≠ 0) : (Rat.divInt t b).den = b.natAbs / Int.gcd b t := by
  rw [Rat.den_divInt, if_neg h]
theorem Sz.divInt {t b : Int} {n : Nat} (h1 : t.natAbs ≤ 2 ^ n) (h2 : b.natAbs ≤ 2 ^ n) : Sz n (Rat.divInt t b) := by
  by_cases h : b = 0
  · subst h
    rw [Rat.divInt_zero]
    exact ⟨by simp, Nat.one_le_two_pow⟩
  · have key : ∀ (t b : Int), 0 < b → t.natAbs ≤ 2 ^ n → b.natAbs ≤ 2 ^ n → Sz n (Rat.divInt t b) := fun t b hb h1 h2 => by
      constructor
      · rw [divInt_num hb]
        refine Nat.le_trans ?_ h1
        rw [Int.natAbs_ediv_of_dvd (Int.gcd_dvd_right ..)]
        exact Nat.div_le_self _ _
      · rw [divInt_den (by omega)]
        exact Nat.le_trans (Nat.div_le_self _ _) h2
    by_cases hb : 0 < b
    · exact key t b hb h1 h2
    · rw [← Rat.neg_divInt_neg]
      exact key (-t) (-b) (by omega) (by rw [Int.natAbs_neg]; exact h1) (by rw [Int.natAbs_neg]; exact h2)
theorem add_divInt (a b : Rat) : a + b = Rat.divInt (a.num * b.den + b.num * a.den) (a.den * b.den) := by
  rw [Rat.add_def', ← Rat.divInt_ofNat]
  rfl
theorem sub_divInt (a b : Rat) : a - b = Rat.divInt (a.num * b.den - b.num * a.den) (a.den * b.den) := by
  rw [Rat.sub_def', ← Rat.divInt_ofNat]
  rfl
theorem mul_divInt (a b : Rat) : a * b = Rat.divInt (a.num * b.num) (a.den * b.den) := by
  rw [Rat.mul_def', ← Rat.divInt_ofNat]
  rfl
theorem div_divInt (a b : Rat) : a / b = Rat.divInt (a.num * b.den) (a.den * b.num) := by
  have hb : b⁻¹ = Rat.divInt b.den b.num := by
    conv => lhs; rw [← Rat.num_divInt_den b]
    rw [Rat.inv_divInt]
  rw [Rat.div_def, hb]
  conv => lhs; rw [← Rat.num_divInt_den a]
  rw [Rat.divInt_mul_divInt]
theorem pow_mul_le {x y a b : Nat} (h1 : x ≤ 2 ^ a) (h2 : y ≤ 2 ^ b) : x * y ≤ 2 ^ (a + b) := by
  rw [Nat.pow_add]; exact Nat.mul_le_mul h1 h2
theorem Sz.add {a b : Nat} {x y : Rat} (h : Sz a x) (k : Sz b y) : Sz (a + b + 1) (x + y) := by
  rw [add_divInt]
  refine .divInt ?_ ?_
  · have h1 := pow_mul_le h.1 k.2
    have h2 := pow_mul_le k.1 h.2
    have h3 : (x.num * (y.den : Int) + y.num * (x.den : Int)).natAbs ≤ x.num.natAbs * y.den + y.num.natAbs * x.den := by
      refine Nat.le_trans (Int.natAbs_add_le _ _) ?_
      rw [Int.natAbs_mul, Int.natAbs_mul, Int.natAbs_natCast, Int.natAbs_natCast]
      exact Nat.le_refl _
    rw [Nat.add_comm b a] at h2
    rw [Nat.pow_succ]; omega
  · rw [Int.natAbs_mul, Int.natAbs_natCast, Int.natAbs_natCast]
    refine Nat.le_trans (pow_mul_le h.2 k.2) ?_
    exact Nat.pow_le_pow_right (by omega) (by omega)
theorem Sz.neg {a : Nat} {x : Rat} (h : Sz a x) : Sz a (-x) := by
  unfold Sz at *
  rw [Rat.neg_num, Rat.neg_den, Int.natAbs_neg]; exact h
theorem Sz.sub {a b : Nat} {x y : Rat} (h : Sz a x) (k : Sz b y) : Sz (a + b + 1) (x - y) := by
  rw [Rat.sub_eq_add_neg]; exact h.add k.neg
theorem Sz.mul {a b : Nat} {x y : Rat} (h : Sz a x) (k : Sz b y) : Sz (a + b) (x * y) := by
  rw [mul_divInt]
  refine .divInt ?_ ?_
  · rw [Int.natAbs_mul]; exact pow_mul_le h.1 k.1
  · rw [Int.natAbs_mul, Int.natAbs_natCast, Int.natAbs_natCast]; exact pow_mul_le h.2 k.2
theorem Sz.div {a b : Nat} {x y : Rat} (h : Sz a x) (k : Sz b y) : Sz (a + b) (x / y) := by
  rw [div_divInt]
  refine .divInt ?_ ?_
  · rw [Int.natAbs_mul, Int.natAbs_natCast]; exact pow_mul_le h.1 k.2
  · rw [Int.natAbs_mul, Int.natAbs_natCast]; exact pow_mul_le h.2 k.1
theorem Sz.int {n : Nat} {k : Int} (h : k.natAbs ≤ 2 ^ n) : Sz n (k : Rat) := by
  refine ⟨?_, ?_⟩
  · rw [Rat.num_intCast]; exact h
  · rw [Rat.den_intCast]; exact Nat.one_le_two_pow
theorem Sz.zero (n : Nat) : Sz n 0 := ⟨by simp, Nat.one_le_two_pow⟩
theorem Sz.one (n : Nat) : Sz n 1 := ⟨Nat.one_le_two_pow, Nat.one_le_two_pow⟩
theorem Sz.nat {n k : Nat} (h : k ≤ 2 ^ n) : Sz n (k : Rat) := .int (k := (k : Int)) (by rw [Int.natAbs_natCast]; exact h)

/-! ### lists -/
theorem SzL.nil (n : Nat) : SzL n [] := fun _ h => by simp at h
theorem SzL.cons {n : Nat} {a : Rat} {p : Pl} (h : Sz n a) (k : SzL n p) : SzL n (a :: p) := fun b hb => by
  rcases List.mem_cons.mp hb with rfl | hb
  · exact h
  · exact k b hb
theorem SzL.head {n : Nat} {a : Rat} {p : Pl} (h : SzL n (a :: p)) : Sz n a := h a List.mem_cons_self
theorem SzL.tail {n : Nat} {a : Rat} {p : Pl} (h : SzL n (a :: p)) : SzL n p := fun b hb => h b (List.mem_cons_of_mem _ hb)
theorem SzL.co {n : Nat} {p : Pl} (h : SzL n p) (i : Nat) : Sz n (co p i) := by
  by_cases hi : i < p.length
  · rw [co_lt hi]; exact h _ (List.getElem_mem hi)
  · rw [co_ge (by omega)]; exact .zero n
theorem SzL.of_co {n : Nat} {p : Pl} (h : ∀ i, Sz n (NB.co p i)) : SzL n p := fun a ha => by
  obtain ⟨i, hi, e⟩ := List.getElem_of_mem ha
  have := h i
  rwa [co_lt hi, e] at this
theorem SzL.lst {n : Nat} {p : Pl} (h : SzL n p) : Sz n (lst p) := h.co _
theorem norm_sub : ∀ (p : Pl) (a : Rat), a ∈ norm p → a ∈ p
  | [], _, h => h
  | b :: p, a, h => by
    rw [norm_cons] at h
    have ih := norm_sub p a
    split at h
    · split at h
      · simp at h
      · have : a = b := by simpa using h
        rw [this]; exact List.mem_cons_self
    · rcases List.mem_cons.mp h with rfl | h
      · exact List.mem_cons_self
      · exact List.mem_cons_of_mem _ (ih h)
theorem SzL.norm {n : Nat} {p : Pl} (h : SzL n p) : SzL n (norm p) := fun a ha => h a (norm_sub p a ha)
theorem SzL.addR {a b : Nat} : ∀ {p q : Pl}, SzL a p → SzL b q → SzL (a + b + 1) (addR p q)
  | [], q, _, k => by rw [nil_addR]; exact k.mono (by omega)
  | x :: p, [], h, _ => by rw [addR_nil]; exact h.mono (by omega)
  | x :: p, y :: q, h, k => .cons (h.head.add k.head) (SzL.addR h.tail k.tail)
theorem SzL.sclR {a b : Nat} {k : Rat} {p : Pl} (h : SzL a p) (hk : Sz b k) : SzL (a + b) (sclR k p) := fun x hx => by
  obtain ⟨y, hy, rfl⟩ := List.mem_map.mp hx
  exact (h y hy).mul hk
theorem SzL.add {a b : Nat} {p q : Pl} (h : SzL a p) (k : SzL b q) : SzL (a + b + 1) (add p q) := (h.addR k).norm
theorem SzL.scl {a b : Nat} {k : Rat} {p : Pl} (h : SzL a p) (hk : Sz b k) : SzL (a + b) (scl k p) := (h.sclR hk).norm
theorem SzL.tak {a b : Nat} {p q : Pl} (h : SzL a p) (k : SzL b q) : SzL (a + b + 1) (tak p q) := by
  have := h.add (k.scl (b := 0) (k := -1) (Sz.one 0).neg)
  exact this
theorem SzL.mulR {a b : Nat} : ∀ {p q : Pl}, SzL a p → SzL b q → SzL (p.length * (a + b + 1)) (mulR p q)
  | [], q, _, _ => .nil _
  | [x], q, h, k => by
    -- the product's numbers are the products themselves
    intro y hy
    have e : NB.mulR [x] q = NB.addR (NB.sclR x q) [0] := rfl
    have h0 := h.head
    refine (SzL.of_co (p := NB.mulR [x] q) (n := a + b) (fun i => ?_) y hy).mono (by simp only [List.length_cons, List.length_nil]; omega)
    rw [e, co_addR, co_sclR]
    have z : NB.co [0] i = 0 := by cases i <;> simp [NB.co]
    rw [z, Rat.add_zero]
    exact ((k.co i).mul h0).mono (by omega)
  | x :: x' :: p, q, h, k => by
    have ih := SzL.mulR h.tail k
    have h1 := (k.sclR h.head).addR (SzL.cons (Sz.zero _) ih)
    refine h1.mono ?_
    simp only [List.length_cons]
    have : (p.length + 1 + 1) * (a + b + 1) = (p.length + 1) * (a + b + 1) + (a + b + 1) := by rw [Nat.succ_mul]
    omega
theorem SzL.mul {a b : Nat} {p q : Pl} (h : SzL a p) (k : SzL b q) : SzL (p.length * (a + b + 1)) (mul p q) := (h.mulR k).norm
theorem mul_comm' (p q : Pl) : mul p q = mul q p := ident (Norm_mul _ _) (Norm_mul _ _) fun x => by rw [ev_mul, ev_mul]; grind
theorem SzL.mul' {a b : Nat} {p q : Pl} (h : SzL a p) (k : SzL b q) : SzL (q.length * (a + b + 1)) (NB.mul p q) := by
  rw [mul_comm']
  exact (k.mul h).mono (by rw [Nat.add_comm b a]; exact Nat.le_refl _)
theorem SzL.mon {a : Nat} {p : Pl} (h : SzL a p) : SzL (a + a) (mon p) := by
  unfold NB.mon
  split
  · exact .nil _
  · exact h.scl (((Sz.one 0).div h.lst).mono (by omega))
theorem SzL.slpF {a b : Nat} : ∀ {k : Nat} {p : Pl}, SzL a p → k + p.length ≤ 2 ^ b → SzL (a + b) (slpF k p)
  | _, [], _, _ => .nil _
  | k, x :: p, h, hk => by
    simp only [List.length_cons] at hk
    exact .cons (h.head.mul (Sz.nat (by omega))) (SzL.slpF h.tail (by omega))
theorem SzL.slp {a : Nat} {p : Pl} (h : SzL a p) (hl : p.length ≤ 8) : SzL (a + 3) (slp p) := by
  cases p with
  | nil => exact .nil _
  | cons x p =>
    simp only [List.length_cons] at hl
    exact SzL.slpF h.tail (by simp only [List.tail_cons]; omega)
theorem Sz.ev {a b : Nat} {x : Rat} (hx : Sz b x) : ∀ {p : Pl}, SzL a p → Sz (p.length * (a + b + 1)) (ev p x)
  | [], _ => .zero _
  | y :: p, h => by
    have ih := Sz.ev hx h.tail
    refine (h.head.add (hx.mul ih)).mono ?_
    simp only [List.length_cons]
    rw [Nat.succ_mul]; omega
def movN (b c : Nat) : Nat → Nat
  | 0 => 0
  | l + 1 => 2 * (movN b c l + c + 1) + b + 1
theorem SzL.mov {b c : Nat} {x : Rat} (hx : Sz c x) : ∀ {p : Pl}, SzL b p → SzL (movN b c p.length) (mov p x)
  | [], _ => .nil _
  | y :: p, h => by
    have ih := SzL.mov hx h.tail
    have hl : SzL c [-x, 1] := .cons hx.neg (.cons (.one _) (.nil _))
    exact ((ih.mul' hl).add (SzL.norm (.cons h.head (.nil _)))).mono (by simp only [List.length_cons, List.length_nil, movN]; omega)
theorem SzL.strF {a c : Nat} {k : Rat} (hk : Sz c k) : ∀ {p : Pl} {b : Rat} {m : Nat}, SzL a p → Sz m b → SzL (a + m + p.length * c) (strF p k b)
  | [], _, _, _, _ => .nil _
  | x :: p, b, m, h, hb => by
    simp only [List.length_cons]
    refine .cons ((h.head.div hb).mono (by omega)) ((SzL.strF hk h.tail (hb.mul hk)).mono ?_)
    rw [Nat.succ_mul]; omega
theorem SzL.str {a c : Nat} {k : Rat} {p : Pl} (h : SzL a p) (hk : Sz c k) : SzL (a + p.length * c) (str p k) := by
  have := SzL.strF hk h (Sz.one 0)
  exact this
theorem Sz.absR {a : Nat} {x : Rat} (h : Sz a x) : Sz a (absR x) := by
  unfold NB.absR
  split
  · rw [show (0 : Rat) - x = -x by grind]; exact h.neg
  · exact h
/-- magnitudes -/
theorem Sz.le {n : Nat} {q : Rat} (h : Sz n q) : bd q ((2 : Rat) ^ n) := by
  have hd : (0 : Rat) < (q.den : Rat) := by
    have : ((0 : Nat) : Rat) < (q.den : Rat) := Rat.natCast_lt_natCast.mpr q.den_pos
    exact this
  have hd1 : (1 : Rat) ≤ (q.den : Rat) := by
    have : ((1 : Nat) : Rat) ≤ (q.den : Rat) := Rat.natCast_le_natCast.mpr q.den_pos
    exact this
  have e : q * (q.den : Rat) = (q.num : Rat) := by
    have h1 : q = (q.num : Rat) / (q.den : Rat) := by
      conv => lhs; rw [← Rat.mkRat_self q]
      exact Rat.mkRat_eq_div _ _
    generalize (q.num : Rat) = a at *
    generalize (q.den : Rat) = b at *
    rw [h1]; grind
  have hn : bd (q.num : Rat) ((2 : Rat) ^ n) := by
    have h1 : (q.num.natAbs : Rat) ≤ ((2 ^ n : Nat) : Rat) := Rat.natCast_le_natCast.mpr h.1
    rw [Rat.natCast_pow] at h1
    have h2 : ((2 : Nat) : Rat) = 2 := rfl
    rw [h2] at h1
    have e2 : (q.num : Rat) = (q.num.natAbs : Rat) ∨ (q.num : Rat) = -(q.num.natAbs : Rat) := by
      rcases Int.natAbs_eq q.num with h3 | h3
      · left
        have : ((q.num : Int) : Rat) = (((q.num.natAbs : Nat) : Int) : Rat) := by rw [← h3]
        rw [this]; rfl
      · right
        have : ((q.num : Int) : Rat) = ((-((q.num.natAbs : Nat) : Int) : Int) : Rat) := by rw [← h3]
        rw [this, Rat.intCast_neg]; rfl
    have h0 : (0 : Rat) ≤ (q.num.natAbs : Rat) := by
      have : ((0 : Nat) : Rat) ≤ (q.num.natAbs : Rat) := Rat.natCast_le_natCast.mpr (Nat.zero_le _)
      exact this
    unfold bd
    rcases e2 with e2 | e2 <;> rw [e2] <;> constructor <;> grind
  unfold bd at *
  generalize (q.den : Rat) = d at *
  generalize (q.num : Rat) = k at *
  generalize (2 : Rat) ^ n = T at *
  constructor
  · by_cases h1 : -T ≤ q
    · exact h1
    · have h2 : 0 ≤ T := by grind
      have := Rat.mul_pos (show (0 : Rat) < -T - q by grind) hd
      have := Rat.mul_nonneg h2 (show (0 : Rat) ≤ d - 1 by grind)
      grind
  · by_cases h1 : q ≤ T
    · exact h1
    · have h2 : 0 ≤ T := by grind
      have := Rat.mul_pos (show (0 : Rat) < q - T by grind) hd
      have := Rat.mul_nonneg h2 (show (0 : Rat) ≤ d - 1 by grind)
      grind
theorem Sz.ge {n : Nat} {q : Rat} (h : Sz n q) (hq : 0 < q) : 1 ≤ q * (2 : Rat) ^ n := by
  have hi : Sz n (1 / q) := ((Sz.one 0).div h).mono (by omega)
  have := hi.le.2
  have h2 := Rat.mul_nonneg (Rat.le_of_lt hq) (show (0 : Rat) ≤ (2 : Rat) ^ n - 1 / q by grind)
  have h3 : q * (1 / q) = 1 := by grind
  grind
end NB

/-! NBRun: the stretches that map_of works at: halves of halves; how many turns. -/
namespace NB

/-- the m-th of the 2^d parts of lo .. lo + w -/
def ivS (lo w : Rat) (d m : Nat) : Rat := lo + w * ((m : Rat) / (2 : Rat) ^ d)
theorem two_ne (d : Nat) : (2 : Rat) ^ d ≠ 0 := by have := Sh.two_pos d; grind
theorem ivS_zero (lo w : Rat) : ivS lo w 0 0 = lo := by
  unfold ivS
  have : ((0 : Nat) : Rat) = 0 := rfl
  rw [this]; grind
theorem ivS_one (lo w : Rat) : ivS lo w 0 1 = lo + w := by
  unfold ivS
  have : ((1 : Nat) : Rat) = 1 := rfl
  rw [this, Rat.pow_zero]; grind
theorem ivS_double (lo w : Rat) (d m : Nat) : ivS lo w (d + 1) (2 * m) = ivS lo w d m := by
  unfold ivS
  have h := two_ne d
  rw [Rat.natCast_mul, Rat.pow_succ]
  have : ((2 : Nat) : Rat) = 2 := rfl
  rw [this]
  congr 2; grind
theorem ivS_step (lo w : Rat) (d m : Nat) : ivS lo w d (m + 1) - ivS lo w d m = w / (2 : Rat) ^ d := by
  unfold ivS
  rw [Rat.natCast_add]
  have : ((1 : Nat) : Rat) = 1 := rfl
  rw [this]; grind
theorem ivS_half (lo w : Rat) (d m : Nat) : (ivS lo w d m + ivS lo w d (m + 1)) / 2 = ivS lo w (d + 1) (2 * m + 1) := by
  have h1 := ivS_step lo w (d + 1) (2 * m)
  have h2 := ivS_step lo w d m
  rw [ivS_double] at h1
  have h := two_ne d
  rw [Rat.pow_succ] at h1
  have e : w / ((2 : Rat) ^ d * 2) = w / (2 : Rat) ^ d / 2 := by grind
  rw [e] at h1
  grind
theorem ivS_lt {lo w : Rat} (hw : 0 < w) (d m : Nat) : ivS lo w d m < ivS lo w d (m + 1) := by
  have h := ivS_step lo w d m
  have := rat_div_pos hw (Sh.two_pos d)
  grind
theorem Sz.two_pow (d : Nat) : Sz d ((2 : Rat) ^ d) := by
  have e : ((2 ^ d : Nat) : Rat) = (2 : Rat) ^ d := by rw [Rat.natCast_pow]; rfl
  rw [← e]
  exact Sz.nat (Nat.le_refl _)
theorem Sz.frac {m d : Nat} (h : m ≤ 2 ^ d) : Sz d ((m : Rat) / (2 : Rat) ^ d) := by
  have e : ((2 ^ d : Nat) : Rat) = (2 : Rat) ^ d := by rw [Rat.natCast_pow]; rfl
  rw [← e]
  have e2 : (m : Rat) / ((2 ^ d : Nat) : Rat) = Rat.divInt (m : Int) ((2 ^ d : Nat) : Int) := by rw [Rat.divInt_eq_div]; rfl
  rw [e2]
  exact .divInt (by rw [Int.natAbs_natCast]; exact h) (by rw [Int.natAbs_natCast]; exact Nat.le_refl _)
theorem sz_ivS {lo hi : Rat} {n d m : Nat} (h1 : Sz n lo) (h2 : Sz n hi) (hm : m ≤ 2 ^ d) : Sz (3 * n + d + 2) (ivS lo (hi - lo) d m) := by
  unfold ivS
  exact (h1.add ((h2.sub h1).mul (Sz.frac hm))).mono (by omega)
theorem sz_step {lo hi : Rat} {n d m : Nat} (h1 : Sz n lo) (h2 : Sz n hi) : Sz (2 * n + 1 + d) (ivS lo (hi - lo) d (m + 1) - ivS lo (hi - lo) d m) := by
  rw [ivS_step]
  exact ((h2.sub h1).div (Sz.two_pow d)).mono (by omega)
theorem ivS_mono {lo w : Rat} (hw : 0 < w) {d m k : Nat} (h : m ≤ k) : ivS lo w d m ≤ ivS lo w d k := by
  induction h with
  | refl => exact Rat.le_refl
  | step h ih => have := ivS_lt hw (lo := lo) d; exact Rat.le_trans ih (Rat.le_of_lt (this _))
theorem ivS_full (lo w : Rat) : ∀ d : Nat, ivS lo w d (2 ^ d) = lo + w
  | 0 => ivS_one lo w
  | d + 1 => by
    have : 2 ^ (d + 1) = 2 * 2 ^ d := by rw [Nat.pow_succ]; omega
    rw [this, ivS_double, ivS_full lo w d]
theorem ivS_bot (lo w : Rat) (d : Nat) : ivS lo w d 0 = lo := by
  unfold ivS
  have : ((0 : Nat) : Rat) = 0 := rfl
  rw [this]; grind
theorem ivS_in {lo w : Rat} (hw : 0 < w) {d m : Nat} (h : m ≤ 2 ^ d) : lo ≤ ivS lo w d m ∧ ivS lo w d m ≤ lo + w := by
  have h1 := ivS_mono hw (lo := lo) (d := d) (Nat.zero_le m)
  have h2 := ivS_mono hw (lo := lo) (d := d) h
  rw [ivS_bot] at h1
  rw [ivS_full] at h2
  exact ⟨h1, h2⟩

/-- special places within -/
def kap (S : List Rat) (s e : Rat) : Nat := (S.filter fun a => decide (s < a) && decide (a < e)).length
theorem kap_le (S : List Rat) (s e : Rat) : kap S s e ≤ S.length := List.length_filter_le _ _
theorem kap_split {s m e : Rat} (h1 : s < m) (h2 : m < e) : ∀ S : List Rat, kap S s m + kap S m e ≤ kap S s e
  | [] => by simp [kap]
  | a :: S => by
    have ih := kap_split h1 h2 S
    unfold kap at *
    simp only [List.filter_cons]
    by_cases a1 : s < a ∧ a < m
    · have b1 : ¬ m < a := by grind
      have b2 : a < e := by grind
      simp only [a1.1, a1.2, b1, b2, decide_true, decide_false, Bool.and_true, Bool.false_and, if_true, if_false, List.length_cons, Bool.false_eq_true]
      omega
    · by_cases a2 : m < a ∧ a < e
      · have b1 : s < a := by grind
        have b2 : ¬ a < m := by grind
        simp only [a2.1, a2.2, b1, b2, decide_true, decide_false, Bool.and_true, Bool.and_false, if_true, if_false, List.length_cons, Bool.false_eq_true]
        omega
      · have c1 : (decide (s < a) && decide (a < m)) = false := by
          rw [Bool.and_eq_false_iff, decide_eq_false_iff_not, decide_eq_false_iff_not]
          by_cases h : s < a
          · exact .inr fun z => a1 ⟨h, z⟩
          · exact .inl h
        have c2 : (decide (m < a) && decide (a < e)) = false := by
          rw [Bool.and_eq_false_iff, decide_eq_false_iff_not, decide_eq_false_iff_not]
          by_cases h : m < a
          · exact .inr fun z => a2 ⟨h, z⟩
          · exact .inl h
        rw [c1, c2]
        simp only [Bool.false_eq_true, if_false]
        by_cases c3 : (decide (s < a) && decide (a < e)) = true
        · rw [if_pos c3, List.length_cons]; omega
        · rw [if_neg c3]; exact ih
theorem kap_pos {S : List Rat} {s e : Rat} (h : ¬ ∀ a ∈ S, ¬ (s < a ∧ a < e)) : 1 ≤ kap S s e := by
  unfold kap
  apply Classical.byContradiction
  intro hn
  apply h
  intro a ha hc
  have h0 : (S.filter fun a => decide (s < a) && decide (a < e)) = [] := List.length_eq_zero_iff.mp (by omega)
  have : a ∈ S.filter fun a => decide (s < a) && decide (a < e) := List.mem_filter.mpr ⟨ha, by simp [hc.1, hc.2]⟩
  rw [h0] at this
  simp at this
/-- a stretch still to be looked at: depth, place -/
abbrev Iv := Nat × Nat
/-- the work left, at depth at most D -/
def wrk (S : List Rat) (lo w : Rat) (D : Nat) (i : Iv) : Nat := 2 * (D - i.1) * kap S (ivS lo w i.1 i.2) (ivS lo w i.1 (i.2 + 1)) + 1
def wrks (S : List Rat) (lo w : Rat) (D : Nat) : List Iv → Nat
  | [] => 0
  | i :: r => wrk S lo w D i + wrks S lo w D r
theorem wrks_ge (S : List Rat) (lo w : Rat) (D : Nat) : ∀ st : List Iv, st.length ≤ wrks S lo w D st
  | [] => Nat.le_refl _
  | i :: r => by
    have := wrks_ge S lo w D r
    simp only [List.length_cons, wrks, wrk]; omega
theorem wrk_split {S : List Rat} {lo w : Rat} {D d m : Nat} (hw : 0 < w) (hd : d < D) (hk : 1 ≤ kap S (ivS lo w d m) (ivS lo w d (m + 1))) :
    wrk S lo w D (d + 1, 2 * m) + wrk S lo w D (d + 1, 2 * m + 1) < wrk S lo w D (d, m) := by
  have h1 := ivS_lt hw (lo := lo) (d + 1) (2 * m)
  have h2 := ivS_lt hw (lo := lo) (d + 1) (2 * m + 1)
  have hs := kap_split h1 h2 S
  rw [show 2 * m + 1 + 1 = 2 * (m + 1) by omega] at hs h2
  simp only [wrk]
  rw [show 2 * m + 1 + 1 = 2 * (m + 1) by omega, ivS_double, ivS_double]
  rw [ivS_double, ivS_double] at hs
  generalize kap S (ivS lo w d m) (ivS lo w (d + 1) (2 * m + 1)) = a at *
  generalize kap S (ivS lo w (d + 1) (2 * m + 1)) (ivS lo w d (m + 1)) = b at *
  generalize kap S (ivS lo w d m) (ivS lo w d (m + 1)) = c at *
  obtain ⟨t, ht⟩ : ∃ t, D - d = t + 1 := ⟨D - d - 1, by omega⟩
  have ht2 : D - (d + 1) = t := by omega
  rw [ht, ht2]
  have h3 : 2 * t * (a + b) ≤ 2 * t * c := Nat.mul_le_mul_left _ hs
  rw [Nat.mul_add] at h3
  have h4 : 2 * (t + 1) * c = 2 * t * c + 2 * c := by rw [Nat.mul_add, Nat.add_mul]
  omega
/-- the stretches left follow on, from cur to hi -/
def Ch (lo w : Rat) : List Iv → Rat → Prop
  | [], cur => cur = lo + w
  | i :: r, cur => cur = ivS lo w i.1 i.2 ∧ i.2 + 1 ≤ 2 ^ i.1 ∧ Ch lo w r (ivS lo w i.1 (i.2 + 1))
end NB


set_option Elab.async false
set_option linter.all false
set_option maxRecDepth 100000
/-! NBW0: the walk's own words: data, promises, calls. -/
namespace NB
open PySem PySem.Spec PyProof.Rows L2
def top (i : Nat) : Stmt := PySem.Challenge.pw_neverbelow_k38_whole_all_numbers_and_str.main.body.getD i (.Pass ⟨0, 0, 0, 0⟩)

/-! ### data -/
def nD (q : Rat) : PyData := .tuple [.int q.num, .int q.den]
def cD (p : Pl) : PyData := .tuple (p.map nD)
def lD (p : Pl) : PyData := .list (p.map nD)
section
variable {K : PySem.W.Frag} {H H' H1 H2 : Hp} {a p : Addr} {xs : List V} {v : V} {d : PyData} {q : Rat} {o : HO}
theorem sqT_mono (e : Same H H') (h : SqT K H a xs) : SqT K H' a xs := by
  rcases h with (h | ⟨ob, h⟩) | h
  · exact .inl (.inl (e _ _ h))
  · exact .inl (.inr ⟨ob, e _ _ h⟩)
  · exact .inr h
mutual
theorem dp_mono (e : Same H H') : ∀ {d : PyData} {v : V}, Dp K H v d → Dp K H' v d
  | _, _, .non => .non
  | _, _, .bl b => .bl b
  | _, _, .int i => .int i
  | _, _, .str x => .str x
  | _, _, .lst h k => .lst (e.seq h) (dpa_mono e k)
  | _, _, .tup h k => .tup (sqT_mono e h) (dpa_mono e k)
theorem dpa_mono (e : Same H H') : ∀ {ds : List PyData} {vs : List V}, DpAll K H vs ds → DpAll K H' vs ds
  | _, _, .nil => .nil
  | _, _, .cons h k => .cons (dp_mono e h) (dpa_mono e k)
end
-- no list within
mutual
def nl : PyData → Bool
  | .list _ => false
  | .dict _ => false
  | .tuple ds => nls ds
  | _ => true
def nls : List PyData → Bool
  | [] => true
  | d :: ds => nl d && nls ds
end
theorem sqT_keep (hp : H p = some (.lst xs)) {ys : List V} (h : SqT K H a ys) : SqT K (upd H p o) a ys := by
  rcases h with (h | ⟨ob, h⟩) | h
  · exact .inl (.inl (by rw [upd_ne (ne_of h hp (by intro z; cases z))]; exact h))
  · exact .inl (.inr ⟨ob, by rw [upd_ne (ne_of h hp (by intro z; cases z))]; exact h⟩)
  · exact .inr h
mutual
theorem dp_keep (hp : H p = some (.lst xs)) : ∀ {d : PyData} {v : V}, Dp K H v d → nl d = true → Dp K (upd H p o) v d
  | _, _, .non, _ => .non
  | _, _, .bl b, _ => .bl b
  | _, _, .int i, _ => .int i
  | _, _, .str x, _ => .str x
  | _, _, .lst h k, hn => by simp [nl] at hn
  | _, _, .tup h k, hn => .tup (sqT_keep hp h) (dpa_keep hp k (by simpa [nl] using hn))
theorem dpa_keep (hp : H p = some (.lst xs)) : ∀ {ds : List PyData} {vs : List V}, DpAll K H vs ds → nls ds = true → DpAll K (upd H p o) vs ds
  | _, _, .nil, _ => .nil
  | _, _, .cons h k, hn => by
    have hn' : (nl _ && nls _) = true := hn
    rw [Bool.and_eq_true] at hn'
    exact .cons (dp_keep hp h hn'.1) (dpa_keep hp k hn'.2)
end
theorem nl_nD (q : Rat) : nl (nD q) = true := by simp [nD, nl, nls]
theorem nls_map (p : Pl) : nls (p.map nD) = true := by
  induction p with
  | nil => rfl
  | cons a p ih => simp only [List.map_cons, nls, nl_nD, ih, Bool.and_self]
theorem nl_cD (p : Pl) : nl (cD p) = true := by simp only [cD, nl, nls_map]
theorem same_upd {H : Hp} {p : Addr} {o : HO} (h : H p = none) : Same H (upd H p o) := fun b x e => by
  rw [upd_ne (ne_of_none e h)]
  exact e

/-! ### numbers, curves, lists of numbers -/
abbrev Num (K : PySem.W.Frag) (H : Hp) (v : V) (q : Rat) : Prop := Dp K H v (nD q)
abbrev Nums (K : PySem.W.Frag) (H : Hp) (vs : List V) (p : Pl) : Prop := DpAll K H vs (p.map nD)
theorem num_inv (h : Num K H v q) : ∃ a, v = .ref a ∧ SqT K H a [.int q.num, .int q.den] := by
  unfold Num nD at h
  cases h with
  | tup hs ha =>
    cases ha with
    | cons h1 h2 =>
      cases h1
      cases h2 with
      | cons h3 h4 =>
        cases h3
        cases h4
        exact ⟨_, rfl, hs⟩
theorem num_of (h : SqT K H a [.int q.num, .int q.den]) : Num K H (.ref a) q := .tup h (.cons (.int _) (.cons (.int _) .nil))
theorem cur_inv {p : Pl} (h : Dp K H v (cD p)) : ∃ a vs, v = .ref a ∧ SqT K H a vs ∧ Nums K H vs p := by
  unfold cD at h
  cases h with
  | tup hs ha => exact ⟨_, _, rfl, hs, ha⟩
theorem lst_inv {p : Pl} (h : Dp K H v (lD p)) : ∃ a vs, v = .ref a ∧ SqL K H a vs ∧ Nums K H vs p := by
  unfold lD at h
  cases h with
  | lst hs ha => exact ⟨_, _, rfl, hs, ha⟩
theorem dpa_len : ∀ {ds : List PyData} {vs : List V}, DpAll K H vs ds → vs.length = ds.length
  | _, _, .nil => rfl
  | _, _, .cons _ k => by simp only [List.length_cons, dpa_len k]
theorem nums_len {p : Pl} {vs : List V} (h : Nums K H vs p) : vs.length = p.length := by
  rw [dpa_len h, List.length_map]
theorem dpa_get : ∀ {ds : List PyData} {vs : List V} {i : Nat} {d : PyData}, DpAll K H vs ds → ds[i]? = some d → ∃ v, vs[i]? = some v ∧ Dp K H v d
  | _, _, _, _, .nil, e => by simp at e
  | _, _, 0, _, .cons h _, e => by
    simp at e; subst e
    exact ⟨_, rfl, h⟩
  | _, _, i + 1, _, .cons _ k, e => by
    simp at e
    obtain ⟨v, h1, h2⟩ := dpa_get k e
    exact ⟨v, by simpa using h1, h2⟩
theorem dpa_get' : ∀ {ds : List PyData} {vs : List V} {i : Nat} {v : V}, DpAll K H vs ds → vs[i]? = some v → ∃ d, ds[i]? = some d ∧ Dp K H v d
  | _, _, _, _, .nil, e => by simp at e
  | _, _, 0, _, .cons h _, e => by
    simp at e; subst e
    exact ⟨_, rfl, h⟩
  | _, _, i + 1, _, .cons _ k, e => by
    simp at e
    obtain ⟨d, h1, h2⟩ := dpa_get' k e
    exact ⟨d, by simpa using h1, h2⟩
theorem nums_get {p : Pl} {vs : List V} {i : Nat} (h : Nums K H vs p) (hi : i < p.length) : ∃ v, vs[i]? = some v ∧ Num K H v p[i] := by
  refine dpa_get h ?_
  rw [List.getElem?_map, List.getElem?_eq_getElem hi]; rfl
theorem nums_get' {p : Pl} {vs : List V} {i : Nat} (h : Nums K H vs p) (e : vs[i]? = some v) : ∃ hi : i < p.length, Num K H v p[i] := by
  have hl := nums_len h
  have hi : i < vs.length := (List.getElem?_eq_some_iff.mp e).1
  refine ⟨by omega, ?_⟩
  obtain ⟨v', h1, h2⟩ := nums_get (i := i) h (by omega)
  rw [e] at h1; cases h1
  exact h2
theorem dpa_app : ∀ {ds es : List PyData} {vs us : List V}, DpAll K H vs ds → DpAll K H us es → DpAll K H (vs ++ us) (ds ++ es)
  | _, _, _, _, .nil, k => k
  | _, _, _, _, .cons h t, k => .cons h (dpa_app t k)
theorem nums_snoc {p : Pl} {vs : List V} (h : Nums K H vs p) (k : Num K H v q) : Nums K H (vs ++ [v]) (p ++ [q]) := by
  unfold Nums
  rw [List.map_append]
  exact dpa_app h (.cons k .nil)
theorem nums_app {p r : Pl} {vs us : List V} (h : Nums K H vs p) (k : Nums K H us r) : Nums K H (vs ++ us) (p ++ r) := by
  unfold Nums
  rw [List.map_append]
  exact dpa_app h k
theorem dpa_take : ∀ {ds : List PyData} {vs : List V} (n : Nat), DpAll K H vs ds → DpAll K H (vs.take n) (ds.take n)
  | _, _, 0, _ => .nil
  | _, _, _ + 1, .nil => .nil
  | _, _, n + 1, .cons h t => .cons h (dpa_take n t)
theorem nums_take {p : Pl} {vs : List V} (n : Nat) (h : Nums K H vs p) : Nums K H (vs.take n) (p.take n) := by
  unfold Nums
  rw [List.map_take]
  exact dpa_take n h
theorem dpa_set : ∀ {ds : List PyData} {vs : List V} (n : Nat) {d : PyData}, DpAll K H vs ds → Dp K H v d → DpAll K H (vs.set n v) (ds.set n d)
  | _, _, _, _, .nil, _ => .nil
  | _, _, 0, _, .cons _ t, k => .cons k t
  | _, _, n + 1, _, .cons h t, k => .cons h (dpa_set n t k)
theorem nums_set {p : Pl} {vs : List V} (n : Nat) (h : Nums K H vs p) (k : Num K H v q) : Nums K H (vs.set n v) (p.set n q) := by
  unfold Nums
  rw [List.map_set]
  exact dpa_set n h k
theorem nums_rep (k : Num K H v q) : ∀ n : Nat, Nums K H (List.replicate n v) (List.replicate n q)
  | 0 => .nil
  | n + 1 => .cons k (nums_rep k n)
end

/-! ### what the head gives -/
/-- a namespace object without these names -/
def nsK (K : PySem.W.Frag) (a : Addr) (xs : List Str) : Bool := match K.lookup a with
  | some o => o.data matches .dict .. && ((match o.data with
    | .dict es _ => es.all (fun e => match e.key with | .str _ _ => true | _ => false) && xs.all fun x => (nsFind es x).isNone
    | _ => false))
  | none => false
def mainK (K : PySem.W.Frag) : Bool := match PySem.W.nsIn K mainGlobals "__builtins__" with
  | some (some (.ref bm)) => (match K.lookup bm with
    | some ob => decide (ob.cls = .type "module") && decide (ob.dict = some builtinsNs)
    | none => false)
  | _ => false
def seerK (K : PySem.W.Frag) : Bool := nsK K cStatics ["sys.audit-hooks", "sys.dict"] && (nsK K sysModules ["_pylong"] && mainK K)
theorem nsK_ok {K : PySem.W.Frag} {a : Addr} {xs : List Str} {h : Heap} (X : K.In h) (c : nsK K a xs = true) : ∃ m, h.Ns a m ∧ ∀ x ∈ xs, m x = none := by
  unfold nsK at c
  cases e : K.lookup a with
  | none => rw [e] at c; cases c
  | some o =>
    rw [e] at c
    have ho := X a o e
    have c2 := (Bool.and_eq_true_iff.mp c).2
    cases hd : o.data with
    | dict es ep =>
      rw [hd] at c2
      obtain ⟨c3, c4⟩ := Bool.and_eq_true_iff.mp c2
      have hn : h.isNs a = true := by unfold Heap.isNs; rw [ho]; simp only [hd]; exact c3
      refine ⟨h.nsMap a, Heap.Ns.of_isNs hn, fun x hx => ?_⟩
      have := List.all_eq_true.mp c4 x hx
      unfold Heap.nsMap
      rw [ho]
      simp only [hd]
      exact Option.isNone_iff_eq_none.mp this
    | _ => rw [hd] at c2; cases c2
theorem seer_ok {K : PySem.W.Frag} {mg : Str → Option Value} {base : Heap} (M : Mod K mg base) (c : seerK K = true) : base.NoSeer := by
  obtain ⟨c1, c⟩ := Bool.and_eq_true_iff.mp c
  obtain ⟨c2, c3⟩ := Bool.and_eq_true_iff.mp c
  refine ⟨?_, ?_, M.blt, ?_⟩
  · obtain ⟨m, h1, h2⟩ := nsK_ok M.kin c1
    exact ⟨m, h1, h2 _ (by simp), h2 _ (by simp)⟩
  · obtain ⟨m, h1, h2⟩ := nsK_ok M.kin c2
    exact ⟨m, h1, h2 _ (by simp)⟩
  · unfold mainK at c3
    split at c3
    · rename_i bm e
      split at c3
      · rename_i ob e2
        obtain ⟨d1, d2⟩ := Bool.and_eq_true_iff.mp c3
        exact ⟨mg, bm, ob, M.glob, PySem.W.mg_of M.kin M.glob e, M.kin _ _ e2, of_decide_eq_true d1, of_decide_eq_true d2⟩
      · cases c3
    · cases c3

/-! ### // of any whole numbers -/
section
variable {X : Cx}
theorem op_fdivP {k : Nat} (hs : seerK X.K = true) (ht : X.prog.given.tree = none) (hr : Room k X.A) (hk : 32 ≤ k) (hst : X.stack = X.env :: X.outer) (hgen : X.env.scope.isGenerator = false) (hco : X.env.scope.isCoroutine = false) : OpR X (binaryOp .FloorDiv) (rI (fun _ j => j ≠ 0) fun i j => .int (i.fdiv j)) := by
  intro pins s σ H x y v u Q I rx ry h
  obtain ⟨i, j, rfl, rfl, hj, q⟩ := h
  obtain ⟨t, rfl⟩ := rx
  obtain ⟨t', rfl⟩ := ry
  refine floordiv_int hj ⟨.int _, H, I.tok _, ⟨_, rfl⟩, q⟩ (.inr ?_)
  refine PySem.PylongRoom.of I.nolimit ?_ ?_
  · have := hr.dp
    show X.A.depth + 100 < recursionLimit
    omega
  · have hN : s.heap.NoSeer := (seer_ok I.mod hs).keeps I.bk
    have hf := I.ok.frames
    rw [hst] at hf
    exact PySem.SeerAt.of hN ht hf hgen hco I.ok.blt I.ok.glob
end

/-! ### calls -/
section
variable {P : Program} {w : World} {K : PySem.W.Frag} {mg : Str → Option Value} {base : Heap}
def E0 : XK := fun _ _ _ => False
/-- a def that may be called by its name -/
structure Cal (P : Program) (w : World) (K : PySem.W.Frag) (mg : Str → Option Value) (base : Heap) (k : Nat) (x : Str) (sp : Sp) : Prop where
  ex : ∃ (f : Addr) (fd : FuncData) (ps : List Str), FnOk P w K mg base CX0 k f fd ps sp ∧ mg x = some (.ref f) ∧ PySem.W.keepIn K (.ref f) = true ∧ Binds K fd ps []
/-- a def as it stands behind the top -/
structure Df (K : PySem.W.Frag) (mg : Str → Option Value) (x : Str) (i : Nat) : Prop where
  ex : ∃ (f : Addr) (fd : FuncData), FunD K x x (defArgs (top i)) (defBody (top i)) (defScope (top i)) [] [] f fd ∧ mg x = some (.ref f)
theorem Df.cal {x : Str} {i : Nat} {N ps : List Str} {k : Nat} {sp : Sp} (F : Df K mg x i) (S : FnScope N ps (defScope (top i)))
    (hb : ∀ (kV doc pm : Value) (an : Option Addr) (cdv ct : Value) (us : List Value), us.length = ps.length → bindArgs (PySem.W.fnOf x x (defArgs (top i)) (defBody (top i)) (defScope (top i)) .none kV doc pm an cdv ct) ⟨us, []⟩ = pure (ps.zip us))
    (len : ∀ vs H Q E, sp vs H Q E → vs.length = ps.length)
    (hbody : ∀ (f : Addr) (cdv : Value) (A : Around) (outer : List Env) (s : Shared) (H : Hp) (vs : List V) (Q : VK) (E : XK), Room k (A.deeper (envOfC x (defScope (top i)) s.heap.objs.size f cdv)) → sp vs H Q E →
      ∃ t, PSs (cxOf CX0 P w K mg base N x (defScope (top i)) f cdv A outer s H E).nox (defBody (top i)) t ∧ t { nx := fun _ H' => Q .non H', rt := Q } (start N vs) H) : Cal P w K mg base (k + 1) x sp := by
  obtain ⟨f, fd, F, hm⟩ := F.ex
  refine ⟨f, fd, ps, F.ok S len (fun cdv A outer s H vs Q E hr h => ?_), hm, F.kp, F.bindsN hb⟩
  obtain ⟨t, h1, h2⟩ := hbody f cdv A outer s H vs Q E hr h
  exact ⟨t, h1.nox, h2⟩
theorem Cal.imp {k : Nat} {x : Str} {sp sp' : Sp} (c : Cal P w K mg base k x sp) (h : ∀ vs H Q E, sp' vs H Q E → sp vs H Q E) : Cal P w K mg base k x sp' := by
  obtain ⟨f, fd, ps, F, r⟩ := c.ex
  exact ⟨f, fd, ps, F.imp h, r⟩
end
section
variable {X : Cx} {k j : Nat} {x : Str} {sp : Sp} {p pos : Pos} {e e2 e3 e4 : Expr} {es : List Expr} {t t2 t3 t4 : TE} {ta : TA}
theorem pe_c (c : Cal X.prog X.w X.K X.mg X.base k x sp) (hr : Room j X.A) (hk : k ≤ j) (hg : Gl X x) (ha : PA X (e :: es) ta)
    (hdb : (x == ("__debug__" : Str)) = false := by decide) (he : starEach (e :: es) X.env = (false, eval e X.env) :: starEach es X.env := by rfl) (hpl : (backTo pos (starEach es X.env)).any (·.1) = false := by rfl) :
    PE X (.Call (.Name x p) (e :: es) [] pos) (tCall sp [] E0 ta) := by
  obtain ⟨f, fd, ps, F, hm, kp, b⟩ := c.ex
  exact pe_call F (hr.mono hk) hg hm kp b .nil (fun _ _ _ _ _ _ _ h => h.elim) ha hdb he hpl
/-- a name of the module, by its value -/
theorem pe_gc {v : V} (hg : Gl X x) (h : ∃ u, X.mg x = some u ∧ RelV v u) (hd : (x == ("__debug__" : Str)) = false := by decide) : PE X (.Name x pos) (tC v) := by
  obtain ⟨u, hm, r⟩ := h
  exact pe_glob hg hm r hd
end
end NB

set_option Elab.async false
set_option linter.all false
set_option maxRecDepth 100000
set_option maxHeartbeats 4000000
namespace NB
open PySem PySem.Spec PyProof.Rows L2
section
variable {P : Program} {w : World} {K : PySem.W.Frag} {mg : Str → Option Value} {base : Heap}
/-! ### divisor_of -/
theorem sc8 : FnScope ["one", "other"] ["one", "other"] (defScope (top 8)) := ⟨rfl, rfl, rfl, by decide +kernel, rfl, by decide +kernel, by decide +kernel⟩
def spGcd : Sp := fun vs H Q _ => ∃ a b : Nat, vs = [.int a, .int b] ∧ Q (.int (Nat.gcd a b : Nat)) H
theorem ok_divisor_of (F : Df K mg "divisor_of" 8) : Cal P w K mg base 33 "divisor_of" spGcd := by
  refine F.cal sc8 (fun _ _ _ _ _ _ us hl => match us, hl with | [_, _], _ => rfl) (fun vs H Q E h => ?_) (fun f cdv A outer s H vs Q E hr h => ?_)
  · obtain ⟨a, b, rfl, _⟩ := h; rfl
  obtain ⟨a, b, rfl, q⟩ := h
  refine ⟨_, pss_cons (ps_while PassesOwn.never (pt_cmpR op_gt (pv 1) pe_int (nomark _)) (pss_one (ps_par (i := 0) (j := 1) rfl sc8.nd rfl rfl (by decide) rfl rfl (pa_cons (pv 1) (pa_cons (pe_op op_mod (pv 0) (pv 1)) pa_nil)) (by rfl))))
    (pss_one (ps_ret (pv 0))), ?_⟩
  refine ⟨fun m σ H1 => ∃ x y : Nat, σ = [some (.int x), some (.int y)] ∧ y = m ∧ Nat.gcd x y = Nat.gcd a b ∧ H1 = H, ⟨b, a, b, rfl, rfl, rfl, rfl⟩, fun m σ H1 hW => ?_⟩
  obtain ⟨x, y, rfl, rfl, hg, rfl⟩ := hW
  refine ⟨_, rfl, _, _, rfl, rfl, _, rfl, ite2 (fun hy => ?_) (fun hy => ?_)⟩
  · have hy : 0 < (y : Int) := of_decide_eq_true hy
    refine ⟨fun σ' H' => ∃ m', m' < y ∧ ∃ x y : Nat, σ' = [some (.int x), some (.int y)] ∧ y = m' ∧ Nat.gcd x y = Nat.gcd a b ∧ H' = H1, fun _ _ h => h, ?_⟩
    refine ⟨_, rfl, _, rfl, _, rfl, _, _, rfl, rfl, hy, _, _, rfl, ?_⟩
    have hlt : x % y < y := Nat.mod_lt _ (by omega)
    refine ⟨x % y, hlt, y, x % y, ?_, rfl, ?_, rfl⟩
    · rw [Int.natCast_emod] <;> rfl
    · rw [← hg, Nat.gcd_comm x y, Nat.gcd_rec y x, Nat.gcd_comm]
  · have hy : ¬ 0 < (y : Int) := fun z => hy (decide_eq_true z)
    have hy0 : y = 0 := by omega
    subst hy0
    rw [Nat.gcd_zero_right] at hg
    refine ⟨_, rfl, ?_⟩
    rw [hg]; exact q
/-- built-in names that the top leaves as they are -/
structure Bl (mg : Str → Option Value) : Prop where
  abs : mg "abs" = none
  len : mg "len" = none
  reversed : mg "reversed" = none
  max : mg "max" = none
  min : mg "min" = none
  range : mg "range" = none
  tuple : mg "tuple" = none
  list : mg "list" = none
  int : mg "int" = none
/-- a constant of the top, a number -/
def KN (K : PySem.W.Frag) (mg : Str → Option Value) (x : Str) (q : Rat) : Prop := ∃ a, mg x = some (.ref a) ∧ ∀ H, Num K H (.ref a) q
/-- .. a whole number -/
def KI (mg : Str → Option Value) (x : Str) (i : Int) : Prop := ∃ u, mg x = some u ∧ RelV (.int i) u

/-! ### number -/
theorem sc9 : FnScope ["top", "bottom", "by"] ["top", "bottom"] (defScope (top 9)) := ⟨rfl, rfl, rfl, by decide +kernel, rfl, by decide +kernel, by decide +kernel⟩
def spNumber (K : PySem.W.Frag) : Sp := fun vs H Q _ => ∃ t b : Int, vs = [.int t, .int b] ∧ b ≠ 0 ∧ ∀ H' v, Same H H' → Num K H' v (Rat.divInt t b) → Q v H'
theorem divInt_parts {t b : Int} (hb : 0 < b) : t.fdiv (Nat.gcd t.natAbs b.natAbs : Nat) = (Rat.divInt t b).num ∧ b.fdiv (Nat.gcd t.natAbs b.natAbs : Nat) = ((Rat.divInt t b).den : Int) ∧ ((Nat.gcd t.natAbs b.natAbs : Nat) : Int) ≠ 0 := by
  have hg : Nat.gcd t.natAbs b.natAbs = Int.gcd b t := by rw [Int.gcd_eq_natAbs_gcd_natAbs, Nat.gcd_comm]
  have hpos : 0 < Int.gcd b t := Nat.gcd_pos_of_pos_left _ (by omega)
  refine ⟨?_, ?_, by rw [hg]; omega⟩
  · rw [divInt_num hb, hg, Int.fdiv_eq_ediv_of_nonneg _ (by omega)]
  · rw [divInt_den (by omega), hg, Int.fdiv_eq_ediv_of_nonneg _ (by omega), Int.natCast_ediv, Int.natAbs_of_nonneg (by omega)]
theorem ok_number (F : Df K mg "number" 9) (B : Bl mg) (hs : seerK K = true) (ht : P.given.tree = none) (cG : Cal P w K mg base 33 "divisor_of" spGcd) : Cal P w K mg base 34 "number" (spNumber K) := by
  refine F.cal sc9 (fun _ _ _ _ _ _ us hl => match us, hl with | [_, _], _ => rfl) (fun vs H Q E h => ?_) (fun f cdv A outer s H vs Q E hr h => ?_)
  · obtain ⟨a, b, rfl, _⟩ := h; rfl
  obtain ⟨t, b, rfl, hb, q⟩ := h
  refine ⟨_, pss_cons (ps_if (pt_cmpR op_eq (pv 1) pe_int (nomark _)) pss_never pss_nil)
    (C8.pss_cut (ps_if (pt_cmpR op_lt (pv 1) pe_int (nomark _)) (pss_cons (ps_set (i := 0) sc9.nd rfl (.inl rfl) (pe_un un_neg (pv 0))) (pss_one (ps_set (i := 1) sc9.nd rfl (.inl rfl) (pe_un un_neg (pv 1))))) pss_nil)
    (pss_cons (ps_set (i := 2) sc9.nd rfl (.inl rfl) (pe_c cG hr (by decide) (by rfl) (pa_cons (pe_callB call_abs (by rfl) B.abs (by decide +kernel) (pa_cons (pv 0) pa_nil)) (pa_cons (pv 1) pa_nil))))
    (pss_one (ps_ret (pe_tup (pa_cons (pe_op (op_fdivP hs ht hr (by decide) rfl rfl rfl) (pv 0) (pv 2)) (pa_cons (pe_op (op_fdivP hs ht hr (by decide) rfl rfl rfl) (pv 1) (pv 2)) pa_nil))))))), ?_⟩
  refine ⟨_, rfl, rfl, _, rfl, ite2 (fun e => absurd (V.int.inj (of_decide_eq_true e)) hb) (fun _ => ?_)⟩
  refine ⟨fun σ H1 => ∃ t' b' : Int, σ = [some (.int t'), some (.int b'), none] ∧ 0 < b' ∧ Rat.divInt t' b' = Rat.divInt t b ∧ H1 = H, ?_, fun σ H1 hM => ?_⟩
  · refine ⟨_, rfl, _, _, rfl, rfl, _, rfl, ite2 (fun e => ?_) (fun e => ?_)⟩
    · have e : b < 0 := of_decide_eq_true e
      refine ⟨_, rfl, _, rfl, _, rfl, _, rfl, -t, -b, rfl, by omega, Rat.neg_divInt_neg t b, rfl⟩
    · have e : ¬ b < 0 := fun z => e (decide_eq_true z)
      exact ⟨t, b, rfl, by omega, rfl, rfl⟩
  · obtain ⟨t', b', rfl, hb', ev, rfl⟩ := hM
    rw [← ev] at q
    obtain ⟨d1, d2, d3⟩ := divInt_parts (t := t') hb'
    have ea : (if t' < 0 then -t' else t') = ((t'.natAbs : Nat) : Int) := by split <;> omega
    have eb : b' = ((b'.natAbs : Nat) : Int) := by omega
    refine ⟨_, rfl, _, rfl, _, rfl, t'.natAbs, b'.natAbs, ?_, ?_⟩
    · show [V.int (if t' < 0 then -t' else t'), V.int b'] = _
      rw [ea, ← eb]
    refine ⟨_, rfl, _, rfl, _, _, rfl, rfl, d3, _, rfl, _, rfl, _, _, rfl, rfl, d3, by show 2 ≤ sizeLine; decide, fun p np => ?_⟩
    refine q _ _ (same_upd np) (num_of (SqT.of ?_))
    rw [upd_same, ← d1, ← d2]
/-! ### sums, differences, products, quotients -/
@[irreducible] def LIM : Nat := 33554432
theorem LIM_eq : LIM = 33554432 := by unfold LIM; rfl
def Sm (q : Rat) : Prop := Sz LIM q
def CMulP (i j : Int) : Prop := i.natAbs ≤ 2 ^ LIM ∧ j.natAbs ≤ 2 ^ LIM
theorem log2_le {n k : Nat} (h : n ≤ 2 ^ k) : n.log2 ≤ k := by
  by_cases h0 : n = 0
  · subst h0; simp
  · have h1 := Nat.log2_self_le h0
    by_cases h2 : n.log2 ≤ k
    · exact h2
    · have h3 : 2 ^ (k + 1) ≤ 2 ^ n.log2 := Nat.pow_le_pow_right (by omega) (by omega)
      have h4 : 0 < 2 ^ k := Nat.pow_pos (by omega)
      have h5 : 2 ^ (k + 1) = 2 * 2 ^ k := by rw [Nat.pow_succ]; omega
      omega
theorem CMulP.ok {i j : Int} (h : CMulP i j) : IntMulOk i j := by
  have b : ∀ x : Int, Builtin.Int.intBits x ≤ x.natAbs.log2 + 1 := fun x => by
    unfold Builtin.Int.intBits
    split <;> omega
  have h1 := b i
  have h2 := b j
  have h3 := log2_le h.1
  have h4 := log2_le h.2
  have h5 := LIM_eq
  have e : bitsLine = 134217728 := by decide
  unfold IntMulOk
  intro z
  have z2 := (Bool.and_eq_true_iff.mp z).2
  have z3 : _ > (bitsLine : Int) := of_decide_eq_true (by unfold Builtin.Int.intTooBig at z2; exact z2)
  rw [e] at z3
  omega
theorem op_mulP {X : Cx} : OpR X (binaryOp .Mult) (rI CMulP fun i j => .int (i * j)) := opI fun _ _ _ _ _ _ _ hc q => mul_int q hc.ok
theorem Sm.c1 {a b : Rat} (h : Sm a) (k : Sm b) : CMulP a.num b.den := ⟨h.1, by rw [Int.natAbs_natCast]; exact k.2⟩
theorem Sm.c2 {a b : Rat} (h : Sm a) (k : Sm b) : CMulP a.num b.num := ⟨h.1, k.1⟩
theorem Sm.c3 {a b : Rat} (h : Sm a) (k : Sm b) : CMulP a.den b.den := ⟨by rw [Int.natAbs_natCast]; exact h.2, by rw [Int.natAbs_natCast]; exact k.2⟩
theorem Sm.c4 {a b : Rat} (h : Sm a) (k : Sm b) : CMulP a.den b.num := ⟨by rw [Int.natAbs_natCast]; exact h.2, k.1⟩
/-- a def of two numbers -/
def spN2 (K : PySem.W.Frag) (C : Rat → Rat → Prop) (f : Rat → Rat → Rat) : Sp := fun vs H Q _ => ∃ x y a b, vs = [x, y] ∧ Num K H x a ∧ Num K H y b ∧ C a b ∧ ∀ H' v, Same H H' → Num K H' v (f a b) → Q v H'
def spPlus (K : PySem.W.Frag) : Sp := spN2 K (fun a b => Sm a ∧ Sm b) fun a b => a + b
def spMinus (K : PySem.W.Frag) : Sp := spN2 K (fun a b => Sm a ∧ Sm b) fun a b => a - b
def spTimes (K : PySem.W.Frag) : Sp := spN2 K (fun a b => Sm a ∧ Sm b) fun a b => a * b
def spOver (K : PySem.W.Frag) : Sp := spN2 K (fun a b => (Sm a ∧ Sm b) ∧ b ≠ 0) fun a b => a / b
def spLess (K : PySem.W.Frag) : Sp := fun vs H Q _ => ∃ x y a b, vs = [x, y] ∧ Num K H x a ∧ Num K H y b ∧ Sm a ∧ Sm b ∧ Q (.bl (decide (a < b))) H
def sgn (q : Rat) : Int := if 0 < q then 1 else if q < 0 then -1 else 0
def spSign (K : PySem.W.Frag) : Sp := fun vs H Q _ => ∃ x a, vs = [x] ∧ Num K H x a ∧ Q (.int (sgn a)) H
/-- one[0], one[1] -/
theorem it0 {a b : V} : atI [a, b] 0 = some a := rfl
theorem it1 {a b : V} : atI [a, b] 1 = some b := rfl
theorem sc10 : FnScope ["one", "other"] ["one", "other"] (defScope (top 10)) := ⟨rfl, rfl, rfl, by decide +kernel, rfl, by decide +kernel, by decide +kernel⟩
theorem sc11 : FnScope ["one", "other"] ["one", "other"] (defScope (top 11)) := ⟨rfl, rfl, rfl, by decide +kernel, rfl, by decide +kernel, by decide +kernel⟩
theorem sc12 : FnScope ["one", "other"] ["one", "other"] (defScope (top 12)) := ⟨rfl, rfl, rfl, by decide +kernel, rfl, by decide +kernel, by decide +kernel⟩
theorem sc13 : FnScope ["one", "other"] ["one", "other"] (defScope (top 13)) := ⟨rfl, rfl, rfl, by decide +kernel, rfl, by decide +kernel, by decide +kernel⟩
theorem sc14 : FnScope ["one", "other"] ["one", "other"] (defScope (top 14)) := ⟨rfl, rfl, rfl, by decide +kernel, rfl, by decide +kernel, by decide +kernel⟩
theorem sc15 : FnScope ["one"] ["one"] (defScope (top 15)) := ⟨rfl, rfl, rfl, by decide +kernel, rfl, by decide +kernel, by decide +kernel⟩
theorem den_ne (a : Rat) : (a.den : Int) ≠ 0 := by have := a.den_pos; omega
theorem mul_den_ne (a b : Rat) : (a.den : Int) * b.den ≠ 0 := Int.mul_ne_zero (den_ne a) (den_ne b)
section
variable {X : Cx}
/-- one[i] of a tuple at slot j -/
abbrev ixT {j : Nat} {x : Str} {i : Int} {k p p2 p3} (hN : X.N[j]? = some x) (hv : Vis X.env.scope x) (hd : (x == ("__debug__" : Str)) = false := by decide) (hcd : (x == ("__classdict__" : Str)) = false := by decide) : PE X (.Subscript (.Name x p) (.Constant (.int i) k p2) p3) (tOp (rIxT X.K) (tVar j) (tC (.int i))) :=
  pe_ix ix_tup (pe_var hN hv hd hcd) pe_int (fun _ _ => rfl)
end
theorem ok_plus (F : Df K mg "plus" 10) (cN : Cal P w K mg base 34 "number" (spNumber K)) : Cal P w K mg base 35 "plus" (spPlus K) := by
  refine F.cal sc10 (fun _ _ _ _ _ _ us hl => match us, hl with | [_, _], _ => rfl) (fun vs H Q E h => ?_) (fun f cdv A outer s H vs Q E hr h => ?_)
  · obtain ⟨a, b, _, _, rfl, _⟩ := h; rfl
  obtain ⟨x, y, a, b, rfl, ha, hb, ⟨sa, sb⟩, q⟩ := h
  obtain ⟨p, rfl, hp⟩ := num_inv ha
  obtain ⟨r, rfl, hq⟩ := num_inv hb
  refine ⟨_, pss_one (ps_ret (pe_c cN hr (by decide) (by rfl) (pa_cons (pe_op op_add (pe_op op_mulP (ixT (j := 0) rfl (.inl rfl)) (ixT (j := 1) rfl (.inl rfl))) (pe_op op_mulP (ixT (j := 1) rfl (.inl rfl)) (ixT (j := 0) rfl (.inl rfl))))
    (pa_cons (pe_op op_mulP (ixT (j := 0) rfl (.inl rfl)) (ixT (j := 1) rfl (.inl rfl))) pa_nil)))), ?_⟩
  refine ⟨_, rfl, p, _, 0, _, rfl, rfl, hp, it0, _, rfl, r, _, 1, _, rfl, rfl, hq, it1, _, _, rfl, rfl, sa.c1 sb, _, rfl, r, _, 0, _, rfl, rfl, hq, it0, _, rfl, p, _, 1, _, rfl, rfl, hp, it1, _, _, rfl, rfl, sb.c1 sa, _, _, rfl, rfl, _, rfl, p, _, 1, _, rfl, rfl, hp, it1, _, rfl, r, _, 1, _, rfl, rfl, hq, it1, _, _, rfl, rfl, sa.c3 sb, _, _, rfl, mul_den_ne a b, ?_⟩
  rw [← add_divInt]; exact q
theorem ok_minus (F : Df K mg "minus" 11) (cN : Cal P w K mg base 34 "number" (spNumber K)) : Cal P w K mg base 35 "minus" (spMinus K) := by
  refine F.cal sc11 (fun _ _ _ _ _ _ us hl => match us, hl with | [_, _], _ => rfl) (fun vs H Q E h => ?_) (fun f cdv A outer s H vs Q E hr h => ?_)
  · obtain ⟨a, b, _, _, rfl, _⟩ := h; rfl
  obtain ⟨x, y, a, b, rfl, ha, hb, ⟨sa, sb⟩, q⟩ := h
  obtain ⟨p, rfl, hp⟩ := num_inv ha
  obtain ⟨r, rfl, hq⟩ := num_inv hb
  refine ⟨_, pss_one (ps_ret (pe_c cN hr (by decide) (by rfl) (pa_cons (pe_op op_sub (pe_op op_mulP (ixT (j := 0) rfl (.inl rfl)) (ixT (j := 1) rfl (.inl rfl))) (pe_op op_mulP (ixT (j := 1) rfl (.inl rfl)) (ixT (j := 0) rfl (.inl rfl))))
    (pa_cons (pe_op op_mulP (ixT (j := 0) rfl (.inl rfl)) (ixT (j := 1) rfl (.inl rfl))) pa_nil)))), ?_⟩
  refine ⟨_, rfl, p, _, 0, _, rfl, rfl, hp, it0, _, rfl, r, _, 1, _, rfl, rfl, hq, it1, _, _, rfl, rfl, sa.c1 sb, _, rfl, r, _, 0, _, rfl, rfl, hq, it0, _, rfl, p, _, 1, _, rfl, rfl, hp, it1, _, _, rfl, rfl, sb.c1 sa, _, _, rfl, rfl, _, rfl, p, _, 1, _, rfl, rfl, hp, it1, _, rfl, r, _, 1, _, rfl, rfl, hq, it1, _, _, rfl, rfl, sa.c3 sb, _, _, rfl, mul_den_ne a b, ?_⟩
  rw [← sub_divInt]; exact q
theorem ok_times (F : Df K mg "times" 12) (cN : Cal P w K mg base 34 "number" (spNumber K)) : Cal P w K mg base 35 "times" (spTimes K) := by
  refine F.cal sc12 (fun _ _ _ _ _ _ us hl => match us, hl with | [_, _], _ => rfl) (fun vs H Q E h => ?_) (fun f cdv A outer s H vs Q E hr h => ?_)
  · obtain ⟨a, b, _, _, rfl, _⟩ := h; rfl
  obtain ⟨x, y, a, b, rfl, ha, hb, ⟨sa, sb⟩, q⟩ := h
  obtain ⟨p, rfl, hp⟩ := num_inv ha
  obtain ⟨r, rfl, hq⟩ := num_inv hb
  refine ⟨_, pss_one (ps_ret (pe_c cN hr (by decide) (by rfl) (pa_cons (pe_op op_mulP (ixT (j := 0) rfl (.inl rfl)) (ixT (j := 1) rfl (.inl rfl)))
    (pa_cons (pe_op op_mulP (ixT (j := 0) rfl (.inl rfl)) (ixT (j := 1) rfl (.inl rfl))) pa_nil)))), ?_⟩
  refine ⟨_, rfl, p, _, 0, _, rfl, rfl, hp, it0, _, rfl, r, _, 0, _, rfl, rfl, hq, it0, _, _, rfl, rfl, sa.c2 sb, _, rfl, p, _, 1, _, rfl, rfl, hp, it1, _, rfl, r, _, 1, _, rfl, rfl, hq, it1, _, _, rfl, rfl, sa.c3 sb, _, _, rfl, mul_den_ne a b, ?_⟩
  rw [← mul_divInt]; exact q
theorem ok_over (F : Df K mg "over" 13) (cN : Cal P w K mg base 34 "number" (spNumber K)) : Cal P w K mg base 35 "over" (spOver K) := by
  refine F.cal sc13 (fun _ _ _ _ _ _ us hl => match us, hl with | [_, _], _ => rfl) (fun vs H Q E h => ?_) (fun f cdv A outer s H vs Q E hr h => ?_)
  · obtain ⟨a, b, _, _, rfl, _⟩ := h; rfl
  obtain ⟨x, y, a, b, rfl, ha, hb, ⟨⟨sa, sb⟩, b0⟩, q⟩ := h
  obtain ⟨p, rfl, hp⟩ := num_inv ha
  obtain ⟨r, rfl, hq⟩ := num_inv hb
  refine ⟨_, pss_one (ps_ret (pe_c cN hr (by decide) (by rfl) (pa_cons (pe_op op_mulP (ixT (j := 0) rfl (.inl rfl)) (ixT (j := 1) rfl (.inl rfl)))
    (pa_cons (pe_op op_mulP (ixT (j := 0) rfl (.inl rfl)) (ixT (j := 1) rfl (.inl rfl))) pa_nil)))), ?_⟩
  refine ⟨_, rfl, p, _, 0, _, rfl, rfl, hp, it0, _, rfl, r, _, 1, _, rfl, rfl, hq, it1, _, _, rfl, rfl, sa.c1 sb, _, rfl, p, _, 1, _, rfl, rfl, hp, it1, _, rfl, r, _, 0, _, rfl, rfl, hq, it0, _, _, rfl, rfl, sa.c4 sb, _, _, rfl, ?_, ?_⟩
  · exact Int.mul_ne_zero (den_ne a) (fun z => b0 (Rat.num_eq_zero.mp z))
  rw [← div_divInt]; exact q
theorem ok_less (F : Df K mg "less" 14) : Cal P w K mg base 33 "less" (spLess K) := by
  refine F.cal sc14 (fun _ _ _ _ _ _ us hl => match us, hl with | [_, _], _ => rfl) (fun vs H Q E h => ?_) (fun f cdv A outer s H vs Q E hr h => ?_)
  · obtain ⟨a, b, _, _, rfl, _⟩ := h; rfl
  obtain ⟨x, y, a, b, rfl, ha, hb, sa, sb, q⟩ := h
  obtain ⟨p, rfl, hp⟩ := num_inv ha
  obtain ⟨r, rfl, hq⟩ := num_inv hb
  refine ⟨_, pss_one (ps_ret (pe_cmpR op_lt (pe_op op_mulP (ixT (j := 0) rfl (.inl rfl)) (ixT (j := 1) rfl (.inl rfl))) (pe_op op_mulP (ixT (j := 1) rfl (.inl rfl)) (ixT (j := 0) rfl (.inl rfl))) (nomark _))), ?_⟩
  refine ⟨_, rfl, p, _, 0, _, rfl, rfl, hp, it0, _, rfl, r, _, 1, _, rfl, rfl, hq, it1, _, _, rfl, rfl, sa.c1 sb, _, rfl, r, _, 0, _, rfl, rfl, hq, it0, _, rfl, p, _, 1, _, rfl, rfl, hp, it1, _, _, rfl, rfl, sb.c1 sa, _, _, rfl, rfl, ?_⟩
  have e : decide (a.num * (b.den : Int) < b.num * (a.den : Int)) = decide (a < b) := decide_eq_decide.mpr (Rat.lt_iff a b).symm
  show Q (.bl (decide (a.num * (b.den : Int) < b.num * (a.den : Int)))) H
  rw [e]; exact q
theorem ok_sign (F : Df K mg "sign" 15) (B : Bl mg) : Cal P w K mg base 33 "sign" (spSign K) := by
  refine F.cal sc15 (fun _ _ _ _ _ _ us hl => match us, hl with | [_], _ => rfl) (fun vs H Q E h => ?_) (fun f cdv A outer s H vs Q E hr h => ?_)
  · obtain ⟨a, _, rfl, _⟩ := h; rfl
  obtain ⟨x, a, rfl, ha, q⟩ := h
  obtain ⟨p, rfl, hp⟩ := num_inv ha
  refine ⟨_, pss_one (ps_ret (pe_op op_sub (pe_callTy call_int1 (by rfl) B.int (by decide +kernel) (pa_cons (pe_cmpR op_gt (ixT (j := 0) rfl (.inl rfl)) pe_int (nomark _)) pa_nil))
    (pe_callTy call_int1 (by rfl) B.int (by decide +kernel) (pa_cons (pe_cmpR op_lt (ixT (j := 0) rfl (.inl rfl)) pe_int (nomark _)) pa_nil)))), ?_⟩
  refine ⟨_, rfl, p, _, 0, _, rfl, rfl, hp, it0, _, _, rfl, rfl, .inr ⟨_, rfl, ?_⟩⟩
  refine ⟨_, rfl, p, _, 0, _, rfl, rfl, hp, it0, _, _, rfl, rfl, .inr ⟨_, rfl, ?_⟩⟩
  refine ⟨_, _, rfl, rfl, ?_⟩
  have e : (if decide (0 < a.num) = true then (1 : Int) else 0) - (if decide (a.num < 0) = true then 1 else 0) = sgn a := by
    have h1 : (0 < a.num) ↔ (0 < a) := (by rw [Rat.lt_iff]; simp)
    have h2 : (a.num < 0) ↔ (a < 0) := (by rw [Rat.lt_iff]; simp)
    unfold sgn
    by_cases c1 : 0 < a
    · have c2 : ¬ a < 0 := by grind
      simp [h1, h2, c1, c2]
    · by_cases c2 : a < 0
      · simp [h1, h2, c1, c2]
      · simp [h1, h2, c1, c2]
  show Q (.int ((if decide (0 < a.num) = true then (1 : Int) else 0) - (if decide (a.num < 0) = true then 1 else 0))) H
  rw [e]; exact q
end
end NB

set_option Elab.async false
set_option linter.all false
set_option maxRecDepth 100000
set_option maxHeartbeats 4000000
namespace NB
open PySem PySem.Spec PyProof.Rows L2
/-! ### a list that grows -/
structure Acc (K : PySem.W.Frag) (H : Hp) (D : Addr) (H1 : Hp) (ds : List PyData) : Prop where
  sm : Same H H1
  ex : ∃ acc, H1 D = some (.lst acc) ∧ DpAll K H1 acc ds
section
variable {K : PySem.W.Frag} {H H1 H2 : Hp} {D : Addr} {ds : List PyData} {d : PyData} {y : V}
theorem same_set {o : HO} (h : Same H H1) (hD : H D = none) : Same H (upd H1 D o) := fun b x e => by
  rw [upd_ne (ne_of_none e hD)]
  exact h b x e
theorem Acc.start (hD : H D = none) : Acc K H D (upd H D (.lst [])) [] := ⟨same_upd hD, [], upd_same, .nil⟩
theorem Acc.up (a : Acc K H D H1 ds) (h : Same H1 H2) : Acc K H D H2 ds := by
  obtain ⟨s, acc, e, k⟩ := a
  exact ⟨s.trans h, acc, h _ _ e, dpa_mono h k⟩
theorem Acc.push (a : Acc K H D H1 ds) (h : Same H1 H2) (hD : H D = none) (hy : Dp K H2 y d) (hn : nl d = true) (hs : nls ds = true) : ∃ acc, H2 D = some (.lst acc) ∧ acc.length = ds.length ∧ Acc K H D (upd H2 D (.lst (acc ++ [y]))) (ds ++ [d]) := by
  obtain ⟨s, acc, e, k⟩ := a
  have e2 := h _ _ e
  refine ⟨acc, e2, dpa_len k, same_set (s.trans h) hD, _, upd_same, ?_⟩
  exact dpa_app (dpa_keep e2 (dpa_mono h k) hs) (.cons (dp_keep e2 hy hn) .nil)
theorem Acc.set (a : Acc K H D H1 ds) (h : Same H1 H2) (hD : H D = none) (hy : Dp K H2 y d) (hn : nl d = true) (hs : nls ds = true) (n : Nat) : ∃ acc, H2 D = some (.lst acc) ∧ acc.length = ds.length ∧ Acc K H D (upd H2 D (.lst (acc.set n y))) (ds.set n d) := by
  obtain ⟨s, acc, e, k⟩ := a
  have e2 := h _ _ e
  refine ⟨acc, e2, dpa_len k, same_set (s.trans h) hD, _, upd_same, ?_⟩
  exact dpa_set n (dpa_keep e2 (dpa_mono h k) hs) (dp_keep e2 hy hn)
theorem Acc.dp {p : Pl} (a : Acc K H D H1 (p.map nD)) : Dp K H1 (.ref D) (lD p) := by
  obtain ⟨_, acc, e, k⟩ := a
  exact .lst (SqL.of e) k
end
/-- what a def hands back, above what stood -/
abbrev Gives (K : PySem.W.Frag) (H : Hp) (d : PyData) (Q : VK) : Prop := ∀ H' v, Same H H' → Dp K H' v d → Q v H'
theorem line_ok {n : Nat} (h : n ≤ 100) : n < sizeLine := small1000 (by omega)
theorem line_le {n : Nat} (h : n ≤ 100) : n ≤ sizeLine := Nat.le_of_lt (line_ok h)
section
variable {P : Program} {w : World} {K : PySem.W.Frag} {mg : Str → Option Value} {base : Heap}

/-! ### without_noughts -/
def spWN (K : PySem.W.Frag) : Sp := fun vs H Q _ => ∃ x p, vs = [x] ∧ Dp K H x (lD p) ∧ Gives K H (cD (norm p)) Q
theorem co_take (p : Pl) (m i : Nat) : co (p.take m) i = if i < m then co p i else 0 := by
  unfold co
  simp only [List.getD, List.getElem?_take]
  split <;> rfl
theorem norm_take {p : Pl} {m : Nat} (hm : m ≤ p.length) (h : ∀ j, m ≤ j → co p j = 0) (h2 : m = 0 ∨ co p (m - 1) ≠ 0) : norm p = p.take m := by
  refine ident (Norm_norm p) ?_ fun x => by
    rw [ev_norm]
    refine ev_of_co (fun i => ?_) x
    rw [co_take]
    split
    · rfl
    · exact h i (by omega)
  intro e
  have hl : (p.take m).length = m := by rw [List.length_take]; omega
  rw [List.getLast?_eq_getElem?, hl] at e
  rcases h2 with h2 | h2
  · subst h2; simp at e
  · by_cases h0 : m = 0
    · subst h0; simp at e
    · have hlt : m - 1 < (p.take m).length := by omega
      rw [List.getElem?_eq_getElem hlt] at e
      have e2 := Option.some.inj e
      rw [← co_lt hlt, co_take, if_pos (by omega)] at e2
      exact h2 e2
theorem cutV_to {vs : List V} {m : Nat} (h : m ≤ vs.length) : cutV vs none (some (m : Int)) = vs.take m := by
  unfold cutV
  rw [HT.sIx_none, HT.sIx_nat, Nat.min_eq_left h]
  rfl
theorem co_num_zero {p : Pl} {m : Nat} (h : m < p.length) : p[m].num = 0 ↔ co p m = 0 := by
  rw [co_lt h, Rat.num_eq_zero]
theorem sc20 : FnScope ["numbers", "many"] ["numbers"] (defScope (top 20)) := ⟨rfl, rfl, rfl, by decide +kernel, rfl, by decide +kernel, by decide +kernel⟩
theorem ok_without_noughts (F : Df K mg "without_noughts" 20) (B : Bl mg) : Cal P w K mg base 33 "without_noughts" (spWN K) := by
  refine F.cal sc20 (fun _ _ _ _ _ _ us hl => match us, hl with | [_], _ => rfl) (fun vs H Q E h => ?_) (fun f cdv A outer s H vs Q E hr h => ?_)
  · obtain ⟨a, _, rfl, _⟩ := h; rfl
  obtain ⟨x, p, rfl, hx, q⟩ := h
  obtain ⟨a, vs, rfl, hs, hn⟩ := lst_inv hx
  have hl := nums_len hn
  refine ⟨_, pss_cons (ps_set (i := 1) sc20.nd rfl (.inl rfl) (pe_callB call_len_seq (by rfl) B.len PySem.boot_len (pa_cons (pv 0) pa_nil)))
    (pss_cons (ps_while PassesOwn.never (PW.pt (pw_and (pt_cmpR op_gt (pv 1) pe_int (nomark _)) (pw_and1 (pt_cmpR op_eq (pe_ix ix_tup (pe_ix ix_list (pv 0) (pe_op op_sub (pv 1) pe_int) (fun _ _ => rfl)) pe_int (fun _ _ => rfl)) pe_int (nomark _))))) (pss_one (ps_set (i := 1) sc20.nd rfl (.inl rfl) (pe_op op_sub (pv 1) pe_int))))
    (pss_one (ps_ret (pe_callTy call_tuple_of (by rfl) B.tuple (by decide +kernel) (pa_cons (pe_slice sl_list (pv 0) po_none (po_some (pv 1))) pa_nil))))), ?_⟩
  refine ⟨_, rfl, a, vs, rfl, .inl hs, ?_⟩
  refine ⟨fun m σ H1 => m ≤ p.length ∧ σ = [some (.ref a), some (.int (m : Nat))] ∧ (∀ j, m ≤ j → co p j = 0) ∧ H1 = H, ⟨p.length, Nat.le_refl _, by rw [← hl]; rfl, fun j hj => co_ge hj, rfl⟩, fun m σ H1 hW => ?_⟩
  obtain ⟨hm, rfl, hz, rfl⟩ := hW
  have fin : (m = 0 ∨ co p (m - 1) ≠ 0) → ∃ v, [some (V.ref a), some (V.int (m : Nat))][0]? = some (some v) ∧ (tNoPart [some (V.ref a), some (V.int (m : Nat))] H1 fun l H2 => (tPart (tVar 1)) [some (V.ref a), some (V.int (m : Nat))] H2 fun u H3 => rSlL K v l u H3 fun xx H4 => ∃ p ys, [xx] = [.ref p] ∧ ((SqL K H4 p ys ∧ ∀ l, H4 l = none → Q (.ref l) (upd H4 l (.tup ys))) ∨ (SqT K H4 p ys ∧ Q (.ref p) H4))) := fun h2 => by
    refine ⟨_, rfl, _, rfl, _, rfl, a, vs, rfl, hs, fun l nl' => ?_⟩
    refine ⟨l, _, rfl, .inl ⟨SqL.of upd_same, fun r nr => ?_⟩⟩
    have s1 : Same H1 (upd (upd H1 l (.lst (cutV vs none (some (m : Int))))) r (.tup (cutV vs none (some (m : Int))))) := (same_upd nl').trans (same_upd nr)
    refine q _ _ s1 ?_
    rw [norm_take hm hz h2, cutV_to (by omega)] at *
    exact .tup (SqT.of upd_same) (dpa_mono s1 (nums_take m hn))
  refine ⟨_, rfl, _, _, rfl, rfl, _, rfl, ite2 (fun h0 => ?_) (fun h0 => ?_)⟩
  · have h0 : 0 < (m : Int) := of_decide_eq_true h0
    have hi : m - 1 < p.length := by omega
    obtain ⟨v, hv, hnv⟩ := nums_get hn hi
    obtain ⟨b, rfl, hb⟩ := num_inv hnv
    have em : (m : Int) - 1 = ((m - 1 : Nat) : Int) := by omega
    refine ⟨_, rfl, _, rfl, _, _, rfl, rfl, a, vs, _, .ref b, rfl, rfl, hs, ?_, b, _, 0, _, rfl, rfl, hb, it0, rfl, _, rfl, ite2 (fun e => ?_) (fun e => ?_)⟩
    · show atI vs ((m : Int) - 1) = _
      rw [em]; exact atI_nat hv
    · have e : p[m - 1].num = 0 := V.int.inj (of_decide_eq_true e)
      refine ⟨fun σ' H' => ∃ m', m' < m ∧ (m' ≤ p.length ∧ σ' = [some (.ref a), some (.int (m' : Nat))] ∧ (∀ j, m' ≤ j → co p j = 0) ∧ H' = H1), fun _ _ h => h, ?_⟩
      refine ⟨_, rfl, _, _, rfl, rfl, m - 1, by omega, by omega, ?_, fun j hj => ?_, rfl⟩
      · show [some (V.ref a), some (V.int ((m : Int) - 1))] = _
        rw [em]
      · by_cases hj2 : m ≤ j
        · exact hz j hj2
        · have : j = m - 1 := by omega
          subst this
          exact (co_num_zero hi).mp e
    · have e : ¬ p[m - 1].num = 0 := fun z => e (decide_eq_true (by rw [z]))
      exact fin (.inr fun z => e ((co_num_zero hi).mpr z))
  · have h0 : ¬ 0 < (m : Int) := fun z => h0 (decide_eq_true z)
    exact iteF (fin (.inl (by omega)))
/-- .. of a tuple -/
def spWNt (K : PySem.W.Frag) : Sp := fun vs H Q _ => ∃ x p, vs = [x] ∧ Dp K H x (cD p) ∧ Gives K H (cD (norm p)) Q
theorem ok_without_noughtsT (F : Df K mg "without_noughts" 20) (B : Bl mg) : Cal P w K mg base 33 "without_noughts" (spWNt K) := by
  refine F.cal sc20 (fun _ _ _ _ _ _ us hl => match us, hl with | [_], _ => rfl) (fun vs H Q E h => ?_) (fun f cdv A outer s H vs Q E hr h => ?_)
  · obtain ⟨a, _, rfl, _⟩ := h; rfl
  obtain ⟨x, p, rfl, hx, q⟩ := h
  obtain ⟨a, vs, rfl, hs, hn⟩ := cur_inv hx
  have hl := nums_len hn
  refine ⟨_, pss_cons (ps_set (i := 1) sc20.nd rfl (.inl rfl) (pe_callB call_len_seq (by rfl) B.len PySem.boot_len (pa_cons (pv 0) pa_nil)))
    (pss_cons (ps_while PassesOwn.never (PW.pt (pw_and (pt_cmpR op_gt (pv 1) pe_int (nomark _)) (pw_and1 (pt_cmpR op_eq (pe_ix ix_tup (pe_ix ix_tup (pv 0) (pe_op op_sub (pv 1) pe_int) (fun _ _ => rfl)) pe_int (fun _ _ => rfl)) pe_int (nomark _))))) (pss_one (ps_set (i := 1) sc20.nd rfl (.inl rfl) (pe_op op_sub (pv 1) pe_int))))
    (pss_one (ps_ret (pe_callTy call_tuple_of (by rfl) B.tuple (by decide +kernel) (pa_cons (pe_slice sl_tupA (pv 0) po_none (po_some (pv 1))) pa_nil))))), ?_⟩
  refine ⟨_, rfl, a, vs, rfl, .inr hs, ?_⟩
  refine ⟨fun m σ H1 => m ≤ p.length ∧ σ = [some (.ref a), some (.int (m : Nat))] ∧ (∀ j, m ≤ j → co p j = 0) ∧ H1 = H, ⟨p.length, Nat.le_refl _, by rw [← hl]; rfl, fun j hj => co_ge hj, rfl⟩, fun m σ H1 hW => ?_⟩
  obtain ⟨hm, rfl, hz, rfl⟩ := hW
  have fin : (m = 0 ∨ co p (m - 1) ≠ 0) → ∃ v, [some (V.ref a), some (V.int (m : Nat))][0]? = some (some v) ∧ (tNoPart [some (V.ref a), some (V.int (m : Nat))] H1 fun l H2 => (tPart (tVar 1)) [some (V.ref a), some (V.int (m : Nat))] H2 fun u H3 => rSlA K v l u H3 fun xx H4 => ∃ p ys, [xx] = [.ref p] ∧ ((SqL K H4 p ys ∧ ∀ l, H4 l = none → Q (.ref l) (upd H4 l (.tup ys))) ∨ (SqT K H4 p ys ∧ Q (.ref p) H4))) := fun h2 => by
    refine ⟨_, rfl, _, rfl, _, rfl, a, vs, rfl, hs, fun hw => ?_, fun _ l nl' => ?_⟩
    · have hm2 : m = vs.length := by
        have := hw.2
        rw [HT.sIx_nat] at this
        omega
      refine ⟨a, vs, rfl, .inr ⟨hs, ?_⟩⟩
      refine q _ _ (.refl _) ?_
      rw [norm_take hm hz h2, List.take_of_length_le (by omega)]
      exact hx
    · have s1 : Same H1 (upd H1 l (.tup (cutV vs none (some (m : Int))))) := same_upd nl'
      refine ⟨l, _, rfl, .inr ⟨SqT.of upd_same, ?_⟩⟩
      refine q _ _ s1 ?_
      rw [norm_take hm hz h2, cutV_to (by omega)] at *
      exact .tup (SqT.of upd_same) (dpa_mono s1 (nums_take m hn))
  refine ⟨_, rfl, _, _, rfl, rfl, _, rfl, ite2 (fun h0 => ?_) (fun h0 => ?_)⟩
  · have h0 : 0 < (m : Int) := of_decide_eq_true h0
    have hi : m - 1 < p.length := by omega
    obtain ⟨v, hv, hnv⟩ := nums_get hn hi
    obtain ⟨b, rfl, hb⟩ := num_inv hnv
    have em : (m : Int) - 1 = ((m - 1 : Nat) : Int) := by omega
    refine ⟨_, rfl, _, rfl, _, _, rfl, rfl, a, vs, _, .ref b, rfl, rfl, hs, ?_, b, _, 0, _, rfl, rfl, hb, it0, rfl, _, rfl, ite2 (fun e => ?_) (fun e => ?_)⟩
    · show atI vs ((m : Int) - 1) = _
      rw [em]; exact atI_nat hv
    · have e : p[m - 1].num = 0 := V.int.inj (of_decide_eq_true e)
      refine ⟨fun σ' H' => ∃ m', m' < m ∧ (m' ≤ p.length ∧ σ' = [some (.ref a), some (.int (m' : Nat))] ∧ (∀ j, m' ≤ j → co p j = 0) ∧ H' = H1), fun _ _ h => h, ?_⟩
      refine ⟨_, rfl, _, _, rfl, rfl, m - 1, by omega, by omega, ?_, fun j hj => ?_, rfl⟩
      · show [some (V.ref a), some (V.int ((m : Int) - 1))] = _
        rw [em]
      · by_cases hj2 : m ≤ j
        · exact hz j hj2
        · have : j = m - 1 := by omega
          subst this
          exact (co_num_zero hi).mp e
    · have e : ¬ p[m - 1].num = 0 := fun z => e (decide_eq_true (by rw [z]))
      exact fin (.inr fun z => e ((co_num_zero hi).mpr z))
  · have h0 : ¬ 0 < (m : Int) := fun z => h0 (decide_eq_true z)
    exact iteF (fin (.inl (by omega)))
end
end NB

set_option Elab.async false
set_option linter.all false
set_option maxRecDepth 100000
set_option maxHeartbeats 4000000
namespace NB
open PySem PySem.Spec PyProof.Rows L2
theorem tYes_of {σ : L2.St} {H : Hp} {A B : Hp → Prop} (h : A H) : tYes σ H (fun b H3 => if b = true then A H3 else B H3) := by
  show if true = true then A H else B H
  rw [if_pos rfl]; exact h
theorem Sz.sm {n : Nat} {q : Rat} (h : Sz n q) (hn : n ≤ LIM) : Sm q := h.mono hn
theorem drop_step {p : Pl} {i : Nat} (hi : i < p.length) : p.drop (p.length - (i + 1)) = p[p.length - 1 - i] :: p.drop (p.length - i) := by
  have e1 : p.length - (i + 1) = p.length - 1 - i := by omega
  rw [e1, List.drop_eq_getElem_cons (by omega)]
  congr 2
  omega
theorem SzL.drop {n : Nat} {p : Pl} (h : SzL n p) (k : Nat) : SzL n (p.drop k) := fun a ha => h a (List.mem_of_mem_drop ha)
theorem SzL.take {n : Nat} {p : Pl} (h : SzL n p) (k : Nat) : SzL n (p.take k) := fun a ha => h a (List.mem_of_mem_take ha)
theorem SzL.get {n : Nat} {p : Pl} (h : SzL n p) {i : Nat} (hi : i < p.length) : Sz n p[i] := h _ (List.getElem_mem hi)
section
variable {P : Program} {w : World} {K : PySem.W.Frag} {mg : Str → Option Value} {base : Heap}

/-! ### curve_of -/
def spCurveOf (K : PySem.W.Frag) : Sp := fun vs H Q _ => ∃ x p, vs = [x] ∧ Dp K H x (lD p) ∧ (norm p).length ≤ 13 ∧ Gives K H (cD (norm p)) Q
theorem sc21 : FnScope ["numbers", "found"] ["numbers"] (defScope (top 21)) := ⟨rfl, rfl, rfl, by decide +kernel, rfl, by decide +kernel, by decide +kernel⟩
theorem ok_curve_of (F : Df K mg "curve_of" 21) (B : Bl mg) (kM : KI mg "MOST_NUMBERS" 13) (cW : Cal P w K mg base 33 "without_noughts" (spWN K)) : Cal P w K mg base 34 "curve_of" (spCurveOf K) := by
  refine F.cal sc21 (fun _ _ _ _ _ _ us hl => match us, hl with | [_], _ => rfl) (fun vs H Q E h => ?_) (fun f cdv A outer s H vs Q E hr h => ?_)
  · obtain ⟨a, _, rfl, _⟩ := h; rfl
  obtain ⟨x, p, rfl, hx, h13, q⟩ := h
  refine ⟨_, pss_cons (ps_set (i := 1) sc21.nd rfl (.inl rfl) (pe_c cW hr (by decide) (by rfl) (pa_cons (pv 0) pa_nil)))
    (pss_cons (ps_if (pt_cmpR op_gt (pe_callB call_len_seq (by rfl) B.len PySem.boot_len (pa_cons (pv 1) pa_nil)) (pe_gc (by rfl) kM) (nomark _)) pss_never pss_nil)
    (pss_one (ps_ret (pv 1)))), ?_⟩
  refine ⟨_, rfl, _, p, rfl, hx, fun H1 v s1 hv => ?_⟩
  obtain ⟨b, vs', rfl, hs, hn⟩ := cur_inv hv
  have hl := nums_len hn
  refine ⟨_, rfl, b, vs', rfl, .inr hs, _, _, rfl, rfl, _, rfl, ite2 (fun e => ?_) (fun _ => ⟨_, rfl, q _ _ s1 hv⟩)⟩
  have : (13 : Int) < vs'.length := of_decide_eq_true e
  omega

/-! ### worth -/
def spWorth (K : PySem.W.Frag) : Sp := fun vs H Q _ => ∃ x y p t, vs = [x, y] ∧ Dp K H x (cD p) ∧ Num K H y t ∧ (∃ n m, SzL n p ∧ Sz m t ∧ p.length * (n + m + 1) ≤ LIM ∧ n ≤ LIM ∧ m ≤ LIM) ∧ Gives K H (nD (ev p t)) Q
theorem sc22 : FnScope ["curve", "x", "found", "one"] ["curve", "x"] (defScope (top 22)) := ⟨rfl, rfl, rfl, by decide +kernel, rfl, by decide +kernel, by decide +kernel⟩
theorem ok_worth (F : Df K mg "worth" 22) (B : Bl mg) (k0 : KN K mg "NOUGHT_curves" 0) (cP : Cal P w K mg base 35 "plus" (spPlus K)) (cT : Cal P w K mg base 35 "times" (spTimes K)) : Cal P w K mg base 36 "worth" (spWorth K) := by
  refine F.cal sc22 (fun _ _ _ _ _ _ us hl => match us, hl with | [_, _], _ => rfl) (fun vs H Q E h => ?_) (fun f cdv A outer s H vs Q E hr h => ?_)
  · obtain ⟨_, _, _, _, rfl, _⟩ := h; rfl
  obtain ⟨x, y, p, t, rfl, hx, hy, ⟨n, m, sp, st, hL, hnL, hmL⟩, q⟩ := h
  obtain ⟨a, vs, rfl, hs, hn⟩ := cur_inv hx
  have hl := nums_len hn
  obtain ⟨a0, hm0, h0⟩ := k0
  refine ⟨_, pss_cons (ps_set (i := 2) sc22.nd rfl (.inl rfl) (pe_gc (v := .ref a0) (by rfl) ⟨_, hm0, rfl⟩))
    (pss_cons (ps_for PassesOwn.never rfl (RT.pi_revA (by rfl) B.reversed (pv 0)) (pg_name (i := 3) sc22.nd rfl (.inl rfl))
      (pss_one (ps_set (i := 2) sc22.nd rfl (.inl rfl) (pe_c cP hr (by decide) (by rfl) (pa_cons (pe_c cT hr (by decide) (by rfl) (pa_cons (pv 2) (pa_cons (pv 1) pa_nil))) (pa_cons (pv 3) pa_nil))))))
    (pss_one (ps_ret (pv 2)))), ?_⟩
  refine ⟨_, rfl, a, vs, rfl, .inr ⟨hs, RT.for_ItvT (fun i σ H1 => ∃ v y3, i ≤ p.length ∧ σ = [some (.ref a), some y, some v, y3] ∧ Same H H1 ∧ Num K H1 v (ev (p.drop (p.length - i)) t)) ?_ (fun i σ H1 h => ?_) (fun i z σ H1 hi hz h => ?_) (fun σ H1 h => ?_)⟩⟩
  · exact ⟨_, none, Nat.zero_le _, rfl, .refl _, by rw [Nat.sub_zero, List.drop_length]; exact h0 H⟩
  · obtain ⟨v, y3, _, rfl, s1, _⟩ := h
    exact sqT_mono s1 hs
  · obtain ⟨v, y3, hip, rfl, s1, hv⟩ := h
    rw [hl] at hi hz
    obtain ⟨hj, hz2⟩ := nums_get' hn hz
    have szf := Sz.ev st (sp.drop (p.length - i))
    rw [List.length_drop] at szf
    have hi2 : p.length - (p.length - i) = i := by omega
    rw [hi2] at szf
    have hb1 : (i + 1) * (n + m + 1) ≤ LIM := Nat.le_trans (Nat.mul_le_mul_right _ (by omega)) hL
    rw [Nat.succ_mul] at hb1
    refine ⟨_, rfl, _, rfl, _, _, _, _, rfl, hv, dp_mono s1 hy, ⟨szf.sm (by omega), st.sm (by omega)⟩, fun H2 v2 s2 hv2 => ?_⟩
    refine ⟨_, rfl, _, _, _, _, rfl, hv2, dp_mono (s1.trans s2) hz2, ⟨(szf.mul st).sm (by omega), (sp.get hj).sm (by omega)⟩, fun H3 v3 s3 hv3 => ?_⟩
    refine ⟨v3, some z, by omega, rfl, (s1.trans s2).trans s3, ?_⟩
    rw [drop_step (by omega), ev_cons]
    have e : ev (p.drop (p.length - i)) t * t + p[p.length - 1 - i] = p[p.length - 1 - i] + t * ev (p.drop (p.length - i)) t := by grind
    rw [← e]; exact hv3
  · obtain ⟨v, y3, _, rfl, s1, hv⟩ := h
    rw [hl, Nat.sub_self, List.drop_zero] at hv
    exact ⟨_, rfl, q _ _ s1 hv⟩

/-! ### at_power -/
def spAtPower (K : PySem.W.Frag) : Sp := fun vs H Q _ => ∃ (x : V) (p : Pl) (k : Nat), vs = [x, .int k] ∧ Dp K H x (cD p) ∧ ∀ v, Num K H v (co p k) → Q v H
theorem sc23 : FnScope ["curve", "k"] ["curve", "k"] (defScope (top 23)) := ⟨rfl, rfl, rfl, by decide +kernel, rfl, by decide +kernel, by decide +kernel⟩
theorem ok_at_power (F : Df K mg "at_power" 23) (B : Bl mg) (k0 : KN K mg "NOUGHT_curves" 0) : Cal P w K mg base 33 "at_power" (spAtPower K) := by
  refine F.cal sc23 (fun _ _ _ _ _ _ us hl => match us, hl with | [_, _], _ => rfl) (fun vs H Q E h => ?_) (fun f cdv A outer s H vs Q E hr h => ?_)
  · obtain ⟨_, _, _, rfl, _⟩ := h; rfl
  obtain ⟨x, p, k, rfl, hx, q⟩ := h
  obtain ⟨a, vs, rfl, hs, hn⟩ := cur_inv hx
  have hl := nums_len hn
  obtain ⟨a0, hm0, h0⟩ := k0
  refine ⟨_, pss_cons (ps_if (pt_cmpR op_lt (pv 1) (pe_callB call_len_seq (by rfl) B.len PySem.boot_len (pa_cons (pv 0) pa_nil)) (nomark _)) (pss_one (ps_ret (pe_ix ix_tup (pv 0) (pv 1) (fun _ _ => rfl)))) pss_nil)
    (pss_one (ps_ret (pe_gc (v := .ref a0) (by rfl) ⟨_, hm0, rfl⟩))), ?_⟩
  refine ⟨_, rfl, _, rfl, a, vs, rfl, .inr hs, _, _, rfl, rfl, _, rfl, ite2 (fun e => ?_) (fun e => ?_)⟩
  · have e : (k : Int) < vs.length := of_decide_eq_true e
    obtain ⟨v, hv, hv2⟩ := nums_get hn (i := k) (by omega)
    refine ⟨_, rfl, _, rfl, a, vs, k, v, rfl, rfl, hs, atI_nat hv, q v ?_⟩
    rw [co_lt (by omega)]; exact hv2
  · have e : ¬ (k : Int) < vs.length := fun z => e (decide_eq_true z)
    refine q _ ?_
    rw [co_ge (by omega)]; exact h0 H

/-! ### scaled -/
def spScaled (K : PySem.W.Frag) : Sp := fun vs H Q _ => ∃ x y p k, vs = [x, y] ∧ Dp K H x (cD p) ∧ Num K H y k ∧ p.length ≤ 100 ∧ (∀ a ∈ p, Sm a) ∧ Sm k ∧ Gives K H (cD (scl k p)) Q
theorem sc24 : FnScope ["curve", "k", "one"] ["curve", "k"] (defScope (top 24)) := ⟨rfl, rfl, rfl, by decide +kernel, rfl, by decide +kernel, by decide +kernel⟩
theorem ok_scaled (F : Df K mg "scaled" 24) (cW : Cal P w K mg base 33 "without_noughts" (spWN K)) (cT : Cal P w K mg base 35 "times" (spTimes K)) : Cal P w K mg base 36 "scaled" (spScaled K) := by
  refine F.cal sc24 (fun _ _ _ _ _ _ us hl => match us, hl with | [_, _], _ => rfl) (fun vs H Q E h => ?_) (fun f cdv A outer s H vs Q E hr h => ?_)
  · obtain ⟨_, _, _, _, rfl, _⟩ := h; rfl
  obtain ⟨x, y, p, k, rfl, hx, hy, h100, hsm, hk, q⟩ := h
  obtain ⟨a, vs, rfl, hs, hn⟩ := cur_inv hx
  have hl := nums_len hn
  refine ⟨_, pss_one (ps_ret (pe_c cW hr (by decide) (by rfl) (pa_cons (pe_lc (own := [("one", 2)]) (g := gName 2) (tt := tYes) rfl sc24.nd (pi_tup (pv 0)) (blkOk_by (N := ["curve", "k", "one"]) (sc := defScope (top 24)) (by decide +kernel))
    (fun _ _ _ _ _ => pg_name (i := 2) sc24.nd rfl (.inl rfl)) (fun _ _ _ _ _ => pts_nil) (fun _ _ _ _ _ => pe_c cT hr (by decide) (by rfl) (pa_cons (pv 2) (pa_cons (pv 1) pa_nil)))) pa_nil))), ?_⟩
  refine ⟨_, rfl, a, rfl, ⟨_, hs⟩, fun D nD => lc_tup (K := K) (a := a) (xs := vs) (fun i H1 => Acc K H D H1 ((sclR k (p.take i)).map NB.nD)) (.start nD) (fun i H1 _ h => sqT_mono h.sm hs) (fun i z H1 hz h => ?_) (fun H1 h => ?_)⟩
  · obtain ⟨hj, hz2⟩ := nums_get' hn hz
    refine ⟨rfl, tYes_of ?_⟩
    refine ⟨_, rfl, _, rfl, _, _, _, _, rfl, dp_mono h.sm hz2, dp_mono h.sm hy, ⟨hsm _ (List.getElem_mem hj), hk⟩, fun H2 v2 s2 hv2 => ?_⟩
    obtain ⟨acc, e1, e2, h2⟩ := h.push s2 nD hv2 (nl_nD _) (nls_map _)
    refine ⟨acc, e1, line_ok (by rw [e2, List.length_map, sclR_len, List.length_take]; omega), ?_⟩
    rw [List.take_add_one, List.getElem?_eq_getElem hj]
    unfold sclR at *
    simp only [Option.toList, List.map_append, List.map_cons, List.map_nil] at *
    exact h2
  · rw [hl, List.take_length] at h
    refine ⟨_, _, rfl, h.dp, fun H2 v s2 hv => q _ _ (h.sm.trans s2) hv⟩

/-! ### added -/
def spAdded (K : PySem.W.Frag) : Sp := fun vs H Q _ => ∃ x y p r, vs = [x, y] ∧ Dp K H x (cD p) ∧ Dp K H y (cD r) ∧ p.length ≤ 100 ∧ r.length ≤ 100 ∧ (∀ a ∈ p, Sm a) ∧ (∀ a ∈ r, Sm a) ∧ Gives K H (cD (add p r)) Q
theorem sm_co {p : Pl} (h : ∀ a ∈ p, Sm a) (i : Nat) : Sm (co p i) := SzL.co (n := LIM) h i
theorem addR_take {p r : Pl} {i : Nat} (hi : i < max p.length r.length) : (addR p r).take (i + 1) = (addR p r).take i ++ [co p i + co r i] := by
  rw [List.take_add_one, List.getElem?_eq_getElem (by rw [addR_len]; exact hi)]
  rw [← co_addR, co_lt (by rw [addR_len]; exact hi)]
  rfl
theorem sc25 : FnScope ["one", "other", "many", "k"] ["one", "other"] (defScope (top 25)) := ⟨rfl, rfl, rfl, by decide +kernel, rfl, by decide +kernel, by decide +kernel⟩
theorem ok_added (F : Df K mg "added" 25) (B : Bl mg) (cW : Cal P w K mg base 33 "without_noughts" (spWN K)) (cP : Cal P w K mg base 35 "plus" (spPlus K)) (cA : Cal P w K mg base 33 "at_power" (spAtPower K)) : Cal P w K mg base 36 "added" (spAdded K) := by
  refine F.cal sc25 (fun _ _ _ _ _ _ us hl => match us, hl with | [_, _], _ => rfl) (fun vs H Q E h => ?_) (fun f cdv A outer s H vs Q E hr h => ?_)
  · obtain ⟨_, _, _, _, rfl, _⟩ := h; rfl
  obtain ⟨x, y, p, r, rfl, hx, hy, hp, hr', sp, sr, q⟩ := h
  obtain ⟨a, vs, rfl, hs, hn⟩ := cur_inv hx
  obtain ⟨b, us, rfl, ht, hm⟩ := cur_inv hy
  have hl := nums_len hn
  have hl2 := nums_len hm
  refine ⟨_, pss_cons (ps_set (i := 2) sc25.nd rfl (.inl rfl) (pe_callB (call_max2 rfl) (by rfl) B.max (by decide +kernel) (pa_cons (pe_callB call_len_seq (by rfl) B.len PySem.boot_len (pa_cons (pv 0) pa_nil)) (pa_cons (pe_callB call_len_seq (by rfl) B.len PySem.boot_len (pa_cons (pv 1) pa_nil)) pa_nil))))
    (pss_one (ps_ret (pe_c cW hr (by decide) (by rfl) (pa_cons (pe_lc (own := [("k", 3)]) (g := gName 3) (tt := tYes) rfl sc25.nd (pi_range1 rfl B.range (pa_cons (pv 2) pa_nil)) (blkOk_by (N := ["one", "other", "many", "k"]) (sc := defScope (top 25)) (by decide +kernel))
    (fun _ _ _ _ _ => pg_name (i := 3) sc25.nd rfl (.inl rfl)) (fun _ _ _ _ _ => pts_nil) (fun _ _ _ _ _ => pe_c cP hr (by decide) (by rfl) (pa_cons (pe_c cA hr (by decide) (by rfl) (pa_cons (pv 0) (pa_cons (pv 3) pa_nil))) (pa_cons (pe_c cA hr (by decide) (by rfl) (pa_cons (pv 1) (pa_cons (pv 3) pa_nil))) pa_nil)))) pa_nil)))), ?_⟩
  refine ⟨_, rfl, a, vs, rfl, .inr hs, _, rfl, b, us, rfl, .inr ht, _, _, rfl, ?_⟩
  have em : (if (us.length : Int) > (vs.length : Int) then (us.length : Int) else vs.length) = ((max p.length r.length : Nat) : Int) := by split <;> omega
  rw [em]
  refine ⟨_, rfl, _, rfl, by omega, by omega, fun D nD => ?_⟩
  refine lc_range (lo := 0) (n := max p.length r.length) (fun i H1 => Acc K H D H1 (((addR p r).take i).map NB.nD)) (.start nD) (fun i H1 hi h => ?_) (fun H1 h => ?_)
  · rw [show (0 : Int) + (i : Nat) = ((i : Nat) : Int) by omega]
    refine ⟨rfl, tYes_of ?_⟩
    refine ⟨_, rfl, _, rfl, _, p, i, rfl, dp_mono h.sm hx, fun v hv => ?_⟩
    refine ⟨_, rfl, _, rfl, _, r, i, rfl, dp_mono h.sm hy, fun v2 hv2 => ?_⟩
    refine ⟨_, _, _, _, rfl, hv, hv2, ⟨sm_co sp i, sm_co sr i⟩, fun H2 v3 s2 hv3 => ?_⟩
    obtain ⟨acc, e1, e2, h2⟩ := h.push s2 nD hv3 (nl_nD _) (nls_map _)
    refine ⟨acc, e1, line_ok (by rw [e2, List.length_map, List.length_take, addR_len]; omega), ?_⟩
    rw [addR_take hi, List.map_append]
    exact h2
  · rw [List.take_of_length_le (by rw [addR_len]; exact Nat.le_refl _)] at h
    refine ⟨_, _, rfl, h.dp, fun H2 v s2 hv => q _ _ (h.sm.trans s2) hv⟩
end
end NB

set_option Elab.async false
set_option linter.all false
set_option maxRecDepth 100000
set_option maxHeartbeats 4000000
namespace NB
open PySem PySem.Spec PyProof.Rows L2
theorem ev_set (x y : Rat) : ∀ (p : Pl) (i : Nat), i < p.length → ev (p.set i y) x = ev p x + x ^ i * (y - co p i)
  | [], _, h => by simp at h
  | a :: p, 0, _ => by rw [List.set_cons_zero, ev_cons, ev_cons, co_zero, Rat.pow_zero]; grind
  | a :: p, i + 1, h => by
    have ih := ev_set x y p i (by simpa using h)
    rw [List.set_cons_succ, ev_cons, ev_cons, ih, co_succ, Rat.pow_succ]; grind
theorem ev_take_succ (x : Rat) {p : Pl} {j : Nat} (h : j < p.length) : ev (p.take (j + 1)) x = ev (p.take j) x + x ^ j * p[j] := by
  rw [List.take_add_one, List.getElem?_eq_getElem h, ev_append, List.length_take, Nat.min_eq_left (by omega)]
  simp only [Option.toList, ev]; grind
theorem co_set (p : Pl) (i j : Nat) (y : Rat) (h : i < p.length) : co (p.set i y) j = if j = i then y else co p j := by
  unfold co
  simp only [List.getD, List.getElem?_set]
  by_cases e : i = j
  · subst e; simp [h]
  · rw [if_neg e, if_neg (fun z => e z.symm)]
theorem ev_rep (x : Rat) : ∀ n : Nat, ev (List.replicate n 0) x = 0
  | 0 => rfl
  | n + 1 => by rw [List.replicate_succ, ev_cons, ev_rep x n]; grind
theorem szl_rep (k : Nat) (n : Nat) : SzL k (List.replicate n 0) := fun a ha => by rw [(List.mem_replicate.mp ha).2]; exact .zero _
section
variable {P : Program} {w : World} {K : PySem.W.Frag} {mg : Str → Option Value} {base : Heap}
/-! ### taken -/
def spTaken (K : PySem.W.Frag) : Sp := fun vs H Q _ => ∃ x y p r, vs = [x, y] ∧ Dp K H x (cD p) ∧ Dp K H y (cD r) ∧ p.length ≤ 100 ∧ r.length ≤ 100 ∧ (∀ a ∈ p, Sm a) ∧ (∀ a ∈ r, Sm a) ∧ Gives K H (cD (tak p r)) Q
theorem sc26 : FnScope ["one", "other"] ["one", "other"] (defScope (top 26)) := ⟨rfl, rfl, rfl, by decide +kernel, rfl, by decide +kernel, by decide +kernel⟩
theorem scl_sm {p : Pl} (h : ∀ a ∈ p, Sm a) : ∀ a ∈ scl (-1) p, Sm a := SzL.scl (a := LIM) (b := 0) h (Sz.one 0).neg
theorem scl_le (k : Rat) (p : Pl) : (scl k p).length ≤ p.length := by
  have := norm_len (sclR k p)
  rw [sclR_len] at this; exact this
theorem ok_taken (F : Df K mg "taken" 26) (cA : Cal P w K mg base 36 "added" (spAdded K)) (cS : Cal P w K mg base 36 "scaled" (spScaled K)) : Cal P w K mg base 37 "taken" (spTaken K) := by
  refine F.cal sc26 (fun _ _ _ _ _ _ us hl => match us, hl with | [_, _], _ => rfl) (fun vs H Q E h => ?_) (fun f cdv A outer s H vs Q E hr h => ?_)
  · obtain ⟨_, _, _, _, rfl, _⟩ := h; rfl
  obtain ⟨x, y, p, r, rfl, hx, hy, hp, hr', sp, sr, q⟩ := h
  refine ⟨_, pss_one (ps_ret (pe_c cA hr (by decide) (by rfl) (pa_cons (pv 0) (pa_cons (pe_c cS hr (by decide) (by rfl) (pa_cons (pv 1) (pa_cons (pe_tup (pa_cons (pe_un un_neg pe_int) (pa_cons pe_int pa_nil))) pa_nil))) pa_nil)))), ?_⟩
  refine ⟨_, rfl, _, rfl, _, rfl, by show 2 ≤ sizeLine; decide, fun t nt => ?_⟩
  have s0 : Same H (upd H t (.tup [.int (-1), .int 1])) := same_upd nt
  refine ⟨_, _, r, -1, rfl, dp_mono s0 hy, num_of (SqT.of upd_same), hr', sr, (Sz.one LIM).neg, fun H1 v s1 hv => ?_⟩
  refine ⟨_, _, p, scl (-1) r, rfl, dp_mono (s0.trans s1) hx, hv, hp, Nat.le_trans (scl_le _ _) hr', sp, scl_sm sr, fun H2 v2 s2 hv2 => q _ _ ((s0.trans s1).trans s2) hv2⟩

/-! ### product -/
def spProduct (K : PySem.W.Frag) : Sp := fun vs H Q _ => ∃ x y p r, vs = [x, y] ∧ Dp K H x (cD p) ∧ Dp K H y (cD r) ∧ p.length ≤ 50 ∧ r.length ≤ 50 ∧ (∃ a b, SzL a p ∧ SzL b r ∧ p.length * (a + b + 1) ≤ LIM ∧ a ≤ LIM ∧ b ≤ LIM) ∧ Gives K H (cD (mul p r)) Q
theorem sc27 : FnScope ["one", "other", "found", "j", "k"] ["one", "other"] (defScope (top 27)) := ⟨rfl, rfl, rfl, by decide +kernel, rfl, by decide +kernel, by decide +kernel⟩
structure PrIn (p r : Pl) (a b j k : Nat) (F : Pl) : Prop where
  len : F.length = p.length + r.length - 1
  val : ∀ x : Rat, ev F x = ev (p.take j) x * ev r x + x ^ j * (co p j * ev (r.take k) x)
  sz1 : ∀ i : Nat, Sz ((j + 1) * (a + b + 1)) (co F i)
  sz2 : ∀ i : Nat, j + k ≤ i → Sz (j * (a + b + 1)) (co F i)
theorem PrIn.next {p r : Pl} {a b j k : Nat} {F : Pl} (h : PrIn p r a b j k F) (hp : SzL a p) (hr : SzL b r) (hj : j < p.length) (hk : k < r.length) : PrIn p r a b j (k + 1) (F.set (j + k) (co F (j + k) + p[j] * r[k])) := by
  have hi : j + k < F.length := by rw [h.len]; omega
  refine ⟨by rw [List.length_set]; exact h.len, fun x => ?_, fun i => ?_, fun i hi2 => ?_⟩
  · rw [ev_set x _ F (j + k) hi, h.val, ev_take_succ x hk, co_lt hj, rpow_add]; grind
  · rw [co_set F _ i _ hi]
    split
    · have := (h.sz2 (j + k) (Nat.le_refl _)).add ((hp.get hj).mul (hr.get hk))
      exact this.mono (by rw [Nat.succ_mul]; omega)
    · exact h.sz1 i
  · rw [co_set F _ i _ hi, if_neg (by omega)]
    exact h.sz2 i (by omega)
theorem rep_flat (n : Nat) (v : V) : (List.replicate n [v]).flatten = List.replicate n v := by
  induction n with
  | zero => rfl
  | succ n ih => rw [List.replicate_succ, List.flatten_cons, ih, List.replicate_succ]; rfl
theorem ok_product (F : Df K mg "product" 27) (B : Bl mg) (k0 : KN K mg "NOUGHT_curves" 0) (cW : Cal P w K mg base 33 "without_noughts" (spWN K)) (cP : Cal P w K mg base 35 "plus" (spPlus K)) (cT : Cal P w K mg base 35 "times" (spTimes K)) : Cal P w K mg base 36 "product" (spProduct K) := by
  refine F.cal sc27 (fun _ _ _ _ _ _ us hl => match us, hl with | [_, _], _ => rfl) (fun vs H Q E h => ?_) (fun f cdv A outer s H vs Q E hr h => ?_)
  · obtain ⟨_, _, _, _, rfl, _⟩ := h; rfl
  obtain ⟨x, y, p, r, rfl, hx, hy, hp, hr', ⟨a, b, sp, sr, hL, haL, hbL⟩, q⟩ := h
  obtain ⟨ad, vs, rfl, hs, hn⟩ := cur_inv hx
  obtain ⟨bd, us, rfl, ht, hm⟩ := cur_inv hy
  have hl := nums_len hn
  have hl2 := nums_len hm
  obtain ⟨a0, hm0, h0⟩ := k0
  refine ⟨_, pss_cons (ps_set (i := 2) sc27.nd rfl (.inl rfl) (pe_op op_rep (pe_lst (pa_cons (pe_gc (v := .ref a0) (by rfl) ⟨_, hm0, rfl⟩) pa_nil)) (pe_callB (call_max2 rfl) (by rfl) B.max (by decide +kernel) (pa_cons pe_int (pa_cons (pe_op op_sub (pe_op op_add (pe_callB call_len_seq (by rfl) B.len PySem.boot_len (pa_cons (pv 0) pa_nil)) (pe_callB call_len_seq (by rfl) B.len PySem.boot_len (pa_cons (pv 1) pa_nil))) pe_int) pa_nil)))))
    (pss_cons (ps_for PassesOwn.never rfl (pi_range1 rfl B.range (pa_cons (pe_callB call_len_seq (by rfl) B.len PySem.boot_len (pa_cons (pv 0) pa_nil)) pa_nil)) (pg_name (i := 3) sc27.nd rfl (.inl rfl))
      (pss_one (ps_for PassesOwn.never rfl (pi_range1 rfl B.range (pa_cons (pe_callB call_len_seq (by rfl) B.len PySem.boot_len (pa_cons (pv 1) pa_nil)) pa_nil)) (pg_name (i := 4) sc27.nd rfl (.inl rfl))
        (pss_one (ps_asg (pe_c cP hr (by decide) (by rfl) (pa_cons (pe_ix ix_list (pv 2) (pe_op op_add (pv 3) (pv 4)) (fun _ _ => rfl)) (pa_cons (pe_c cT hr (by decide) (by rfl) (pa_cons (pe_ix ix_tup (pv 0) (pv 3) (fun _ _ => rfl)) (pa_cons (pe_ix ix_tup (pv 1) (pv 4) (fun _ _ => rfl)) pa_nil))) pa_nil)))
          (pg_sub (pv 2) (pe_op op_add (pv 3) (pv 4)) set_list))))))
    (pss_one (ps_ret (pe_c cW hr (by decide) (by rfl) (pa_cons (pv 2) pa_nil))))), ?_⟩
  -- found = [NOUGHT] * max(0, ..)
  refine ⟨by show 1 ≤ sizeLine; decide, fun l hl' => ?_⟩
  have s0 : Same H (upd H l (.lst [.ref a0])) := same_upd hl'
  refine ⟨_, rfl, ad, vs, rfl, .inr (sqT_mono s0 hs), _, rfl, bd, us, rfl, .inr (sqT_mono s0 ht), _, _, rfl, rfl, _, _, rfl, rfl, _, _, rfl, ?_⟩
  have em : (if (vs.length : Int) + (us.length : Int) - 1 > 0 then (vs.length : Int) + (us.length : Int) - 1 else 0) = ((p.length + r.length - 1 : Nat) : Int) := by split <;> omega
  rw [em]
  refine ⟨l, _, _, rfl, rfl, upd_same, by omega, by omega, ?_, fun D dn => ?_⟩
  · show 1 * (((p.length + r.length - 1 : Nat) : Int)).toNat ≤ sizeLine
    exact line_le (by omega)
  have hD : H D = none := s0.free dn
  have sD := same_upd (o := .lst ((List.replicate (((p.length + r.length - 1 : Nat) : Int)).toNat [V.ref a0]).flatten)) dn
  have acc0 : Acc K H D (upd (upd H l (.lst [.ref a0])) D (.lst ((List.replicate (((p.length + r.length - 1 : Nat) : Int)).toNat [V.ref a0]).flatten))) ((List.replicate (p.length + r.length - 1) 0).map nD) := by
    refine ⟨s0.trans sD, _, upd_same, ?_⟩
    rw [rep_flat]
    exact nums_rep (h0 _) _
  refine ⟨_, rfl, ad, vs, rfl, .inr (sqT_mono (s0.trans sD) hs), _, rfl, by omega, by omega, ?_⟩
  refine for_range (lo := 0) (n := vs.length) (fun j σ H1 => ∃ (F : Pl) (y3 y4 : Option V), σ = [some (.ref ad), some (.ref bd), some (.ref D), y3, y4] ∧ Acc K H D H1 (F.map nD) ∧ F.length = p.length + r.length - 1 ∧ (∀ x : Rat, ev F x = ev (p.take j) x * ev r x) ∧ SzL (j * (a + b + 1)) F) ?_ (fun j σ H1 hj h => ?_) (fun σ H1 h => ?_)
  · exact ⟨_, none, none, rfl, acc0, by rw [List.length_replicate], fun x => by rw [ev_rep]; simp only [List.take_zero, ev]; grind, szl_rep _ _⟩
  · obtain ⟨F, y3, y4, rfl, hA, hF, hv, hz⟩ := h
    rw [hl] at hj
    rw [show (0 : Int) + (j : Nat) = ((j : Nat) : Int) by omega]
    refine ⟨_, rfl, bd, us, rfl, .inr (sqT_mono hA.sm ht), _, rfl, by omega, by omega, ?_⟩
    refine for_range (lo := 0) (n := us.length) (fun k σ H1 => ∃ (F : Pl) (y4 : Option V), σ = [some (.ref ad), some (.ref bd), some (.ref D), some (.int (j : Nat)), y4] ∧ Acc K H D H1 (F.map nD) ∧ PrIn p r a b j k F) ?_ (fun k σ H1 hk h => ?_) (fun σ H1 h => ?_)
    · refine ⟨F, y4, rfl, hA, hF, fun x => ?_, fun i => (hz.co i).mono (Nat.mul_le_mul_right _ (by omega)), fun i _ => hz.co i⟩
      rw [hv, List.take_zero, ev_nil]; grind
    · obtain ⟨F, y4, rfl, hA, hI⟩ := h
      rw [hl2] at hk
      rw [show (0 : Int) + (k : Nat) = ((k : Nat) : Int) by omega]
      obtain ⟨acc, e1, n1⟩ := hA.ex
      have hi : j + k < F.length := by rw [hI.len]; omega
      obtain ⟨v, hv1, hv2⟩ := nums_get n1 hi
      obtain ⟨v3, hv3, hv4⟩ := nums_get hn hj
      obtain ⟨v5, hv5, hv6⟩ := nums_get hm hk
      have hb1 : (j + 1) * (a + b + 1) ≤ LIM := Nat.le_trans (Nat.mul_le_mul_right _ (by omega)) hL
      have hb2 : j * (a + b + 1) ≤ LIM := Nat.le_trans (Nat.mul_le_mul_right _ (by omega)) hL
      have hb3 : 1 * (a + b + 1) ≤ LIM := Nat.le_trans (Nat.mul_le_mul_right _ (by omega)) hL
      rw [← co_lt hi] at hv2
      refine ⟨_, rfl, _, rfl, _, rfl, _, _, rfl, rfl, D, acc, _, v, rfl, rfl, SqL.of e1, ?_, ?_⟩
      · show atI acc ((j : Int) + (k : Int)) = some v
        rw [show (j : Int) + (k : Int) = ((j + k : Nat) : Int) by omega]; exact atI_nat hv1
      refine ⟨_, rfl, _, rfl, ad, vs, _, v3, rfl, rfl, sqT_mono hA.sm hs, atI_nat hv3, _, rfl, _, rfl, bd, us, _, v5, rfl, rfl, sqT_mono hA.sm ht, atI_nat hv5, ?_⟩
      refine ⟨_, _, _, _, rfl, dp_mono hA.sm hv4, dp_mono hA.sm hv6, ⟨(sp.get hj).sm haL, (sr.get hk).sm hbL⟩, fun H2 w2 s2 hw2 => ?_⟩
      refine ⟨_, _, _, _, rfl, dp_mono s2 hv2, hw2, ⟨(hI.sz2 (j + k) (Nat.le_refl _)).sm hb2, ((sp.get hj).mul (sr.get hk)).sm (by omega)⟩, fun H3 w3 s3 hw3 => ?_⟩
      obtain ⟨acc2, e2, l2, h2⟩ := hA.set (s2.trans s3) hD hw3 (nl_nD _) (nls_map _) (j + k)
      rw [List.length_map] at l2
      refine ⟨_, rfl, _, rfl, _, rfl, _, _, rfl, rfl, D, acc2, _, j + k, rfl, rfl, e2, ?_, F.set (j + k) (co F (j + k) + p[j] * r[k]), some (.int (k : Nat)), rfl, ?_, hI.next sp sr hj hk⟩
      · show ixN acc2.length ((j : Int) + (k : Int)) = some (j + k)
        rw [l2]
        unfold ixN
        rw [if_pos (by omega), if_pos (by omega)]
        congr 1
      · rw [List.map_set]; exact h2
    · obtain ⟨F, y4, rfl, hA, hI⟩ := h
      rw [hl2] at hI
      refine ⟨F, _, y4, rfl, hA, hI.len, fun x => ?_, SzL.of_co hI.sz1⟩
      rw [hI.val, List.take_length, ev_take_succ x hj, co_lt hj]; grind
  · obtain ⟨F, y3, y4, rfl, hA, hF, hv, hz⟩ := h
    rw [hl, List.take_length] at hv
    refine ⟨_, rfl, _, F, rfl, hA.dp, fun H2 v s2 hv2 => q _ _ (hA.sm.trans s2) ?_⟩
    have e : norm F = mul p r := ident (Norm_norm _) (Norm_mul _ _) fun x => by rw [ev_norm, hv, ev_mul]
    rw [← e]; exact hv2
end
end NB

set_option Elab.async false
set_option linter.all false
set_option maxRecDepth 100000
set_option maxHeartbeats 4000000
namespace NB
open PySem PySem.Spec PyProof.Rows L2
theorem norm_mul (p r : Pl) : norm (mul p r) = mul p r := norm_of_Norm (Norm_mul p r)
theorem movN_mono (b c : Nat) {m n : Nat} (h : m ≤ n) : movN b c m ≤ movN b c n := by
  induction h with
  | refl => exact Nat.le_refl _
  | step h ih => exact Nat.le_trans ih (by simp only [movN]; omega)
theorem Norm_drop : ∀ {p : Pl} (k : Nat), Norm p → Norm (p.drop k)
  | p, 0, h => by rw [List.drop_zero]; exact h
  | [], k + 1, h => by rw [List.drop_nil]; exact h
  | a :: p, k + 1, h => by rw [List.drop_succ_cons]; exact Norm_drop k (Norm_tail h)
theorem num_nat (k : Nat) : ((k : Nat) : Rat).num = (k : Int) := Rat.num_natCast k
theorem den_nat (k : Nat) : ((k : Nat) : Rat).den = 1 := Rat.den_natCast k
theorem slp_take {p : Pl} {i : Nat} (hi : i < p.length - 1) : (slp p).take (i + 1) = (slp p).take i ++ [co p (i + 1) * ((1 + i : Nat) : Rat)] := by
  rw [List.take_add_one, List.getElem?_eq_getElem (by rw [slp_len]; exact hi)]
  rw [← co_slp, co_lt (by rw [slp_len]; exact hi)]
  rfl
theorem co_strF {k : Rat} : ∀ (p : Pl) (b : Rat) (i : Nat), co (strF p k b) i = co p i / (b * k ^ i)
  | [], b, i => by simp only [strF, co_nil]; grind
  | a :: p, b, 0 => by simp only [strF, co_zero]; rw [Rat.pow_zero]; grind
  | a :: p, b, i + 1 => by
    simp only [strF, co_succ]
    rw [co_strF p (b * k) i, Rat.pow_succ]
    congr 1; grind
theorem str_take {p : Pl} {k : Rat} {i : Nat} (hi : i < p.length) : (str p k).take (i + 1) = (str p k).take i ++ [p[i] / k ^ i] := by
  rw [List.take_add_one, List.getElem?_eq_getElem (by rw [str_len]; exact hi)]
  have e : co (str p k) i = p[i] / k ^ i := by
    rw [str, co_strF, co_lt hi]
    congr 1; grind
  rw [← e, co_lt (by rw [str_len]; exact hi)]
  rfl
theorem Sz.pow {c : Nat} {k : Rat} (h : Sz c k) : ∀ i : Nat, Sz (i * c) (k ^ i)
  | 0 => by rw [Rat.pow_zero]; exact .one _
  | i + 1 => by rw [Rat.pow_succ, Nat.succ_mul]; exact (Sz.pow h i).mul h
section
variable {P : Program} {w : World} {K : PySem.W.Frag} {mg : Str → Option Value} {base : Heap}
def spCurveOfT (K : PySem.W.Frag) : Sp := fun vs H Q _ => ∃ x p, vs = [x] ∧ Dp K H x (cD p) ∧ (norm p).length ≤ 13 ∧ Gives K H (cD (norm p)) Q
theorem ok_curve_ofT (F : Df K mg "curve_of" 21) (B : Bl mg) (kM : KI mg "MOST_NUMBERS" 13) (cW : Cal P w K mg base 33 "without_noughts" (spWNt K)) : Cal P w K mg base 34 "curve_of" (spCurveOfT K) := by
  refine F.cal sc21 (fun _ _ _ _ _ _ us hl => match us, hl with | [_], _ => rfl) (fun vs H Q E h => ?_) (fun f cdv A outer s H vs Q E hr h => ?_)
  · obtain ⟨a, _, rfl, _⟩ := h; rfl
  obtain ⟨x, p, rfl, hx, h13, q⟩ := h
  refine ⟨_, pss_cons (ps_set (i := 1) sc21.nd rfl (.inl rfl) (pe_c cW hr (by decide) (by rfl) (pa_cons (pv 0) pa_nil)))
    (pss_cons (ps_if (pt_cmpR op_gt (pe_callB call_len_seq (by rfl) B.len PySem.boot_len (pa_cons (pv 1) pa_nil)) (pe_gc (by rfl) kM) (nomark _)) pss_never pss_nil)
    (pss_one (ps_ret (pv 1)))), ?_⟩
  refine ⟨_, rfl, _, p, rfl, hx, fun H1 v s1 hv => ?_⟩
  obtain ⟨b, vs', rfl, hs, hn⟩ := cur_inv hv
  have hl := nums_len hn
  refine ⟨_, rfl, b, vs', rfl, .inr hs, _, _, rfl, rfl, _, rfl, ite2 (fun e => ?_) (fun _ => ⟨_, rfl, q _ _ s1 hv⟩)⟩
  have : (13 : Int) < vs'.length := of_decide_eq_true e
  omega
/-! ### multiplied -/
def spMultiplied (K : PySem.W.Frag) : Sp := fun vs H Q _ => ∃ x y p r, vs = [x, y] ∧ Dp K H x (cD p) ∧ Dp K H y (cD r) ∧ p.length ≤ 50 ∧ r.length ≤ 50 ∧ (∃ a b, SzL a p ∧ SzL b r ∧ p.length * (a + b + 1) ≤ LIM ∧ a ≤ LIM ∧ b ≤ LIM) ∧ (mul p r).length ≤ 13 ∧ Gives K H (cD (mul p r)) Q
theorem sc28 : FnScope ["one", "other"] ["one", "other"] (defScope (top 28)) := ⟨rfl, rfl, rfl, by decide +kernel, rfl, by decide +kernel, by decide +kernel⟩
theorem ok_multiplied (F : Df K mg "multiplied" 28) (cC : Cal P w K mg base 34 "curve_of" (spCurveOfT K)) (cP : Cal P w K mg base 36 "product" (spProduct K)) : Cal P w K mg base 37 "multiplied" (spMultiplied K) := by
  refine F.cal sc28 (fun _ _ _ _ _ _ us hl => match us, hl with | [_, _], _ => rfl) (fun vs H Q E h => ?_) (fun f cdv A outer s H vs Q E hr h => ?_)
  · obtain ⟨_, _, _, _, rfl, _⟩ := h; rfl
  obtain ⟨x, y, p, r, rfl, hx, hy, hp, hr', hsz, h13, q⟩ := h
  refine ⟨_, pss_one (ps_ret (pe_c cC hr (by decide) (by rfl) (pa_cons (pe_c cP hr (by decide) (by rfl) (pa_cons (pv 0) (pa_cons (pv 1) pa_nil))) pa_nil))), ?_⟩
  refine ⟨_, rfl, _, rfl, _, _, p, r, rfl, hx, hy, hp, hr', hsz, fun H1 v s1 hv => ?_⟩
  refine ⟨_, mul p r, rfl, hv, by rw [norm_mul]; exact h13, fun H2 v2 s2 hv2 => q _ _ (s1.trans s2) ?_⟩
  rw [norm_mul] at hv2; exact hv2
/-! ### slope -/
def spSlope (K : PySem.W.Frag) : Sp := fun vs H Q _ => ∃ x p, vs = [x] ∧ Dp K H x (cD p) ∧ p.length ≤ 100 ∧ (∀ a ∈ p, Sm a) ∧ Gives K H (cD (slp p)) Q
theorem sc29 : FnScope ["curve", "k"] ["curve"] (defScope (top 29)) := ⟨rfl, rfl, rfl, by decide +kernel, rfl, by decide +kernel, by decide +kernel⟩
theorem ok_slope (F : Df K mg "slope" 29) (B : Bl mg) (cT : Cal P w K mg base 35 "times" (spTimes K)) : Cal P w K mg base 36 "slope" (spSlope K) := by
  refine F.cal sc29 (fun _ _ _ _ _ _ us hl => match us, hl with | [_], _ => rfl) (fun vs H Q E h => ?_) (fun f cdv A outer s H vs Q E hr h => ?_)
  · obtain ⟨_, _, rfl, _⟩ := h; rfl
  obtain ⟨x, p, rfl, hx, hp, sp, q⟩ := h
  obtain ⟨a, vs, rfl, hs, hn⟩ := cur_inv hx
  have hl := nums_len hn
  refine ⟨_, pss_one (ps_ret (pe_callTy call_tuple_of (by rfl) B.tuple (by decide +kernel) (pa_cons (pe_lc (own := [("k", 1)]) (g := gName 1) (tt := tYes) rfl sc29.nd (pi_range2 rfl B.range (pa_cons pe_int (pa_cons (pe_callB call_len_seq (by rfl) B.len PySem.boot_len (pa_cons (pv 0) pa_nil)) pa_nil))) (blkOk_by (N := ["curve", "k"]) (sc := defScope (top 29)) (by decide +kernel))
    (fun _ _ _ _ _ => pg_name (i := 1) sc29.nd rfl (.inl rfl)) (fun _ _ _ _ _ => pts_nil) (fun _ _ _ _ _ => pe_c cT hr (by decide) (by rfl) (pa_cons (pe_ix (r := rIxT K) ix_tup (pv 0) (pv 1) (fun _ _ => rfl)) (pa_cons (pe_tup (pa_cons (pv 1) (pa_cons pe_int pa_nil))) pa_nil)))) pa_nil))), ?_⟩
  refine ⟨_, rfl, a, vs, rfl, .inr hs, 1, _, rfl, ⟨by omega, by omega, by omega, by omega⟩, fun D dn => ?_⟩
  refine lc_range (lo := 1) (n := ((vs.length : Int) - 1).toNat) (fun i H1 => Acc K H D H1 (((slp p).take i).map nD)) (.start dn) (fun i H1 hi h => ?_) (fun H1 h => ?_)
  · have hi2 : i < p.length - 1 := by omega
    obtain ⟨v, hv, hv2⟩ := nums_get hn (i := i + 1) (by omega)
    rw [show (1 : Int) + (i : Nat) = ((1 + i : Nat) : Int) by omega]
    refine ⟨rfl, tYes_of ?_⟩
    refine ⟨_, rfl, _, rfl, a, vs, _, v, rfl, rfl, sqT_mono h.sm hs, atI_nat (by rw [Nat.add_comm]; exact hv), _, rfl, by show 2 ≤ sizeLine; decide, fun t nt => ?_⟩
    have s0 : Same H1 (upd H1 t (.tup [.int ((1 + i : Nat) : Int), .int 1])) := same_upd nt
    refine ⟨_, _, p[i + 1], ((1 + i : Nat) : Rat), rfl, dp_mono (h.sm.trans s0) hv2, num_of (SqT.of ?_), ⟨sp _ (List.getElem_mem (by omega)), (Sz.nat (n := LIM) ?_)⟩, fun H2 v2 s2 hv3 => ?_⟩
    · rw [num_nat, den_nat]; exact upd_same
    · have : 1 + i ≤ 2 ^ 7 := by omega
      refine Nat.le_trans this (Nat.pow_le_pow_right (by omega) ?_)
      rw [LIM_eq]; omega
    obtain ⟨acc, e1, e2, h2⟩ := h.push (s0.trans s2) dn hv3 (nl_nD _) (nls_map _)
    refine ⟨acc, e1, line_ok (by rw [e2, List.length_map, List.length_take, slp_len]; omega), ?_⟩
    rw [slp_take hi2, List.map_append, co_lt (by omega)]
    exact h2
  · rw [List.take_of_length_le (by rw [slp_len]; omega)] at h
    obtain ⟨acc, e1, n1⟩ := h.ex
    refine ⟨D, acc, rfl, .inl ⟨SqL.of e1, fun t nt => ?_⟩⟩
    have s0 := same_upd (o := .tup acc) nt
    exact q _ _ (h.sm.trans s0) (.tup (SqT.of upd_same) (dpa_mono s0 n1))
/-! ### moved -/
def spMoved (K : PySem.W.Frag) : Sp := fun vs H Q _ => ∃ x y p c, vs = [x, y] ∧ Dp K H x (cD p) ∧ Num K H y c ∧ Norm p ∧ p.length ≤ 12 ∧ (∃ a b, SzL a p ∧ Sz b c ∧ p.length * (movN a b p.length + b + 1) ≤ LIM ∧ a ≤ LIM ∧ b ≤ LIM) ∧ Gives K H (cD (mov p c)) Q
theorem sc30 : FnScope ["curve", "c", "found", "one"] ["curve", "c"] (defScope (top 30)) := ⟨rfl, rfl, rfl, by decide +kernel, rfl, by decide +kernel, by decide +kernel⟩
theorem ok_moved (F : Df K mg "moved" 30) (B : Bl mg) (k1 : KN K mg "ONE_curves" 1) (cA : Cal P w K mg base 36 "added" (spAdded K)) (cP : Cal P w K mg base 36 "product" (spProduct K)) (cW : Cal P w K mg base 33 "without_noughts" (spWN K)) : Cal P w K mg base 37 "moved" (spMoved K) := by
  refine F.cal sc30 (fun _ _ _ _ _ _ us hl => match us, hl with | [_, _], _ => rfl) (fun vs H Q E h => ?_) (fun f cdv A outer s H vs Q E hr h => ?_)
  · obtain ⟨_, _, _, _, rfl, _⟩ := h; rfl
  obtain ⟨x, y, p, c, rfl, hx, hy, hN, h12, ⟨sa, sb, sp, sc, hL, haL, hbL⟩, q⟩ := h
  obtain ⟨ad, vs, rfl, hs, hn⟩ := cur_inv hx
  obtain ⟨cd, rfl, hc⟩ := num_inv hy
  have hl := nums_len hn
  obtain ⟨a1, hm1, h1⟩ := k1
  refine ⟨_, pss_cons (ps_set (i := 2) sc30.nd rfl (.inl rfl) (pe_tup pa_nil))
    (pss_cons (ps_for PassesOwn.never rfl (RT.pi_revA (by rfl) B.reversed (pv 0)) (pg_name (i := 3) sc30.nd rfl (.inl rfl))
      (pss_one (ps_set (i := 2) sc30.nd rfl (.inl rfl) (pe_c cA hr (by decide) (by rfl) (pa_cons (pe_c cP hr (by decide) (by rfl) (pa_cons (pv 2) (pa_cons (pe_tup (pa_cons (pe_tup (pa_cons (pe_un un_neg (ixT (j := 1) rfl (.inl rfl))) (pa_cons (ixT (j := 1) rfl (.inl rfl)) pa_nil))) (pa_cons (pe_gc (v := .ref a1) (by rfl) ⟨_, hm1, rfl⟩) pa_nil))) pa_nil)))
        (pa_cons (pe_c cW hr (by decide) (by rfl) (pa_cons (pe_lst (pa_cons (pv 3) pa_nil)) pa_nil)) pa_nil))))))
    (pss_one (ps_ret (pv 2)))), ?_⟩
  refine ⟨Nat.zero_le _, fun e ne => ?_⟩
  have se : Same H (upd H e (.tup [])) := same_upd ne
  refine ⟨_, rfl, ad, vs, rfl, .inr ⟨sqT_mono se hs, RT.for_ItvT (fun i σ H1 => ∃ v y3, i ≤ p.length ∧ σ = [some (.ref ad), some (.ref cd), some v, y3] ∧ Same H H1 ∧ Dp K H1 v (cD (mov (p.drop (p.length - i)) c))) ?_ (fun i σ H1 h => ?_) (fun i z σ H1 hi hz h => ?_) (fun σ H1 h => ?_)⟩⟩
  · refine ⟨_, none, Nat.zero_le _, rfl, se, ?_⟩
    rw [Nat.sub_zero, List.drop_length]
    exact .tup (SqT.of upd_same) .nil
  · obtain ⟨v, y3, _, rfl, s1, _⟩ := h
    exact sqT_mono s1 hs
  · obtain ⟨v, y3, hip, rfl, s1, hv⟩ := h
    rw [hl] at hi hz
    obtain ⟨hj, hz2⟩ := nums_get' hn hz
    have hdl : (p.drop (p.length - i)).length = i := by rw [List.length_drop]; omega
    have hml : (mov (p.drop (p.length - i)) c).length = i := by rw [mov_len c _ (Norm_drop _ hN), hdl]
    have szm := SzL.mov sc (sp.drop (p.length - i))
    rw [hdl] at szm
    have hmono := movN_mono sa sb (m := i) (n := p.length) (by omega)
    have hmono1 := movN_mono sa sb (m := i + 1) (n := p.length) (by omega)
    have hline : SzL sb [-c, 1] := .cons sc.neg (.cons (.one _) (.nil _))
    have hb0 : 1 * (movN sa sb p.length + sb + 1) ≤ LIM := Nat.le_trans (Nat.mul_le_mul_right _ (by omega)) hL
    have hb1 : i * (movN sa sb i + sb + 1) ≤ LIM := Nat.le_trans (Nat.mul_le_mul (by omega) (by omega)) hL
    simp only [movN] at hmono1
    -- the tuple ((-c, 1))
    refine ⟨_, rfl, _, rfl, cd, _, 0, _, rfl, rfl, sqT_mono s1 hc, it0, _, rfl, _, rfl, cd, _, 1, _, rfl, rfl, sqT_mono s1 hc, it1, by show 2 ≤ sizeLine; decide, fun t nt => ?_⟩
    have s2 : Same H1 (upd H1 t (.tup [.int (-c.num), .int c.den])) := same_upd nt
    refine ⟨by show 2 ≤ sizeLine; decide, fun u nu => ?_⟩
    have s3 := same_upd (o := .tup [.ref t, .ref a1]) nu
    have hnt : Num K (upd (upd H1 t (.tup [.int (-c.num), .int c.den])) u (.tup [.ref t, .ref a1])) (.ref t) (-c) := dp_mono s3 (num_of (SqT.of upd_same))
    refine ⟨_, _, mov (p.drop (p.length - i)) c, [-c, 1], rfl, dp_mono (s2.trans s3) hv, .tup (SqT.of upd_same) (.cons hnt (.cons (h1 _) .nil)), by omega, by simp, ⟨_, sb, szm, hline, by rw [hml]; exact hb1, by omega, by omega⟩, fun H2 v2 s4 hv2 => ?_⟩
    have s5 := ((s1.trans s2).trans s3).trans s4
    refine ⟨_, rfl, by show 1 ≤ sizeLine; decide, fun l nl' => ?_⟩
    have s6 := same_upd (o := .lst [z]) nl'
    refine ⟨_, [p[p.length - 1 - i]], rfl, .lst (SqL.of upd_same) (.cons (dp_mono (s5.trans s6) hz2) .nil), fun H3 v3 s7 hv3 => ?_⟩
    have hmm := SzL.mul' szm hline
    simp only [List.length_cons, List.length_nil] at hmm
    refine ⟨_, _, mul (mov (p.drop (p.length - i)) c) [-c, 1], norm [p[p.length - 1 - i]], rfl, dp_mono (s6.trans s7) hv2, hv3, ?_, ?_, fun a ha => (hmm a ha).sm (by omega), fun a ha => ?_, fun H4 v4 s8 hv4 => ?_⟩
    · have h1 := norm_len (mulR (mov (p.drop (p.length - i)) c) [-c, 1])
      by_cases hne : mov (p.drop (p.length - i)) c = []
      · rw [hne]; show 0 ≤ 100; omega
      · have h2 := mulR_len (mov (p.drop (p.length - i)) c) [-c, 1] (by simp) hne
        rw [h2, hml] at h1
        simp only [List.length_cons, List.length_nil] at h1
        show (norm _).length ≤ 100
        omega
    · exact Nat.le_trans (norm_len _) (by simp)
    · have := norm_sub _ _ ha
      have e : a = p[p.length - 1 - i] := by simpa using this
      rw [e]; exact (sp.get hj).sm haL
    · refine ⟨v4, some z, by omega, rfl, ((s5.trans s6).trans s7).trans s8, ?_⟩
      rw [drop_step (by omega), mov]
      exact hv4
  · obtain ⟨v, y3, _, rfl, s1, hv⟩ := h
    rw [hl, Nat.sub_self, List.drop_zero] at hv
    exact ⟨_, rfl, q _ _ s1 hv⟩
/-! ### stretched -/
def spStretched (K : PySem.W.Frag) : Sp := fun vs H Q _ => ∃ x y p k, vs = [x, y] ∧ Dp K H x (cD p) ∧ Num K H y k ∧ k ≠ 0 ∧ p.length ≤ 50 ∧ (∃ a c, SzL a p ∧ Sz c k ∧ a + p.length * c ≤ LIM ∧ c ≤ LIM) ∧ Gives K H (cD (str p k)) Q
theorem sc31 : FnScope ["curve", "k", "found", "by", "one"] ["curve", "k"] (defScope (top 31)) := ⟨rfl, rfl, rfl, by decide +kernel, rfl, by decide +kernel, by decide +kernel⟩
theorem pow_ne {k : Rat} (h : k ≠ 0) : ∀ i : Nat, k ^ i ≠ 0
  | 0 => by rw [Rat.pow_zero]; grind
  | i + 1 => fun e => h ((pow_eq_zero i).mp e)
theorem ok_stretched (F : Df K mg "stretched" 31) (B : Bl mg) (k1 : KN K mg "ONE_curves" 1) (cO : Cal P w K mg base 35 "over" (spOver K)) (cT : Cal P w K mg base 35 "times" (spTimes K)) : Cal P w K mg base 36 "stretched" (spStretched K) := by
  refine F.cal sc31 (fun _ _ _ _ _ _ us hl => match us, hl with | [_, _], _ => rfl) (fun vs H Q E h => ?_) (fun f cdv A outer s H vs Q E hr h => ?_)
  · obtain ⟨_, _, _, _, rfl, _⟩ := h; rfl
  obtain ⟨x, y, p, k, rfl, hx, hy, k0, h50, ⟨sa, sc, sp, sk, hL, hcL⟩, q⟩ := h
  obtain ⟨ad, vs, rfl, hs, hn⟩ := cur_inv hx
  obtain ⟨kd, rfl, hk⟩ := num_inv hy
  have hl := nums_len hn
  obtain ⟨a1, hm1, h1⟩ := k1
  refine ⟨_, pss_cons (ps_if (pt_cmpR op_eq (ixT (j := 1) rfl (.inl rfl)) pe_int (nomark _)) pss_never pss_nil)
    (pss_cons (ps_set (i := 2) sc31.nd rfl (.inl rfl) (pe_lst pa_nil))
    (pss_cons (ps_set (i := 3) sc31.nd rfl (.inl rfl) (pe_gc (v := .ref a1) (by rfl) ⟨_, hm1, rfl⟩))
    (pss_cons (ps_for PassesOwn.never rfl (pi_tup (pv 0)) (pg_name (i := 4) sc31.nd rfl (.inl rfl))
      (pss_cons (ps_expr (pe_bm PySem.F.plainAttrs_list PySem.F.slot_list_append PySem.F.type_list_append mt_append (pv 2) (pa_cons (pe_c cO hr (by decide) (by rfl) (pa_cons (pv 4) (pa_cons (pv 3) pa_nil))) pa_nil)))
      (pss_one (ps_set (i := 3) sc31.nd rfl (.inl rfl) (pe_c cT hr (by decide) (by rfl) (pa_cons (pv 3) (pa_cons (pv 1) pa_nil)))))))
    (pss_one (ps_ret (pe_callTy call_tuple_of (by rfl) B.tuple (by decide +kernel) (pa_cons (pv 2) pa_nil))))))), ?_⟩
  refine ⟨_, rfl, kd, _, 0, _, rfl, rfl, hk, it0, rfl, _, rfl, ite2 (fun e => absurd (Rat.num_eq_zero.mp (V.int.inj (of_decide_eq_true e))) k0) (fun _ => ?_)⟩
  refine ⟨Nat.zero_le _, fun D dn => ?_⟩
  refine ⟨_, rfl, ad, rfl, ⟨_, sqT_mono (same_upd dn) hs⟩, for_tup (K := K) (a := ad) (xs := vs) (fun i σ H1 => ∃ v y4, i ≤ p.length ∧ σ = [some (.ref ad), some (.ref kd), some (.ref D), some v, y4] ∧ Acc K H D H1 (((str p k).take i).map nD) ∧ Num K H1 v (k ^ i)) ?_ (fun i σ H1 _ h => ?_) (fun i z σ H1 hz h => ?_) (fun σ H1 h => ?_)⟩
  · exact ⟨_, none, Nat.zero_le _, rfl, .start dn, by rw [Rat.pow_zero]; exact h1 _⟩
  · obtain ⟨v, y4, _, rfl, hA, _⟩ := h
    exact sqT_mono hA.sm hs
  · obtain ⟨v, y4, hip, rfl, hA, hv⟩ := h
    obtain ⟨hj, hz2⟩ := nums_get' hn hz
    obtain ⟨acc0, e0, n0⟩ := hA.ex
    have hpi := Sz.pow sk i
    have hb : (i + 1) * sc ≤ p.length * sc := Nat.mul_le_mul_right _ (by omega)
    rw [Nat.succ_mul] at hb
    refine ⟨_, rfl, .inl ⟨rfl, _, .inl (.inl e0)⟩, _, rfl, _, rfl, _, _, _, _, rfl, dp_mono hA.sm hz2, hv, ⟨⟨(sp.get hj).sm (by omega), hpi.sm (by omega)⟩, pow_ne k0 i⟩, fun H2 v2 s2 hv2 => ?_⟩
    obtain ⟨acc, e1, e2, h2⟩ := hA.push s2 dn hv2 (nl_nD _) (nls_map _)
    refine ⟨D, acc, _, rfl, rfl, e1, line_ok (by rw [e2, List.length_map, List.length_take]; omega), ?_⟩
    have hv' : Num K (upd H2 D (.lst (acc ++ [v2]))) v (k ^ i) := dp_keep e1 (dp_mono s2 hv) (nl_nD _)
    refine ⟨_, rfl, _, rfl, _, _, _, _, rfl, hv', dp_mono h2.sm hy, ⟨hpi.sm (by omega), sk.sm hcL⟩, fun H3 v3 s3 hv3 => ?_⟩
    refine ⟨v3, some z, by omega, rfl, ?_, by rw [Rat.pow_succ]; exact hv3⟩
    rw [str_take hj, List.map_append]
    exact h2.up s3
  · obtain ⟨v, y4, _, rfl, hA, _⟩ := h
    rw [hl, List.take_of_length_le (by rw [str_len]; exact Nat.le_refl _)] at hA
    obtain ⟨acc, e1, n1⟩ := hA.ex
    refine ⟨_, rfl, D, acc, rfl, .inl ⟨SqL.of e1, fun t nt => ?_⟩⟩
    have s0 := same_upd (o := .tup acc) nt
    exact q _ _ (hA.sm.trans s0) (.tup (SqT.of upd_same) (dpa_mono s0 n1))
end
end NB

set_option Elab.async false
set_option linter.all false
set_option maxRecDepth 100000
set_option maxHeartbeats 4000000
namespace NB
open PySem PySem.Spec PyProof.Rows L2
/-! ### data compared -/
theorem nD_lay (q : Rat) : (nD q).canLay0 = true := by simp [nD, PyData.canLay0, PyData.canLayAll0]
theorem nD_depth (q : Rat) : (nD q).depth = 1 := by simp [nD, PyData.depth, PyData.depthAll]
theorem nDs_lay : ∀ p : Pl, PyData.canLayAll0 (p.map nD) = true
  | [] => by simp [PyData.canLayAll0]
  | q :: p => by simp [PyData.canLayAll0, nD_lay q, nDs_lay p]
theorem nDs_depth : ∀ p : Pl, PyData.depthAll (p.map nD) ≤ 1
  | [] => by simp [PyData.depthAll]
  | q :: p => by
    have h1 := nDs_depth p
    have h2 := nD_depth q
    simp only [List.map_cons, PyData.depthAll]
    omega
theorem nD_shaped (q : Rat) : SeqAt.shaped (nD q) = true := by
  have h := nD_depth q
  show ((nD q).canLay0 && decide ((nD q).depth ≤ 64)) = true
  rw [Bool.and_eq_true]
  exact ⟨nD_lay q, decide_eq_true (by omega)⟩
theorem cD_shaped (p : Pl) : SeqAt.shaped (cD p) = true := by
  have h1 := nDs_depth p
  have h2 : PyData.depth (cD p) ≤ 64 := by
    simp only [cD, PyData.depth]
    omega
  show (PyData.canLay0 (cD p) && decide (PyData.depth (cD p) ≤ 64)) = true
  rw [Bool.and_eq_true]
  exact ⟨by simp only [cD, PyData.canLay0]; exact nDs_lay p, decide_eq_true h2⟩
theorem lDs_shaped (p : Pl) : SeqAt.shaped (lD p) = true := by
  have h1 := nDs_depth p
  have h2 : PyData.depth (lD p) ≤ 64 := by
    simp only [lD, PyData.depth]
    omega
  show (PyData.canLay0 (lD p) && decide (PyData.depth (lD p) ≤ 64)) = true
  rw [Bool.and_eq_true]
  exact ⟨by simp only [lD, PyData.canLay0]; exact nDs_lay p, decide_eq_true h2⟩
theorem nD_eqv (q r : Rat) : PyData.eqv (nD q) (nD r) = decide (q = r) := by
  have e : PyData.eqv (nD q) (nD r) = ((q.num == r.num) && (((q.den : Int) == (r.den : Int)) && true)) := by simp only [nD, PyData.eqv, PyData.eqvAll]
  rw [e]
  by_cases h : q = r
  · subst h; simp
  · rw [decide_eq_false h]
    by_cases h1 : q.num = r.num
    · have h2 : ¬ (q.den : Int) = (r.den : Int) := fun z => h (Rat.ext h1 (by omega))
      rw [beq_eq_false_iff_ne.mpr h2]; simp
    · rw [beq_eq_false_iff_ne.mpr h1]; simp
theorem nDs_eqv : ∀ p r : Pl, PyData.eqvAll (p.map nD) (r.map nD) = decide (p = r)
  | [], [] => by simp [PyData.eqvAll]
  | [], b :: r => by simp [PyData.eqvAll]
  | a :: p, [] => by simp [PyData.eqvAll]
  | a :: p, b :: r => by
    have e : PyData.eqvAll ((a :: p).map nD) ((b :: r).map nD) = (PyData.eqv (nD a) (nD b) && PyData.eqvAll (p.map nD) (r.map nD)) := by simp only [List.map_cons, PyData.eqvAll]
    rw [e, nD_eqv, nDs_eqv p r]
    by_cases h1 : a = b
    · subst h1
      by_cases h2 : p = r
      · subst h2; simp
      · simp [h2]
    · simp [h1]
theorem cD_eqv (p r : Pl) : PyData.eqv (cD p) (cD r) = decide (p = r) := by
  have e : PyData.eqv (cD p) (cD r) = PyData.eqvAll (p.map nD) (r.map nD) := by simp only [cD, PyData.eqv]
  rw [e, nDs_eqv]

/-! ### divided: the numbers -/
def dvF (a c : Nat) : Nat → Nat
  | 0 => a
  | t + 1 => 2 * dvF a c t + 2 * c + 1
theorem dvF_mono (a c : Nat) {m n : Nat} (h : m ≤ n) : dvF a c m ≤ dvF a c n := by
  induction h with
  | refl => exact Nat.le_refl _
  | step h ih => exact Nat.le_trans ih (by simp only [dvF]; omega)
theorem co_norm (p : Pl) (i : Nat) : co (norm p) i = co p i := co_ext (fun x _ _ => ev_norm x p) i
theorem co_tak (p r : Pl) (i : Nat) : co (tak p r) i = co p i - co r i := by
  unfold tak add scl
  rw [co_norm, co_addR, co_norm, co_sclR]; grind
theorem co_app (p r : Pl) (i : Nat) : co (p ++ r) i = if i < p.length then co p i else co r (i - p.length) := by
  unfold co
  simp only [List.getD]
  split
  · rename_i h; rw [List.getElem?_append_left h]
  · rename_i h; rw [List.getElem?_append_right (by omega)]
structure DvIn (p d : Pl) (a c : Nat) (F r : Pl) : Prop where
  nr : Norm r
  rl : r.length ≤ p.length
  lf : F.length = p.length + 1 - d.length
  val : ∀ x : Rat, ev p x = ev F x * ev d x + ev r x
  z : ∀ i, i + d.length ≤ r.length → co F i = 0
  sr : SzL (dvF a c (min (p.length - r.length) (p.length + 1 - d.length))) r
  sF : SzL (dvF a c (p.length + 1 - d.length)) F
def dvPart (d r : Pl) : Pl := List.replicate (r.length - d.length) 0 ++ sclR (lst r / lst d) d
theorem DvIn.next {p d : Pl} {a c : Nat} {F r : Pl} (h : DvIn p d a c F r) (hd : Norm d) (dn : d ≠ []) (hs : SzL c d) (hl : d.length ≤ r.length) :
    DvIn p d a c (F.set (r.length - d.length) (lst r / lst d)) (tak r (dvPart d r)) ∧ (tak r (dvPart d r)).length < r.length := by
  have hdl : 1 ≤ d.length := List.length_pos_iff.mpr dn
  have hL := lst_ne hd dn
  have hmin : min (p.length - r.length) (p.length + 1 - d.length) = p.length - r.length := by have := h.rl; omega
  have hsr := h.sr
  rw [hmin] at hsr
  have hi : r.length - d.length < F.length := by rw [h.lf]; have := h.rl; omega
  have lp : (dvPart d r).length = r.length := by unfold dvPart; rw [List.length_append, List.length_replicate, sclR_len]; omega
  have szq : Sz (dvF a c (p.length - r.length) + c) (lst r / lst d) := hsr.lst.div hs.lst
  have szp : SzL (c + (dvF a c (p.length - r.length) + c)) (dvPart d r) := fun y hy => by
    unfold dvPart at hy
    rcases List.mem_append.mp hy with hy | hy
    · rw [(List.mem_replicate.mp hy).2]; exact .zero _
    · exact (hs.sclR szq) y hy
  have shorter : (tak r (dvPart d r)).length < r.length := by
    have h1 := tak_len r (dvPart d r)
    rw [lp, Nat.max_self] at h1
    by_cases h2 : (tak r (dvPart d r)).length < r.length
    · exact h2
    · exfalso
      have h3 : (tak r (dvPart d r)).length = r.length := by omega
      have hne : tak r (dvPart d r) ≠ [] := fun z => by rw [z] at h3; simp at h3; omega
      have h4 := Norm_len (Norm_tak _ _) hne
      rw [h3, co_tak] at h4
      apply h4
      unfold dvPart
      rw [co_app, List.length_replicate, if_neg (by omega), co_sclR, show r.length - 1 - (r.length - d.length) = d.length - 1 by omega]
      show lst r - lst d * (lst r / lst d) = 0
      grind
  have hm : dvF a c (p.length - r.length + 1) ≤ dvF a c (min (p.length - (tak r (dvPart d r)).length) (p.length + 1 - d.length)) := dvF_mono a c (by have := h.rl; omega)
  have hm2 : dvF a c (p.length - r.length + 1) ≤ dvF a c (p.length + 1 - d.length) := dvF_mono a c (by have := h.rl; omega)
  simp only [dvF] at hm hm2
  refine ⟨⟨Norm_tak _ _, by have := h.rl; omega, by rw [List.length_set]; exact h.lf, fun x => ?_, fun i hi2 => ?_, ?_, ?_⟩, shorter⟩
  · have ep : ev (dvPart d r) x = x ^ (r.length - d.length) * (ev d x * (lst r / lst d)) := by
      unfold dvPart
      rw [ev_append, List.length_replicate, ev_sclR, ev_rep]; grind
    rw [h.val, ev_set x _ F _ hi, h.z _ (by omega), ev_tak, ep]
    generalize x ^ (r.length - d.length) = X
    grind
  · rw [co_set F _ i _ hi, if_neg (by omega)]
    exact h.z i (by omega)
  · exact (hsr.tak szp).mono (by omega)
  · exact SzL.of_co fun i => by
      rw [co_set F _ i _ hi]
      split
      · exact szq.mono (by omega)
      · exact h.sF.co i
section
variable {P : Program} {w : World} {K : PySem.W.Frag} {mg : Str → Option Value} {base : Heap}
theorem lst_at {p : Pl} {vs : List V} {H : Hp} (h : Nums K H vs p) (hp : p ≠ []) : ∃ v, atI vs (-1) = some v ∧ Num K H v (lst p) := by
  have hl := nums_len h
  have h1 : 1 ≤ p.length := List.length_pos_iff.mpr hp
  obtain ⟨v, hv, hv2⟩ := nums_get h (i := p.length - 1) (by omega)
  refine ⟨v, ?_, ?_⟩
  · have hne : vs ≠ [] := fun z => by rw [z] at hl; simp at hl; omega
    have e := List.dropLast_concat_getLast hne
    have e2 : vs.getLast hne = v := by
      rw [List.getLast_eq_getElem]
      rw [List.getElem?_eq_getElem (by omega)] at hv
      have := Option.some.inj hv
      simp only [hl]
      exact this
    rw [← e, e2]
    exact atI_last _ _
  · unfold lst; rw [co_lt (by omega)]; exact hv2
/-! ### divided -/
def spDivided (K : PySem.W.Frag) : Sp := fun vs H Q _ => ∃ x y p d, vs = [x, y] ∧ Dp K H x (cD p) ∧ Dp K H y (cD d) ∧ Norm p ∧ Norm d ∧ d ≠ [] ∧ p.length ≤ 50 ∧ d.length ≤ 50 ∧
  ∃ a c, SzL a p ∧ SzL c d ∧ dvF a c (p.length + 1 - d.length) ≤ LIM ∧ c ≤ LIM ∧ ∀ F r, IsDiv p d F r → SzL (dvF a c (p.length + 1 - d.length)) F → SzL (dvF a c (p.length + 1 - d.length)) r → Gives K H (.tuple [cD F, cD r]) Q
theorem sc32 : FnScope ["curve", "by", "quotient", "rest", "at", "part", "one"] ["curve", "by"] (defScope (top 32)) := ⟨rfl, rfl, rfl, by decide +kernel, rfl, by decide +kernel, by decide +kernel⟩
theorem ok_divided (F : Df K mg "divided" 32) (B : Bl mg) (k0 : KN K mg "NOUGHT_curves" 0) (cO : Cal P w K mg base 35 "over" (spOver K)) (cT : Cal P w K mg base 35 "times" (spTimes K)) (cK : Cal P w K mg base 37 "taken" (spTaken K)) : Cal P w K mg base 38 "divided" (spDivided K) := by
  refine F.cal sc32 (fun _ _ _ _ _ _ us hl => match us, hl with | [_, _], _ => rfl) (fun vs H Q E h => ?_) (fun f cdv A outer s H vs Q E hr h => ?_)
  · obtain ⟨_, _, _, _, rfl, _⟩ := h; rfl
  obtain ⟨x, y, p, d, rfl, hx, hy, np, nd, hd, hp50, hd50, sa, sc, sp, sd, hL, hcL, q⟩ := h
  obtain ⟨ad, vs, rfl, hs, hn⟩ := cur_inv hx
  obtain ⟨bd, us, rfl, ht, hm⟩ := cur_inv hy
  have hl := nums_len hn
  have hl2 := nums_len hm
  obtain ⟨a0, hm0, h0⟩ := k0
  have hdl : 1 ≤ d.length := List.length_pos_iff.mpr hd
  refine ⟨_, pss_cons (ps_if (pt_cmpR (op_eqD hr.units) (pv 1) (pe_tup pa_nil) (nomark _)) pss_never pss_nil)
    (pss_cons (ps_set (i := 2) sc32.nd rfl (.inr rfl) (pe_op op_rep (pe_lst (pa_cons (pe_gc (v := .ref a0) (by rfl) ⟨_, hm0, rfl⟩) pa_nil)) (pe_callB (call_max2 rfl) (by rfl) B.max (by decide +kernel) (pa_cons pe_int (pa_cons (pe_op op_add (pe_op op_sub (pe_callB call_len_seq (by rfl) B.len PySem.boot_len (pa_cons (pv 0) pa_nil)) (pe_callB call_len_seq (by rfl) B.len PySem.boot_len (pa_cons (pv 1) pa_nil))) pe_int) pa_nil)))))
    (pss_cons (ps_set (i := 3) sc32.nd rfl (.inl rfl) (pv 0))
    (pss_cons (ps_while PassesOwn.never (pt_cmpR op_ge (pe_callB call_len_seq (by rfl) B.len PySem.boot_len (pa_cons (pv 3) pa_nil)) (pe_callB call_len_seq (by rfl) B.len PySem.boot_len (pa_cons (pv 1) pa_nil)) (nomark _))
      (pss_cons (ps_set (i := 4) sc32.nd rfl (.inr rfl) (pe_op op_sub (pe_callB call_len_seq (by rfl) B.len PySem.boot_len (pa_cons (pv 3) pa_nil)) (pe_callB call_len_seq (by rfl) B.len PySem.boot_len (pa_cons (pv 1) pa_nil))))
      (pss_cons (ps_asg (pe_c cO hr (by decide) (by rfl) (pa_cons (pe_ix ix_tup (pv 3) (pe_un un_neg pe_int) (fun _ _ => rfl)) (pa_cons (pe_ix ix_tup (pv 1) (pe_un un_neg pe_int) (fun _ _ => rfl)) pa_nil))) (pg_sub (pv 2) (pv 4) set_list))
      (pss_cons (ps_set (i := 5) sc32.nd rfl (.inl rfl) (pe_op op_cat (pe_op op_rep (pe_lst (pa_cons (pe_gc (v := .ref a0) (by rfl) ⟨_, hm0, rfl⟩) pa_nil)) (pv 4))
        (pe_lc (own := [("one", 6)]) (g := gName 6) (tt := tYes) rfl sc32.nd (pi_tup (pv 1)) (blkOk_by (N := ["curve", "by", "quotient", "rest", "at", "part", "one"]) (sc := defScope (top 32)) (by decide +kernel))
          (fun _ _ _ _ _ => pg_name (i := 6) sc32.nd rfl (.inl rfl)) (fun _ _ _ _ _ => pts_nil) (fun _ _ _ _ _ => pe_c cT hr (by decide) (by rfl) (pa_cons (pv 6) (pa_cons (pe_ix (r := rIxL K) ix_list (pv 2) (pv 4) (fun _ _ => rfl)) pa_nil))))))
      (pss_one (ps_set (i := 3) sc32.nd rfl (.inl rfl) (pe_c cK hr (by decide) (by rfl) (pa_cons (pv 3) (pa_cons (pe_callTy call_tuple_of (by rfl) B.tuple (by decide +kernel) (pa_cons (pv 5) pa_nil)) pa_nil)))))))))
    (pss_one (ps_ret (pe_tup (pa_cons (pe_callTy call_tuple_of (by rfl) B.tuple (by decide +kernel) (pa_cons (pv 2) pa_nil)) (pa_cons (pv 3) pa_nil)))))))), ?_⟩
  -- if by == ()
  refine ⟨_, rfl, Nat.zero_le _, fun t0 nt0 => ⟨cD d, cD [], dp_mono (same_upd nt0) hy, .tup (SqT.of upd_same) .nil, cD_shaped d, cD_shaped [], _, rfl, ite2 (fun e => ?_) (fun _ => ?_)⟩⟩
  · rw [cD_eqv] at e
    exact absurd (of_decide_eq_true e) hd
  have s00 := same_upd (o := .tup []) nt0
  -- quotient = [NOUGHT] * max(0, ..)
  refine ⟨by show 1 ≤ sizeLine; decide, fun l hl' => ?_⟩
  have s0 := s00.trans (same_upd (o := .lst [.ref a0]) hl')
  refine ⟨_, rfl, ad, vs, rfl, .inr (sqT_mono s0 hs), _, rfl, bd, us, rfl, .inr (sqT_mono s0 ht), _, _, rfl, rfl, _, _, rfl, rfl, _, _, rfl, ?_⟩
  have em : (if (vs.length : Int) - (us.length : Int) + 1 > 0 then (vs.length : Int) - (us.length : Int) + 1 else 0) = ((p.length + 1 - d.length : Nat) : Int) := by split <;> omega
  rw [em]
  refine ⟨l, _, _, rfl, rfl, upd_same, by omega, by omega, ?_, fun D dn => ?_⟩
  · show 1 * (((p.length + 1 - d.length : Nat) : Int)).toNat ≤ sizeLine
    exact line_le (by omega)
  have hD : H D = none := s0.free dn
  have sD := same_upd (o := .lst ((List.replicate (((p.length + 1 - d.length : Nat) : Int)).toNat [V.ref a0]).flatten)) dn
  -- rest = curve; the loop
  refine ⟨_, rfl, ?_⟩
  refine ⟨fun m σ H1 => ∃ (F r : Pl) (vr : V) (y4 y5 : Option V), σ = [some (.ref ad), some (.ref bd), some (.ref D), some vr, y4, y5, none] ∧ Acc K H D H1 (F.map nD) ∧ Dp K H1 vr (cD r) ∧ DvIn p d sa sc F r ∧ r.length = m, ⟨p.length, List.replicate (p.length + 1 - d.length) 0, p, _, none, none, rfl, ⟨s0.trans sD, _, upd_same, ?_⟩, dp_mono (s0.trans sD) hx, ⟨np, Nat.le_refl _, List.length_replicate, fun x => ?_, fun i _ => ?_, ?_, szl_rep _ _⟩, rfl⟩, fun m σ H1 hW => ?_⟩
  · rw [rep_flat]; exact nums_rep (h0 _) _
  · rw [ev_rep]; grind
  · unfold co
    simp only [List.getD, List.getElem?_replicate]
    split <;> rfl
  · rw [Nat.sub_self, Nat.zero_min]; exact sp
  obtain ⟨F, r, vr, y4, y5, rfl, hA, hvr, hI, rfl⟩ := hW
  obtain ⟨rd, ws, rfl, hrs, hrn⟩ := cur_inv hvr
  have hl3 := nums_len hrn
  refine ⟨_, rfl, rd, ws, rfl, .inr hrs, _, rfl, bd, us, rfl, .inr (sqT_mono hA.sm ht), _, _, rfl, rfl, _, rfl, ite2 (fun hge => ?_) (fun hge => ?_)⟩
  · have hge : (us.length : Int) ≤ (ws.length : Int) := of_decide_eq_true hge
    have hge2 : d.length ≤ r.length := by omega
    have hrne : r ≠ [] := fun z => by rw [z, List.length_nil] at hge2; omega
    obtain ⟨hI2, hlt⟩ := hI.next nd hd sd hge2
    refine ⟨fun σ' H' => ∃ m', m' < r.length ∧ (∃ (F r : Pl) (vr : V) (y4 y5 : Option V), σ' = [some (.ref ad), some (.ref bd), some (.ref D), some vr, y4, y5, none] ∧ Acc K H D H' (F.map nD) ∧ Dp K H' vr (cD r) ∧ DvIn p d sa sc F r ∧ r.length = m'), fun _ _ h => h, ?_⟩
    have hmono : dvF sa sc (p.length - r.length + 1) ≤ dvF sa sc (p.length + 1 - d.length) := dvF_mono sa sc (by have := hI.rl; omega)
    simp only [dvF] at hmono
    have hmin : min (p.length - r.length) (p.length + 1 - d.length) = p.length - r.length := by have := hI.rl; omega
    have hsr := hI.sr
    rw [hmin] at hsr
    have smr : ∀ a ∈ r, Sm a := fun a ha => (hsr a ha).sm (by omega)
    have smd : ∀ a ∈ d, Sm a := fun a ha => (sd a ha).sm hcL
    have szq : Sz (dvF sa sc (p.length - r.length) + sc) (lst r / lst d) := hsr.lst.div sd.lst
    have smq : Sm (lst r / lst d) := szq.sm (by omega)
    -- at
    refine ⟨_, rfl, rd, ws, rfl, .inr hrs, _, rfl, bd, us, rfl, .inr (sqT_mono hA.sm ht), _, _, rfl, rfl, ?_⟩
    have eat : (ws.length : Int) - (us.length : Int) = ((r.length - d.length : Nat) : Int) := by omega
    show tSeq _ _ _ (List.set _ 4 (some (V.int ((ws.length : Int) - (us.length : Int))))) H1
    rw [eat]
    -- quotient[at] = over(rest[-1], by[-1])
    obtain ⟨v1, g1, n1⟩ := lst_at hrn hrne
    obtain ⟨v2, g2, n2⟩ := lst_at hm hd
    refine ⟨_, rfl, _, rfl, rd, ws, _, v1, rfl, rfl, hrs, g1, _, rfl, _, rfl, bd, us, _, v2, rfl, rfl, sqT_mono hA.sm ht, g2, ?_⟩
    refine ⟨_, _, lst r, lst d, rfl, n1, dp_mono hA.sm n2, ⟨⟨hsr.lst.sm (by omega), sd.lst.sm hcL⟩, lst_ne nd hd⟩, fun H2 v3 s2 hv3 => ?_⟩
    obtain ⟨acc, e1, l1, h2⟩ := hA.set s2 hD hv3 (nl_nD _) (nls_map _) (r.length - d.length)
    rw [List.length_map, hI.lf] at l1
    have hat : r.length - d.length < acc.length := by have := hI.rl; omega
    refine ⟨_, rfl, _, rfl, D, acc, _, r.length - d.length, rfl, rfl, e1, ?_, ?_⟩
    · unfold ixN
      rw [if_pos (by omega), if_pos (by omega)]
      congr 1
    have keepr : Dp K (upd H2 D (.lst (acc.set (r.length - d.length) v3))) (.ref rd) (cD r) := dp_keep e1 (dp_mono s2 hvr) (nl_cD _)
    have hA2 : Acc K H D (upd H2 D (.lst (acc.set (r.length - d.length) v3))) ((F.set (r.length - d.length) (lst r / lst d)).map nD) := by rw [List.map_set]; exact h2
    generalize hH3 : upd H2 D (.lst (acc.set (r.length - d.length) v3)) = H3 at keepr hA2
    -- part
    refine ⟨by show 1 ≤ sizeLine; decide, fun l4 nl4 => ?_⟩
    have s4 := same_upd (o := .lst [.ref a0]) nl4
    refine ⟨_, rfl, l4, _, _, rfl, rfl, upd_same, by omega, by omega, ?_, fun l5 nl5 => ?_⟩
    · show 1 * (((r.length - d.length : Nat) : Int)).toNat ≤ sizeLine
      exact line_le (by have := hI.rl; omega)
    rw [rep_flat]
    have s5 := s4.trans (same_upd (o := .lst (List.replicate (((r.length - d.length : Nat) : Int)).toNat (V.ref a0))) nl5)
    have e5 : (upd (upd H3 l4 (.lst [.ref a0])) l5 (.lst (List.replicate (((r.length - d.length : Nat) : Int)).toNat (V.ref a0)))) l5 = some (.lst (List.replicate (((r.length - d.length : Nat) : Int)).toNat (V.ref a0))) := upd_same
    generalize hH5 : upd (upd H3 l4 (.lst [.ref a0])) l5 (.lst (List.replicate (((r.length - d.length : Nat) : Int)).toNat (V.ref a0))) = H5 at s5 e5
    have hA5 := hA2.up s5
    obtain ⟨acc5, f5, m5⟩ := hA5.ex
    have hqat : (F.set (r.length - d.length) (lst r / lst d))[r.length - d.length]? = some (lst r / lst d) := by
      rw [List.getElem?_set_self (by rw [hI.lf]; omega)]
    have hiF : r.length - d.length < (F.set (r.length - d.length) (lst r / lst d)).length := by rw [List.length_set, hI.lf]; have := hI.rl; omega
    obtain ⟨vq, hvq, nvq⟩ := nums_get m5 hiF
    rw [List.getElem_set_self] at nvq
    refine ⟨_, rfl, bd, rfl, ⟨_, sqT_mono hA5.sm ht⟩, fun D2 dn2 => lc_tup (K := K) (a := bd) (xs := us) (fun i H6 => Acc K H5 D2 H6 ((sclR (lst r / lst d) (d.take i)).map nD)) (.start dn2) (fun i H6 _ h => sqT_mono (hA5.sm.trans h.sm) ht) (fun i z H6 hz h => ?_) (fun H6 h => ?_)⟩
    · obtain ⟨hj, hz2⟩ := nums_get' hm hz
      refine ⟨rfl, tYes_of ?_⟩
      refine ⟨_, rfl, _, rfl, _, rfl, D, acc5, _, vq, rfl, rfl, SqL.of (h.sm _ _ f5), atI_nat hvq, ?_⟩
      refine ⟨_, _, d[i], lst r / lst d, rfl, dp_mono (hA5.sm.trans h.sm) hz2, dp_mono h.sm nvq, ⟨smd _ (List.getElem_mem hj), smq⟩, fun H7 v7 s7 hv7 => ?_⟩
      obtain ⟨acc6, e6, l6, h6⟩ := h.push s7 dn2 hv7 (nl_nD _) (nls_map _)
      refine ⟨acc6, e6, line_ok (by rw [l6, List.length_map, sclR_len, List.length_take]; omega), ?_⟩
      rw [List.take_add_one, List.getElem?_eq_getElem hj]
      unfold sclR at *
      simp only [Option.toList, List.map_append, List.map_cons, List.map_nil] at *
      exact h6
    · rw [hl2, List.take_length] at h
      obtain ⟨acc6, e6, m6⟩ := h.ex
      have lacc6 := nums_len m6
      rw [sclR_len] at lacc6
      refine ⟨l5, D2, _, acc6, rfl, rfl, h.sm _ _ e5, e6, ?_, fun l7 nl7 => ?_⟩
      · rw [List.length_replicate, lacc6]
        exact line_le (by have := hI.rl; omega)
      have s7 := same_upd (o := .lst (List.replicate (((r.length - d.length : Nat) : Int)).toNat (V.ref a0) ++ acc6)) nl7
      -- rest = taken(rest, tuple(part))
      refine ⟨_, rfl, _, rfl, l7, _, rfl, .inl ⟨SqL.of upd_same, fun t8 nt8 => ?_⟩⟩
      have s8 := same_upd (o := .tup (List.replicate (((r.length - d.length : Nat) : Int)).toNat (V.ref a0) ++ acc6)) nt8
      have spart : Dp K _ (.ref t8) (cD (dvPart d r)) := .tup (SqT.of upd_same) (nums_app (nums_rep (h0 _) (r.length - d.length)) (dpa_mono (s7.trans s8) m6))
      have szp : ∀ a ∈ dvPart d r, Sm a := fun a ha => by
        unfold dvPart at ha
        rcases List.mem_append.mp ha with ha | ha
        · rw [(List.mem_replicate.mp ha).2]; exact .zero _
        · exact ((sd.sclR szq) a ha).sm (by omega)
      have lpart : (dvPart d r).length ≤ 100 := by unfold dvPart; rw [List.length_append, List.length_replicate, sclR_len]; have := hI.rl; omega
      have sall := ((s5.trans h.sm).trans s7).trans s8
      refine ⟨_, _, r, dvPart d r, rfl, dp_mono sall keepr, spart, by have := hI.rl; omega, lpart, smr, szp, fun H9 v9 s9 hv9 => ?_⟩
      exact ⟨_, hlt, _, _, v9, _, _, rfl, hA2.up (sall.trans s9), hv9, hI2, rfl⟩
  · have hge : ¬ (us.length : Int) ≤ (ws.length : Int) := fun z => hge (decide_eq_true z)
    obtain ⟨acc, e1, n1⟩ := hA.ex
    refine ⟨_, rfl, D, acc, rfl, .inl ⟨SqL.of e1, fun t nt => ?_⟩⟩
    have s1 := same_upd (o := .tup acc) nt
    refine ⟨_, rfl, by show 2 ≤ sizeLine; decide, fun u nu => ?_⟩
    have s2 := same_upd (o := .tup [.ref t, .ref rd]) nu
    have hF : Dp K (upd (upd H1 t (.tup acc)) u (.tup [.ref t, .ref rd])) (.ref t) (cD F) := dp_mono s2 (.tup (SqT.of upd_same) (dpa_mono s1 n1))
    have hdiv : IsDiv p d F r := ⟨hI.val, hI.nr, by omega, hI.lf⟩
    refine q F r hdiv hI.sF (hI.sr.mono (dvF_mono sa sc (by omega))) _ _ ((hA.sm.trans s1).trans s2) (.tup (SqT.of upd_same) (.cons hF (.cons (dp_mono (s1.trans s2) hvr) .nil)))
end
end NB

set_option Elab.async false
set_option linter.all false
set_option maxRecDepth 100000
set_option maxHeartbeats 4000000
namespace NB
open PySem PySem.Spec PyProof.Rows L2
/-! ### the rests of a curve and its slope: sizes -/
structure Good (P : Pl) : Prop where
  nm : Norm P
  ne : P ≠ []
  l5 : P.length ≤ 5
  sz : SzL 2048 P
def szU (l : Nat) : Nat := if 4 ≤ l then 2051 else if l = 3 then 41002 else if l = 2 then 508438 else 2051
def szV (l : Nat) : Nat := if l = 3 then 41002 else if l = 2 then 508438 else 0
structure EuSt (P u v : Pl) : Prop where
  nu : Norm u
  nv : Norm v
  ne : u ≠ []
  inv : ∀ e : Pl, (Dv e P ∧ Dv e (slp P)) ↔ (Dv e u ∧ Dv e v)
  st : (u = P ∧ v = slp P) ∨ (v.length < u.length ∧ u.length ≤ 4 ∧ SzL (szU u.length) u ∧ SzL (szV v.length) v ∧ (v ≠ [] → lst v = 1))
theorem EuSt.init {P : Pl} (g : Good P) : EuSt P P (slp P) := ⟨g.nm, Norm_slp g.nm, g.ne, fun _ => Iff.rfl, .inl ⟨rfl, rfl⟩⟩
theorem EuSt.szu {P u v : Pl} (g : Good P) (h : EuSt P u v) : SzL 600000 u ∧ u.length ≤ 5 := by
  rcases h.st with ⟨e, _⟩ | ⟨_, h1, h2, _⟩
  · rw [e]; exact ⟨g.sz.mono (by omega), g.l5⟩
  · refine ⟨h2.mono ?_, by omega⟩
    unfold szU; split
    · omega
    · split
      · omega
      · split <;> omega
theorem len1 {v : Pl} (h : v.length = 1) (hl : lst v = 1) : v = [1] := by
  match v, h with
  | [y], _ =>
    have e : lst [y] = y := by simp [lst, co]
    rw [e] at hl; rw [hl]
theorem sz_one (n : Nat) : SzL n [1] := .cons (.one n) (.nil n)
theorem monV {r : Pl} {M : Nat} (hr : Norm r) (hs : SzL M r) (h : 2 ≤ r.length → 2 * M ≤ szV r.length) : SzL (szV (mon r).length) (mon r) := by
  by_cases e : r = []
  · subst e; exact .nil _
  · have hl := mon_len hr
    by_cases h2 : 2 ≤ r.length
    · rw [hl]; exact hs.mon.mono (by have := h h2; omega)
    · have h1 : 1 ≤ r.length := List.length_pos_iff.mpr e
      have : mon r = [1] := len1 (by omega) (lst_mon hr e)
      rw [this]; exact sz_one _
theorem EuSt.after {P u v q r : Pl} {M : Nat} (h : EuSt P u v) (hv : v ≠ []) (d : IsDiv u v q r) (hs : SzL M r) (h4 : v.length ≤ 4) (hu : SzL (szU v.length) v) (hM : 2 ≤ r.length → 2 * M ≤ szV r.length) : EuSt P v (mon r) :=
  ⟨h.nv, Norm_mon r, hv, fun e => (h.inv e).trans (gcd_turn d.nr d.val e), .inr ⟨by rw [mon_len d.nr]; exact d.lr, h4, hu, monV d.nr hs hM, fun hne => lst_mon d.nr (fun z => hne (by rw [z]; rfl))⟩⟩
theorem szU_ge (l : Nat) : 2051 ≤ szU l := by unfold szU; split <;> (try split) <;> (try split) <;> omega
/-- one division -/
theorem EuSt.step {P u v : Pl} (g : Good P) (h : EuSt P u v) (hv : v ≠ []) : ∃ a c, SzL a u ∧ SzL c v ∧ c ≤ 600000 ∧ dvF a c (u.length + 1 - v.length) ≤ 8000000 ∧ v.length ≤ 5 ∧ u.length ≤ 5 ∧
    ∀ q r, IsDiv u v q r → SzL (dvF a c (u.length + 1 - v.length)) r → EuSt P v (mon r) := by
  have hv1 : 1 ≤ v.length := List.length_pos_iff.mpr hv
  rcases h.st with ⟨e1, e2⟩ | ⟨h1, h2, h3, h4, h5⟩
  · have hl : v.length = u.length - 1 := by rw [e1, e2, slp_len]
    have hu5 : u.length ≤ 5 := by rw [e1]; exact g.l5
    have es : u.length + 1 - v.length = 2 := by omega
    have sv : SzL 2051 v := by rw [e2]; exact g.sz.slp (by have := g.l5; omega)
    refine ⟨2048, 2051, by rw [e1]; exact g.sz, sv, by omega, by rw [es]; decide, by omega, hu5, fun q r d hs => ?_⟩
    rw [es] at hs
    refine h.after hv d hs (by omega) (sv.mono (szU_ge _)) fun h2 => ?_
    have := d.lr
    have e : dvF 2048 2051 2 = 20501 := by decide
    rw [e]
    have : r.length = 2 ∨ r.length = 3 := by omega
    rcases this with e | e <;> rw [e] <;> decide
  · have cases3 : v.length = 1 ∨ v.length = 2 ∨ v.length = 3 := by omega
    rcases cases3 with l | l | l
    · have ev1 : v = [1] := len1 l (h5 hv)
      refine ⟨szU u.length, 0, h3, by rw [ev1]; exact sz_one 0, by omega, ?_, by omega, by omega, fun q r d hs => ?_⟩
      · have : u.length = 2 ∨ u.length = 3 ∨ u.length = 4 := by omega
        rcases this with e | e | e <;> rw [e, l] <;> decide
      · have := d.lr
        refine h.after hv d hs (by omega) (by rw [ev1]; exact sz_one _) fun h2 => by omega
    · rw [l] at h4
      refine ⟨szU u.length, szV 2, h3, h4, by decide, ?_, by omega, by omega, fun q r d hs => ?_⟩
      · have : u.length = 3 ∨ u.length = 4 := by omega
        rcases this with e | e <;> rw [e, l] <;> decide
      · have := d.lr
        refine h.after hv d hs (by omega) (by rw [l]; exact h4.mono (by decide)) fun h2 => by omega
    · rw [l] at h4
      have hu4 : u.length = 4 := by omega
      refine ⟨szU u.length, szV 3, h3, h4, by decide, by rw [hu4, l]; decide, by omega, by omega, fun q r d hs => ?_⟩
      have := d.lr
      rw [hu4, l] at hs
      refine h.after hv d hs (by omega) (by rw [l]; exact h4.mono (by decide)) fun h2 => ?_
      have e : r.length = 2 := by omega
      rw [e]; decide
theorem it0' (a : V) (r : List V) : atI (a :: r) 0 = some a := atI_nat (j := 0) rfl
section
variable {P : Program} {w : World} {K : PySem.W.Frag} {mg : Str → Option Value} {base : Heap}
/-! ### with_last_one -/
def spWLO (K : PySem.W.Frag) : Sp := fun vs H Q _ => ∃ x p, vs = [x] ∧ Dp K H x (cD p) ∧ Norm p ∧ p.length ≤ 50 ∧ (∃ a, SzL a p ∧ a ≤ LIM) ∧ Gives K H (cD (mon p)) Q
theorem sc34 : FnScope ["curve"] ["curve"] (defScope (top 34)) := ⟨rfl, rfl, rfl, by decide +kernel, rfl, by decide +kernel, by decide +kernel⟩
theorem ok_with_last_one (F : Df K mg "with_last_one" 34) (k1 : KN K mg "ONE_curves" 1) (cS : Cal P w K mg base 36 "scaled" (spScaled K)) (cO : Cal P w K mg base 35 "over" (spOver K)) : Cal P w K mg base 37 "with_last_one" (spWLO K) := by
  refine F.cal sc34 (fun _ _ _ _ _ _ us hl => match us, hl with | [_], _ => rfl) (fun vs H Q E h => ?_) (fun f cdv A outer s H vs Q E hr h => ?_)
  · obtain ⟨_, _, rfl, _⟩ := h; rfl
  obtain ⟨x, p, rfl, hx, hN, h50, ⟨a, sa, haL⟩, q⟩ := h
  obtain ⟨ad, vs, rfl, hs, hn⟩ := cur_inv hx
  obtain ⟨a1, hm1, h1⟩ := k1
  refine ⟨_, pss_cons (ps_if (pt_cmpR (op_eqD hr.units) (pv 0) (pe_tup pa_nil) (nomark _)) (pss_one (ps_ret (pe_tup pa_nil))) pss_nil)
    (pss_one (ps_ret (pe_c cS hr (by decide) (by rfl) (pa_cons (pv 0) (pa_cons (pe_c cO hr (by decide) (by rfl) (pa_cons (pe_gc (v := .ref a1) (by rfl) ⟨_, hm1, rfl⟩) (pa_cons (pe_ix ix_tup (pv 0) (pe_un un_neg pe_int) (fun _ _ => rfl)) pa_nil))) pa_nil))))), ?_⟩
  refine ⟨_, rfl, Nat.zero_le _, fun t0 nt0 => ⟨cD p, cD [], dp_mono (same_upd nt0) hx, .tup (SqT.of upd_same) .nil, cD_shaped p, cD_shaped [], _, rfl, ?_⟩⟩
  have s0 := same_upd (o := .tup []) nt0
  rw [cD_eqv]
  refine ite2 (fun e => ?_) (fun e => ?_)
  · have e := of_decide_eq_true e
    subst e
    refine ⟨Nat.zero_le _, fun t1 nt1 => q _ _ (s0.trans (same_upd nt1)) (.tup (SqT.of upd_same) .nil)⟩
  · have e : p ≠ [] := fun z => e (decide_eq_true z)
    obtain ⟨v, hv, hv2⟩ := lst_at hn e
    have szl : Sz a (lst p) := sa.lst
    refine ⟨_, rfl, _, rfl, _, rfl, ad, vs, _, v, rfl, rfl, sqT_mono s0 hs, hv, ?_⟩
    refine ⟨_, _, 1, lst p, rfl, h1 _, dp_mono s0 hv2, ⟨⟨Sz.one LIM, szl.sm haL⟩, lst_ne hN e⟩, fun H1 v1 s1 hv1 => ?_⟩
    refine ⟨_, _, p, 1 / lst p, rfl, dp_mono (s0.trans s1) hx, hv1, by omega, fun y hy => (sa y hy).sm haL, ((Sz.one 0).div szl).sm (by omega), fun H2 v2 s2 hv2 => q _ _ ((s0.trans s1).trans s2) ?_⟩
    unfold mon
    rw [if_neg e]; exact hv2
/-! ### common -/
def spCommon (K : PySem.W.Frag) : Sp := fun vs H Q _ => ∃ x y p, vs = [x, y] ∧ Dp K H x (cD p) ∧ Dp K H y (cD (slp p)) ∧ Good p ∧ ∀ D, IsGcd p (slp p) D → Gives K H (cD D) Q
theorem sc35 : FnScope ["one", "other"] ["one", "other"] (defScope (top 35)) := ⟨rfl, rfl, rfl, by decide +kernel, rfl, by decide +kernel, by decide +kernel⟩
theorem ok_common (F : Df K mg "common" 35) (cD' : Cal P w K mg base 38 "divided" (spDivided K)) (cM : Cal P w K mg base 37 "with_last_one" (spWLO K)) : Cal P w K mg base 39 "common" (spCommon K) := by
  refine F.cal sc35 (fun _ _ _ _ _ _ us hl => match us, hl with | [_, _], _ => rfl) (fun vs H Q E h => ?_) (fun f cdv A outer s H vs Q E hr h => ?_)
  · obtain ⟨_, _, _, rfl, _⟩ := h; rfl
  obtain ⟨x, y, p, rfl, hx, hy, g, q⟩ := h
  have hL := LIM_eq
  refine ⟨_, pss_cons (ps_while PassesOwn.never (pt_cmpR (op_neD hr.units) (pv 1) (pe_tup pa_nil) (nomark _)) (pss_one (ps_par (i := 0) (j := 1) rfl sc35.nd rfl rfl (by decide) rfl rfl (pa_cons (pv 1) (pa_cons (pe_c cM hr (by decide) (by rfl) (pa_cons (pe_ix ix_tup (pe_c cD' hr (by decide) (by rfl) (pa_cons (pv 0) (pa_cons (pv 1) pa_nil))) pe_int (fun _ _ => rfl)) pa_nil)) pa_nil)) (by rfl))))
    (pss_one (ps_ret (pe_c cM hr (by decide) (by rfl) (pa_cons (pv 0) pa_nil)))), ?_⟩
  refine ⟨fun m σ H1 => ∃ (u v : Pl) (xu xv : V), σ = [some xu, some xv] ∧ Same H H1 ∧ Dp K H1 xu (cD u) ∧ Dp K H1 xv (cD v) ∧ EuSt p u v ∧ v.length = m, ⟨_, p, slp p, x, y, rfl, .refl _, hx, hy, .init g, rfl⟩, fun m σ H1 hW => ?_⟩
  obtain ⟨u, v, xu, xv, rfl, s1, hu, hv, hE, rfl⟩ := hW
  refine ⟨_, rfl, Nat.zero_le _, fun t0 nt0 => ⟨cD v, cD [], dp_mono (same_upd nt0) hv, .tup (SqT.of upd_same) .nil, cD_shaped v, cD_shaped [], _, rfl, ?_⟩⟩
  have s0 := same_upd (o := .tup []) nt0
  rw [cD_eqv]
  refine ite2 (fun e => ?_) (fun e => ?_)
  · have hvn : v ≠ [] := fun z => by subst z; simp at e
    obtain ⟨a, c, sa, sc, hc, hd, lv, lu, fin⟩ := hE.step g hvn
    refine ⟨fun σ' H' => ∃ m', m' < v.length ∧ ∃ (u v : Pl) (xu xv : V), σ' = [some xu, some xv] ∧ Same H H' ∧ Dp K H' xu (cD u) ∧ Dp K H' xv (cD v) ∧ EuSt p u v ∧ v.length = m', fun _ _ h => h, ?_⟩
    refine ⟨_, rfl, _, rfl, _, rfl, _, _, u, v, rfl, dp_mono s0 hu, dp_mono s0 hv, hE.nu, hE.nv, hvn, by omega, by omega, a, c, sa, sc, by omega, by omega, fun F r hdiv _ sr H2 z s2 hz => ?_⟩
    cases hz with
    | tup hs2 ha =>
      cases ha with
      | cons h1 h2 =>
        cases h2 with
        | cons h3 h4 =>
          cases h4
          refine ⟨_, _, _, _, rfl, rfl, hs2, it1, _, r, rfl, h3, hdiv.nr, by have := hdiv.lr; omega, ⟨_, sr, by omega⟩, fun H3 z3 s3 hz3 => ?_⟩
          refine ⟨_, _, rfl, _, ?_, v, mon r, xv, z3, rfl, ((s1.trans s0).trans s2).trans s3, dp_mono ((s0.trans s2).trans s3) hv, hz3, fin F r hdiv sr, rfl⟩
          rw [mon_len hdiv.nr]; exact hdiv.lr
  · have hvn : v = [] := by simpa using e
    obtain ⟨su, lu⟩ := hE.szu g
    refine ⟨_, rfl, _, u, rfl, dp_mono s0 hu, hE.nu, by omega, ⟨_, su, by omega⟩, fun H2 v2 s2 hv2 => q (mon u) (gcd_end hE.nu hE.ne fun e => ?_) _ _ ((s1.trans s0).trans s2) hv2⟩
    have := hE.inv e
    rw [hvn] at this
    exact this
/-! ### plain -/
/-- what plain needs to know of a curve -/
def PlainW (p e : Pl) : Prop := ∃ D, IsGcd p (slp p) D ∧ SzL 2048 D ∧ D.length ≤ 5 ∧ Norm e ∧ ∀ x : Rat, ev p x = ev e x * ev D x
def spPlain (K : PySem.W.Frag) : Sp := fun vs H Q _ => ∃ x p e, vs = [x] ∧ Dp K H x (cD p) ∧ Good p ∧ PlainW p e ∧ Gives K H (cD (mon e)) Q
theorem sc36 : FnScope ["curve"] ["curve"] (defScope (top 36)) := ⟨rfl, rfl, rfl, by decide +kernel, rfl, by decide +kernel, by decide +kernel⟩
theorem good_sm {p : Pl} (g : Good p) : ∀ a ∈ p, Sm a := fun a ha => (g.sz a ha).sm (by rw [LIM_eq]; omega)
theorem ok_plain (F : Df K mg "plain" 36) (cM : Cal P w K mg base 37 "with_last_one" (spWLO K)) (cD' : Cal P w K mg base 38 "divided" (spDivided K)) (cC : Cal P w K mg base 39 "common" (spCommon K)) (cSl : Cal P w K mg base 36 "slope" (spSlope K)) : Cal P w K mg base 40 "plain" (spPlain K) := by
  refine F.cal sc36 (fun _ _ _ _ _ _ us hl => match us, hl with | [_], _ => rfl) (fun vs H Q E h => ?_) (fun f cdv A outer s H vs Q E hr h => ?_)
  · obtain ⟨_, _, _, rfl, _⟩ := h; rfl
  obtain ⟨x, p, e, rfl, hx, g, ⟨D, hD, sD, lD5, ne, he⟩, q⟩ := h
  have hL := LIM_eq
  refine ⟨_, pss_cons (ps_if (pt_cmpR (op_eqD hr.units) (pv 0) (pe_tup pa_nil) (nomark _)) pss_never pss_nil)
    (pss_one (ps_ret (pe_c cM hr (by decide) (by rfl) (pa_cons (pe_ix ix_tup (pe_c cD' hr (by decide) (by rfl) (pa_cons (pv 0) (pa_cons (pe_c cC hr (by decide) (by rfl) (pa_cons (pv 0) (pa_cons (pe_c cSl hr (by decide) (by rfl) (pa_cons (pv 0) pa_nil)) pa_nil))) pa_nil))) pe_int (fun _ _ => rfl)) pa_nil)))), ?_⟩
  refine ⟨_, rfl, Nat.zero_le _, fun t0 nt0 => ⟨cD p, cD [], dp_mono (same_upd nt0) hx, .tup (SqT.of upd_same) .nil, cD_shaped p, cD_shaped [], _, rfl, ?_⟩⟩
  have s0 := same_upd (o := .tup []) nt0
  rw [cD_eqv]
  refine ite2 (fun e => absurd (of_decide_eq_true e) g.ne) (fun _ => ?_)
  refine ⟨_, rfl, _, rfl, _, rfl, _, p, rfl, dp_mono s0 hx, by have := g.l5; omega, good_sm g, fun H1 v1 s1 hv1 => ?_⟩
  refine ⟨_, _, p, rfl, dp_mono (s0.trans s1) hx, hv1, g, fun D' hD' H2 v2 s2 hv2 => ?_⟩
  have eD := hD'.unique hD
  subst eD
  have hDl : 1 ≤ D'.length := List.length_pos_iff.mpr hD.ne
  have hdv : dvF 2048 2048 (p.length + 1 - D'.length) ≤ dvF 2048 2048 5 := dvF_mono _ _ (by have := g.l5; omega)
  have hdv2 : dvF 2048 2048 5 = 192543 := by decide
  refine ⟨_, _, p, D', rfl, dp_mono ((s0.trans s1).trans s2) hx, hv2, g.nm, hD.nm, hD.ne, by have := g.l5; omega, by omega, 2048, 2048, g.sz, sD, by omega, by omega, fun F r hdiv sF _ H3 z s3 hz => ?_⟩
  obtain ⟨eF, er⟩ := hdiv.exact hD.nm g.nm g.ne ne he
  subst eF
  cases hz with
  | tup hs2 ha =>
    cases ha with
    | cons h1 h2 =>
      refine ⟨_, _, _, _, rfl, rfl, hs2, it0' _ _, _, F, rfl, h1, ne, ?_, ⟨_, sF, by omega⟩, fun H4 v4 s4 hv4 => q _ _ ((((s0.trans s1).trans s2).trans s3).trans s4) hv4⟩
      have := hdiv.lq
      have := g.l5
      omega
end
end NB

set_option Elab.async false
set_option linter.all false
set_option maxRecDepth 100000
set_option maxHeartbeats 4000000
namespace NB
open PySem PySem.Spec PyProof.Rows L2
/-- how split goes -/
inductive SplitRun : Nat → Pl → Pl → Pl → Pl → Prop
  | done {r p T : Pl} : Good r → Good p → IsGcd p (slp p) T → T.length ≤ 1 → SplitRun 0 r p r p
  | step {n : Nat} {r p T e p2 r' p' : Pl} : Good r → Good p → IsGcd p (slp p) T → 1 < T.length → Good T → PlainW T e → Good (mon e) → Good p2 → (∀ x : Rat, ev p x = ev p2 x * ev (mul (mon e) (mon e)) x) → SplitRun n (mul r (mon e)) p2 r' p' → SplitRun (n + 1) r p r' p'
theorem SplitRun.goods {n : Nat} {r p r' p' : Pl} (h : SplitRun n r p r' p') : Good r ∧ Good p := by
  cases h with
  | done a b _ _ => exact ⟨a, b⟩
  | step a b _ _ _ _ _ _ _ _ => exact ⟨a, b⟩
theorem dvF_le {a a' c c' : Nat} (h1 : a ≤ a') (h2 : c ≤ c') : ∀ t : Nat, dvF a c t ≤ dvF a' c' t
  | 0 => h1
  | t + 1 => by have := dvF_le h1 h2 t; simp only [dvF]; omega
section
variable {P : Program} {w : World} {K : PySem.W.Frag} {mg : Str → Option Value} {base : Heap}
/-! ### split -/
def spSplit (K : PySem.W.Frag) : Sp := fun vs H Q _ => ∃ x p n r' p', vs = [x] ∧ Dp K H x (cD p) ∧ SplitRun n [1] p r' p' ∧ Gives K H (.tuple [cD r', cD p']) Q
theorem sc37 : FnScope ["curve", "root", "twofold", "part"] ["curve"] (defScope (top 37)) := ⟨rfl, rfl, rfl, by decide +kernel, rfl, by decide +kernel, by decide +kernel⟩
theorem ok_split (F : Df K mg "split" 37) (B : Bl mg) (k1 : KN K mg "ONE_curves" 1) (cC : Cal P w K mg base 39 "common" (spCommon K)) (cSl : Cal P w K mg base 36 "slope" (spSlope K)) (cPl : Cal P w K mg base 40 "plain" (spPlain K)) (cPr : Cal P w K mg base 36 "product" (spProduct K)) (cD' : Cal P w K mg base 38 "divided" (spDivided K)) : Cal P w K mg base 41 "split" (spSplit K) := by
  refine F.cal sc37 (fun _ _ _ _ _ _ us hl => match us, hl with | [_], _ => rfl) (fun vs H Q E h => ?_) (fun f cdv A outer s H vs Q E hr h => ?_)
  · obtain ⟨_, _, _, _, _, rfl, _⟩ := h; rfl
  obtain ⟨x, p0, n0, r', p', rfl, hx, hrun, q⟩ := h
  have hL := LIM_eq
  have g0 := hrun.goods.2
  obtain ⟨a1, hm1, h1⟩ := k1
  refine ⟨_, pss_cons (ps_if (pt_cmpR (op_eqD hr.units) (pv 0) (pe_tup pa_nil) (nomark _)) pss_never pss_nil)
    (pss_cons (ps_set (i := 1) sc37.nd rfl (.inl rfl) (pe_tup (pa_cons (pe_gc (v := .ref a1) (by rfl) ⟨_, hm1, rfl⟩) pa_nil)))
    (pss_cons (ps_set (i := 2) sc37.nd rfl (.inl rfl) (pe_c cC hr (by decide) (by rfl) (pa_cons (pv 0) (pa_cons (pe_c cSl hr (by decide) (by rfl) (pa_cons (pv 0) pa_nil)) pa_nil))))
    (pss_cons (ps_while PassesOwn.never (pt_cmpR op_gt (pe_callB call_len_seq (by rfl) B.len PySem.boot_len (pa_cons (pv 2) pa_nil)) pe_int (nomark _))
      (pss_cons (ps_set (i := 3) sc37.nd rfl (.inl rfl) (pe_c cPl hr (by decide) (by rfl) (pa_cons (pv 2) pa_nil)))
      (pss_cons (ps_set (i := 1) sc37.nd rfl (.inl rfl) (pe_c cPr hr (by decide) (by rfl) (pa_cons (pv 1) (pa_cons (pv 3) pa_nil))))
      (pss_cons (ps_set (i := 0) sc37.nd rfl (.inl rfl) (pe_ix ix_tup (pe_c cD' hr (by decide) (by rfl) (pa_cons (pv 0) (pa_cons (pe_c cPr hr (by decide) (by rfl) (pa_cons (pv 3) (pa_cons (pv 3) pa_nil))) pa_nil))) pe_int (fun _ _ => rfl)))
      (pss_one (ps_set (i := 2) sc37.nd rfl (.inl rfl) (pe_c cC hr (by decide) (by rfl) (pa_cons (pv 0) (pa_cons (pe_c cSl hr (by decide) (by rfl) (pa_cons (pv 0) pa_nil)) pa_nil)))))))))
    (pss_one (ps_ret (pe_tup (pa_cons (pv 1) (pa_cons (pv 0) pa_nil)))))))), ?_⟩
  refine ⟨_, rfl, Nat.zero_le _, fun t0 nt0 => ⟨cD p0, cD [], dp_mono (same_upd nt0) hx, .tup (SqT.of upd_same) .nil, cD_shaped p0, cD_shaped [], _, rfl, ?_⟩⟩
  have s0 := same_upd (o := .tup []) nt0
  rw [cD_eqv]
  refine ite2 (fun e => absurd (of_decide_eq_true e) g0.ne) (fun _ => ?_)
  refine ⟨by show 1 ≤ sizeLine; decide, fun t1 nt1 => ?_⟩
  have s1 := s0.trans (same_upd (o := .tup [.ref a1]) nt1)
  have hroot : Dp K (upd (upd H t0 (.tup [])) t1 (.tup [.ref a1])) (.ref t1) (cD [1]) := .tup (SqT.of upd_same) (.cons (h1 _) .nil)
  refine ⟨_, rfl, _, rfl, _, p0, rfl, dp_mono s1 hx, by have := g0.l5; omega, good_sm g0, fun H2 v2 s2 hv2 => ?_⟩
  refine ⟨_, _, p0, rfl, dp_mono (s1.trans s2) hx, hv2, g0, fun T hT H3 v3 s3 hv3 => ?_⟩
  refine ⟨fun m σ H1 => ∃ (r p T : Pl) (vr vp vT : V) (y3 : Option V), σ = [some vp, some vr, some vT, y3] ∧ Same H H1 ∧ Dp K H1 vp (cD p) ∧ Dp K H1 vr (cD r) ∧ Dp K H1 vT (cD T) ∧ IsGcd p (slp p) T ∧ SplitRun m r p r' p', ⟨n0, [1], p0, T, _, _, _, none, rfl, (s1.trans s2).trans s3, dp_mono ((s1.trans s2).trans s3) hx, dp_mono (s2.trans s3) hroot, hv3, hT, hrun⟩, fun m σ H1 hW => ?_⟩
  obtain ⟨r, p, T, vr, vp, vT, y3, rfl, sm, hp, hrr, hTT, hgcd, hrun⟩ := hW
  obtain ⟨ad, ws, rfl, hs, hn⟩ := cur_inv hTT
  have hl := nums_len hn
  refine ⟨_, rfl, ad, ws, rfl, .inr hs, _, _, rfl, rfl, _, rfl, ite2 (fun e => ?_) (fun e => ?_)⟩
  · have e : (1 : Int) < ws.length := of_decide_eq_true e
    cases hrun with
    | done _ _ hT2 hle =>
      have := hT2.unique hgcd
      subst this
      omega
    | @step n _ _ T2 ee p2 _ _ gr gp hT2 hlt gT hpl gF gp2 hev hnext =>
      have := hT2.unique hgcd
      subst this
      refine ⟨fun σ' H' => ∃ m', m' < n + 1 ∧ ∃ (r p T : Pl) (vr vp vT : V) (y3 : Option V), σ' = [some vp, some vr, some vT, y3] ∧ Same H H' ∧ Dp K H' vp (cD p) ∧ Dp K H' vr (cD r) ∧ Dp K H' vT (cD T) ∧ IsGcd p (slp p) T ∧ SplitRun m' r p r' p', fun _ _ h => h, ?_⟩
      -- part
      refine ⟨_, rfl, _, T2, ee, rfl, hTT, gT, hpl, fun H5 v5 s5 hv5 => ?_⟩
      have hFl : 1 ≤ (mon ee).length := List.length_pos_iff.mpr gF.ne
      have hlim : ∀ (a : Pl), a.length ≤ 5 → a.length * (2048 + 2048 + 1) ≤ LIM := fun a ha => by
        have : a.length * 4097 ≤ 5 * 4097 := Nat.mul_le_mul_right _ ha
        omega
      -- root
      refine ⟨_, rfl, _, rfl, _, _, r, mon ee, rfl, dp_mono s5 hrr, hv5, by have := gr.l5; omega, by have := gF.l5; omega, ⟨2048, 2048, gr.sz, gF.sz, hlim r gr.l5, by omega, by omega⟩, fun H6 v6 s6 hv6 => ?_⟩
      -- curve
      refine ⟨_, rfl, _, rfl, _, rfl, _, _, mon ee, mon ee, rfl, dp_mono s6 hv5, dp_mono s6 hv5, by have := gF.l5; omega, by have := gF.l5; omega, ⟨2048, 2048, gF.sz, gF.sz, hlim _ gF.l5, by omega, by omega⟩, fun H7 v7 s7 hv7 => ?_⟩
      have szFF : SzL 20485 (mul (mon ee) (mon ee)) := (gF.sz.mul gF.sz).mono (by
        have : (mon ee).length * 4097 ≤ 5 * 4097 := Nat.mul_le_mul_right _ gF.l5
        omega)
      have lFF := mul_len gF.nm gF.nm gF.ne gF.ne
      have hFF := mul_ne_nil gF.nm gF.nm gF.ne gF.ne
      have l5 := gF.l5
      have lp5 := gp.l5
      have hdv : dvF 2048 20485 (p.length + 1 - (mul (mon ee) (mon ee)).length) ≤ dvF 2048 20485 5 := dvF_mono _ _ (by omega)
      have hdv2 : dvF 2048 20485 5 = 1335637 := by decide
      have s57 := (s5.trans s6).trans s7
      refine ⟨_, _, p, mul (mon ee) (mon ee), rfl, dp_mono s57 hp, hv7, gp.nm, Norm_mul _ _, hFF, by omega, by omega, 2048, 20485, gp.sz, szFF, by omega, by omega, fun F r2 hdiv _ _ H8 z s8 hz => ?_⟩
      obtain ⟨eF, _⟩ := hdiv.exact (Norm_mul _ _) gp.nm gp.ne gp2.nm hev
      subst eF
      cases hz with
      | tup hs2 ha =>
        cases ha with
        | cons h1 h2 =>
          refine ⟨_, _, _, _, rfl, rfl, hs2, it0' _ _, ?_⟩
          refine ⟨_, rfl, _, rfl, _, F, rfl, h1, by have := gp2.l5; omega, good_sm gp2, fun H9 v9 s9 hv9 => ?_⟩
          refine ⟨_, _, F, rfl, dp_mono s9 h1, hv9, gp2, fun T3 hT3 H10 v10 s10 hv10 => ?_⟩
          have sall := (((s57.trans s8).trans s9).trans s10)
          exact ⟨n, by omega, mul r (mon ee), F, T3, v6, _, v10, _, rfl, sm.trans sall, dp_mono (s9.trans s10) h1, dp_mono (((s7.trans s8).trans s9).trans s10) hv6, hv10, hT3, hnext⟩
  · have e : ¬ (1 : Int) < ws.length := fun z => e (decide_eq_true z)
    cases hrun with
    | step _ _ hT2 hlt _ _ _ _ _ _ =>
      have := hT2.unique hgcd
      subst this
      omega
    | done _ _ _ _ =>
      refine ⟨_, rfl, _, rfl, by show 2 ≤ sizeLine; decide, fun t nt => q _ _ (sm.trans (same_upd nt)) (.tup (SqT.of upd_same) (.cons (dp_mono (same_upd nt) hrr) (.cons (dp_mono (same_upd nt) hp) .nil)))⟩

/-! ### ask_stretch, choose, of_whole, on_one -/
def spAskStretch (K : PySem.W.Frag) : Sp := fun vs H Q _ => ∃ x y a b, vs = [x, y] ∧ Num K H x a ∧ Num K H y b ∧ Sm a ∧ Sm b ∧ a < b ∧ Q .non H
theorem sc40 : FnScope ["low", "high"] ["low", "high"] (defScope (top 40)) := ⟨rfl, rfl, rfl, by decide +kernel, rfl, by decide +kernel, by decide +kernel⟩
theorem ok_ask_stretch (F : Df K mg "ask_stretch" 40) (cL : Cal P w K mg base 33 "less" (spLess K)) : Cal P w K mg base 34 "ask_stretch" (spAskStretch K) := by
  refine F.cal sc40 (fun _ _ _ _ _ _ us hl => match us, hl with | [_, _], _ => rfl) (fun vs H Q E h => ?_) (fun f cdv A outer s H vs Q E hr h => ?_)
  · obtain ⟨_, _, _, _, rfl, _⟩ := h; rfl
  obtain ⟨x, y, a, b, rfl, ha, hb, sa, sb, hab, q⟩ := h
  refine ⟨_, pss_one (ps_if (pt_not (pt_val (pe_c cL hr (by decide) (by rfl) (pa_cons (pv 0) (pa_cons (pv 1) pa_nil))))) pss_never pss_nil), ?_⟩
  refine ⟨_, rfl, _, rfl, _, _, a, b, rfl, ha, hb, sa, sb, _, rfl, ?_⟩
  rw [decide_eq_true hab]
  exact iteF q
def spChoose : Sp := fun vs H Q _ => ∃ (n k : Nat), vs = [.int n, .int k] ∧ n ≤ 12 ∧ k ≤ n ∧ Q (.int (chs n k)) H
theorem sc41 : FnScope ["many", "k", "found", "j"] ["many", "k"] (defScope (top 41)) := ⟨rfl, rfl, rfl, by decide +kernel, rfl, by decide +kernel, by decide +kernel⟩
theorem chs_small : ∀ n : Fin 13, ∀ k : Fin 13, 0 ≤ chs n.val k.val ∧ chs n.val k.val ≤ 1000 ∧ (k.val ≤ n.val → chs n.val k.val ≠ 0) := by decide +kernel
theorem chs_bd {n k : Nat} (h1 : n ≤ 12) (h2 : k ≤ 12) : 0 ≤ chs n k ∧ chs n k ≤ 1000 ∧ (k ≤ n → chs n k ≠ 0) := chs_small ⟨n, by omega⟩ ⟨k, by omega⟩
theorem ok_choose (F : Df K mg "choose" 41) (B : Bl mg) : Cal P w K mg base 33 "choose" spChoose := by
  refine F.cal sc41 (fun _ _ _ _ _ _ us hl => match us, hl with | [_, _], _ => rfl) (fun vs H Q E h => ?_) (fun f cdv A outer s H vs Q E hr h => ?_)
  · obtain ⟨_, _, rfl, _⟩ := h; rfl
  obtain ⟨n, k, rfl, hn, hk, q⟩ := h
  refine ⟨_, pss_cons (ps_set (i := 2) sc41.nd rfl (.inl rfl) pe_int)
    (pss_cons (ps_for PassesOwn.never rfl (pi_range1 rfl B.range (pa_cons (pv 1) pa_nil)) (pg_name (i := 3) sc41.nd rfl (.inl rfl))
      (pss_one (ps_set (i := 2) sc41.nd rfl (.inl rfl) (pe_op op_fdivN (pe_op op_mul (pv 2) (pe_op op_sub (pv 0) (pv 3))) (pe_op op_add (pv 3) pe_int)))))
    (pss_one (ps_ret (pv 2)))), ?_⟩
  refine ⟨_, rfl, _, rfl, by omega, by omega, for_range (lo := 0) (n := k) (fun i σ H1 => ∃ y3, σ = [some (.int n), some (.int k), some (.int (chs n i)), y3] ∧ H1 = H) ⟨none, rfl, rfl⟩ (fun i σ H1 hi h => ?_) (fun σ H1 h => ?_)⟩
  · obtain ⟨y3, rfl, rfl⟩ := h
    rw [show (0 : Int) + (i : Nat) = ((i : Nat) : Int) by omega]
    have hb := chs_bd hn (k := i) (by omega)
    refine ⟨_, rfl, _, rfl, _, rfl, _, _, rfl, rfl, _, _, rfl, rfl, .inl ⟨by omega, by omega⟩, _, rfl, _, _, rfl, rfl, _, _, rfl, rfl, ⟨by omega, by omega⟩, some (.int (i : Nat)), ?_, rfl⟩
    have e : (chs n i * ((n : Int) - i)).fdiv ((i : Int) + 1) = chs n (i + 1) := by
      rw [Int.fdiv_eq_ediv_of_nonneg _ (by omega)]; rfl
    show [some (V.int n), some (V.int k), some (V.int ((chs n i * ((n : Int) - i)).fdiv ((i : Int) + 1))), some (V.int i)] = _
    rw [e]
  · obtain ⟨y3, rfl, rfl⟩ := h
    exact ⟨_, rfl, q⟩
def spOfWhole (K : PySem.W.Frag) : Sp := fun vs H Q _ => ∃ (i : Int), vs = [.int i] ∧ Gives K H (nD (i : Rat)) Q
theorem sc42 : FnScope ["one"] ["one"] (defScope (top 42)) := ⟨rfl, rfl, rfl, by decide +kernel, rfl, by decide +kernel, by decide +kernel⟩
theorem divInt_one (i : Int) : Rat.divInt i 1 = (i : Rat) := by
  rw [Rat.divInt_eq_div]
  have : ((1 : Int) : Rat) = 1 := rfl
  rw [this]; grind
theorem ok_of_whole (F : Df K mg "of_whole" 42) (cN : Cal P w K mg base 34 "number" (spNumber K)) : Cal P w K mg base 35 "of_whole" (spOfWhole K) := by
  refine F.cal sc42 (fun _ _ _ _ _ _ us hl => match us, hl with | [_], _ => rfl) (fun vs H Q E h => ?_) (fun f cdv A outer s H vs Q E hr h => ?_)
  · obtain ⟨_, rfl, _⟩ := h; rfl
  obtain ⟨i, rfl, q⟩ := h
  refine ⟨_, pss_one (ps_ret (pe_c cN hr (by decide) (by rfl) (pa_cons (pv 0) (pa_cons pe_int pa_nil)))), ?_⟩
  refine ⟨_, rfl, _, _, rfl, by omega, ?_⟩
  rw [divInt_one]; exact q
end
end NB

set_option Elab.async false
set_option linter.all false
set_option maxRecDepth 100000
set_option maxHeartbeats 4000000
namespace NB
open PySem PySem.Spec PyProof.Rows L2
/-- sizes for mixing numbers -/
structure MixSz (p : Pl) (lo hi : Rat) : Prop where
  ex : ∃ a σ τ, SzL a p ∧ Sz σ lo ∧ Sz τ (hi - lo) ∧ Sm hi ∧ a ≤ LIM ∧ σ ≤ LIM ∧ τ ≤ LIM ∧ p.length * (movN a σ p.length + σ + 1) ≤ LIM ∧ p.length * (movN a σ p.length + p.length * τ + 20) ≤ LIM
theorem zero_sub_neg (x : Rat) : 0 - x = -x := by grind
theorem SzL.onOne {p : Pl} {lo hi : Rat} {a σ τ : Nat} (hp : Norm p) (h1 : SzL a p) (h2 : Sz σ lo) (h3 : Sz τ (hi - lo)) : SzL (movN a σ p.length + p.length * τ) (onOne p lo hi) := by
  have hm := SzL.mov (x := 0 - lo) (by rw [zero_sub_neg]; exact h2.neg) h1
  have := hm.str (((Sz.one 0).div h3).mono (show 0 + τ ≤ τ by omega))
  rw [mov_len _ _ hp] at this
  exact this
section
variable {P : Program} {w : World} {K : PySem.W.Frag} {mg : Str → Option Value} {base : Heap}
/-- hands back a new list of numbers -/
abbrev GivesL (K : PySem.W.Frag) (H : Hp) (L : Pl) (Q : VK) : Prop := ∀ H' l vs, Same H H' → H l = none → H' l = some (.lst vs) → Nums K H' vs L → Q (.ref l) H'
def spOnOne (K : PySem.W.Frag) : Sp := fun vs H Q _ => ∃ x y z p lo hi, vs = [x, y, z] ∧ Dp K H x (cD p) ∧ Num K H y lo ∧ Num K H z hi ∧ lo < hi ∧ Norm p ∧ p.length ≤ 12 ∧ p ≠ [] ∧ MixSz p lo hi ∧ GivesL K H (onOne p lo hi) Q
theorem sc43 : FnScope ["curve", "low", "high", "shifted"] ["curve", "low", "high"] (defScope (top 43)) := ⟨rfl, rfl, rfl, by decide +kernel, rfl, by decide +kernel, by decide +kernel⟩
theorem int_zero : ((0 : Int) : Rat) = 0 := rfl
theorem int_one : ((1 : Int) : Rat) = 1 := rfl
theorem ok_on_one (F : Df K mg "on_one" 43) (B : Bl mg) (cMo : Cal P w K mg base 37 "moved" (spMoved K)) (cMi : Cal P w K mg base 35 "minus" (spMinus K)) (cOf : Cal P w K mg base 35 "of_whole" (spOfWhole K)) (cSt : Cal P w K mg base 36 "stretched" (spStretched K)) (cO : Cal P w K mg base 35 "over" (spOver K)) : Cal P w K mg base 38 "on_one" (spOnOne K) := by
  refine F.cal sc43 (fun _ _ _ _ _ _ us hl => match us, hl with | [_, _, _], _ => rfl) (fun vs H Q E h => ?_) (fun f cdv A outer s H vs Q E hr h => ?_)
  · obtain ⟨_, _, _, _, _, _, rfl, _⟩ := h; rfl
  obtain ⟨x, y, z, p, lo, hi, rfl, hx, hy, hz, hlt, hN, h12, hpne, ⟨a, σ, τ, sa, sσ, sτ, smh, haL, hσL, hτL, hL1, hL2⟩, q⟩ := h
  have h1p : 1 ≤ p.length := List.length_pos_iff.mpr hpne
  have hLIM := LIM_eq
  refine ⟨_, pss_cons (ps_set (i := 3) sc43.nd rfl (.inl rfl) (pe_c cMo hr (by decide) (by rfl) (pa_cons (pv 0) (pa_cons (pe_c cMi hr (by decide) (by rfl) (pa_cons (pe_c cOf hr (by decide) (by rfl) (pa_cons pe_int pa_nil)) (pa_cons (pv 1) pa_nil))) pa_nil))))
    (pss_one (ps_ret (pe_callTy call_list_of (by rfl) B.list (by decide +kernel) (pa_cons (pe_c cSt hr (by decide) (by rfl) (pa_cons (pv 3) (pa_cons (pe_c cO hr (by decide) (by rfl) (pa_cons (pe_c cOf hr (by decide) (by rfl) (pa_cons pe_int pa_nil)) (pa_cons (pe_c cMi hr (by decide) (by rfl) (pa_cons (pv 2) (pa_cons (pv 1) pa_nil))) pa_nil))) pa_nil))) pa_nil)))), ?_⟩
  refine ⟨_, rfl, _, rfl, fun H1 v1 s1 hv1 => ?_⟩
  rw [int_zero] at hv1
  refine ⟨_, rfl, _, _, 0, lo, rfl, hv1, dp_mono s1 hy, ⟨Sz.zero LIM, sσ.sm hσL⟩, fun H2 v2 s2 hv2 => ?_⟩
  have szn : Sz σ (0 - lo) := by rw [zero_sub_neg]; exact sσ.neg
  refine ⟨_, _, p, 0 - lo, rfl, dp_mono (s1.trans s2) hx, hv2, hN, h12, ⟨a, σ, sa, szn, hL1, haL, hσL⟩, fun H3 v3 s3 hv3 => ?_⟩
  have s13 := (s1.trans s2).trans s3
  refine ⟨_, rfl, _, rfl, fun H4 v4 s4 hv4 => ?_⟩
  rw [int_one] at hv4
  refine ⟨_, rfl, _, rfl, _, _, hi, lo, rfl, dp_mono (s13.trans s4) hz, dp_mono (s13.trans s4) hy, ⟨smh, sσ.sm hσL⟩, fun H5 v5 s5 hv5 => ?_⟩
  have hw : hi - lo ≠ 0 := by grind
  refine ⟨_, _, 1, hi - lo, rfl, dp_mono s5 hv4, hv5, ⟨⟨Sz.one LIM, sτ.sm hτL⟩, hw⟩, fun H6 v6 s6 hv6 => ?_⟩
  have szm := SzL.mov szn sa
  have hle : movN a σ p.length + p.length * τ + 20 ≤ LIM := Nat.le_trans (Nat.le_mul_of_pos_left _ (by omega)) hL2
  have s46 := (s4.trans s5).trans s6
  have hml := mov_len (0 - lo) p hN
  refine ⟨_, _, mov p (0 - lo), 1 / (hi - lo), rfl, dp_mono s46 hv3, hv6, one_div_ne hw, by omega, ⟨_, τ, szm, ((Sz.one 0).div sτ).mono (by omega), by rw [hml]; omega, hτL⟩, fun H7 v7 s7 hv7 => ?_⟩
  obtain ⟨b, vs, rfl, hs, hn⟩ := cur_inv hv7
  have sall := (s13.trans s46).trans s7
  refine ⟨b, vs, rfl, .inr hs, fun l nl' => ?_⟩
  exact q _ l vs (sall.trans (same_upd nl')) (sall.free nl') upd_same (dpa_mono (same_upd nl') hn)

/-! ### mixed -/
def spMixed (K : PySem.W.Frag) : Sp := fun vs H Q _ => ∃ x y z p lo hi, vs = [x, y, z, .int (p.length - 1 : Nat)] ∧ Dp K H x (cD p) ∧ Num K H y lo ∧ Num K H z hi ∧ lo < hi ∧ Norm p ∧ p.length ≤ 12 ∧ p ≠ [] ∧ MixSz p lo hi ∧ GivesL K H (mixd p lo hi (p.length - 1)) Q
theorem sc44 : FnScope ["curve", "low", "high", "degree", "powers", "found", "k", "total", "j"] ["curve", "low", "high", "degree"] (defScope (top 44)) := ⟨rfl, rfl, rfl, by decide +kernel, rfl, by decide +kernel, by decide +kernel⟩
theorem mixP_take (pw : Pl) {n i : Nat} (h : i < n + 1) : (mixP pw n).take (i + 1) = (mixP pw n).take i ++ [mixN pw n i] := by
  have hl : (mixP pw n).length = n + 1 := by simp [mixP]
  rw [List.take_add_one, List.getElem?_eq_getElem (by rw [hl]; exact h)]
  simp [mixP]
theorem sz_chs {n k : Nat} (h1 : n ≤ 12) (h2 : k ≤ 12) : (chs n k).natAbs ≤ 2 ^ 10 := by
  have := chs_bd h1 h2
  omega
theorem ok_mixed (F : Df K mg "mixed" 44) (B : Bl mg) (kM : KI mg "MOST_DEGREE_mixes" 12) (cA : Cal P w K mg base 34 "ask_stretch" (spAskStretch K)) (cOn : Cal P w K mg base 38 "on_one" (spOnOne K)) (cOf : Cal P w K mg base 35 "of_whole" (spOfWhole K)) (cP : Cal P w K mg base 35 "plus" (spPlus K)) (cT : Cal P w K mg base 35 "times" (spTimes K)) (cN : Cal P w K mg base 34 "number" (spNumber K)) (cC : Cal P w K mg base 33 "choose" spChoose) : Cal P w K mg base 39 "mixed" (spMixed K) := by
  refine F.cal sc44 (fun _ _ _ _ _ _ us hl => match us, hl with | [_, _, _, _], _ => rfl) (fun vs H Q E h => ?_) (fun f cdv A outer s H vs Q E hr h => ?_)
  · obtain ⟨_, _, _, _, _, _, rfl, _⟩ := h; rfl
  obtain ⟨x, y, z, p, lo, hi, rfl, hx, hy, hz, hlt, hN, h12, hpne, hms, q⟩ := h
  have hms' := hms
  obtain ⟨a, σ, τ, sa, sσ, sτ, smh, haL, hσL, hτL, hL1, hL2⟩ := hms'
  have h1p : 1 ≤ p.length := List.length_pos_iff.mpr hpne
  have hLIM := LIM_eq
  obtain ⟨ad, vs, rfl, hs, hn⟩ := cur_inv hx
  have hl := nums_len hn
  refine ⟨_, (pss_cons (ps_expr (pe_c cA hr (by decide) (by rfl) (pa_cons (pv 1) (pa_cons (pv 2) pa_nil))))
    (pss_cons (ps_if (PW.pt (pw_or (pt_cmpR op_lt (pv 3) pe_int (nomark _)) (pw_or (pt_cmpR op_lt (pv 3) (pe_op op_sub (pe_callB call_len_seq (by rfl) B.len PySem.boot_len (pa_cons (pv 0) pa_nil)) pe_int) (nomark _)) (pw_or1 (pt_cmpR op_gt (pv 3) (pe_gc (by rfl) kM) (nomark _)))))) pss_never pss_nil)
    (pss_cons (ps_set (i := 4) sc44.nd rfl (.inl rfl) (pe_c cOn hr (by decide) (by rfl) (pa_cons (pv 0) (pa_cons (pv 1) (pa_cons (pv 2) pa_nil)))))
    (pss_cons (ps_set (i := 5) sc44.nd rfl (.inl rfl) (pe_lst pa_nil))
    (pss_cons (ps_for PassesOwn.never rfl (pi_range1 rfl B.range (pa_cons (pe_op op_add (pv 3) pe_int) pa_nil)) (pg_name (i := 6) sc44.nd rfl (.inl rfl)) (pss_cons (ps_set (i := 7) sc44.nd rfl (.inl rfl) (pe_c cOf hr (by decide) (by rfl) (pa_cons (pe_int) pa_nil)))
    (pss_cons (ps_for PassesOwn.never rfl (pi_range1 rfl B.range (pa_cons (pe_callB (call_min2 rfl) (by rfl) B.min (by decide +kernel) (pa_cons (pe_op op_add (pv 6) pe_int) (pa_cons ((pe_callB call_len_seq (by rfl) B.len PySem.boot_len (pa_cons (pv 4) pa_nil))) pa_nil))) pa_nil)) (pg_name (i := 8) sc44.nd rfl (.inl rfl)) (pss_one (ps_set (i := 7) sc44.nd rfl (.inl rfl) (pe_c cP hr (by decide) (by rfl) (pa_cons (pv 7) (pa_cons (pe_c cT hr (by decide) (by rfl) (pa_cons (pe_c cN hr (by decide) (by rfl) (pa_cons (pe_c cC hr (by decide) (by rfl) (pa_cons (pv 6) (pa_cons (pv 8) pa_nil))) (pa_cons (pe_c cC hr (by decide) (by rfl) (pa_cons (pv 3) (pa_cons (pv 8) pa_nil))) pa_nil))) (pa_cons (pe_ix ix_list (pv 4) (pv 8) (fun _ _ => rfl)) pa_nil))) pa_nil))))))
    (pss_one (ps_expr (pe_bm PySem.F.plainAttrs_list PySem.F.slot_list_append PySem.F.type_list_append mt_append (pv 5) (pa_cons (pv 7) pa_nil)))))))
    (pss_one (ps_ret (pv 5)))))))), ?_⟩
  refine ⟨_, rfl, _, rfl, _, _, lo, hi, rfl, hy, hz, sσ.sm hσL, smh, hlt, ?_⟩
  -- the refusals
  refine ⟨_, rfl, _, _, rfl, rfl, _, rfl, ite2 (fun e => ?_) (fun _ => ?_)⟩
  · have e : ((p.length - 1 : Nat) : Int) < 0 := of_decide_eq_true e
    omega
  refine ⟨_, rfl, _, rfl, ad, vs, rfl, .inr hs, _, _, rfl, rfl, _, _, rfl, rfl, _, rfl, ite2 (fun e => ?_) (fun _ => ?_)⟩
  · have e : ((p.length - 1 : Nat) : Int) < (vs.length : Int) - 1 := of_decide_eq_true e
    omega
  refine ⟨_, rfl, _, _, rfl, rfl, _, rfl, ite2 (fun e => ?_) (fun _ => ?_)⟩
  · have e : (12 : Int) < ((p.length - 1 : Nat) : Int) := of_decide_eq_true e
    omega
  -- powers
  refine ⟨_, rfl, _, rfl, _, rfl, _, _, _, p, lo, hi, rfl, hx, hy, hz, hlt, hN, h12, hpne, hms, fun H1 l ws s1 nl1 el hws => ?_⟩
  have hpl := onOne_len hN lo hi
  have hwl := nums_len hws
  have szo := SzL.onOne hN sa sσ sτ
  refine ⟨Nat.zero_le _, fun D dn => ?_⟩
  have hD : H D = none := s1.free dn
  refine ⟨_, rfl, _, _, rfl, rfl, _, rfl, by omega, by omega, ?_⟩
  have en : (((p.length - 1 : Nat) : Int) + 1).toNat = p.length := by omega
  refine for_range (lo := 0) (n := (((p.length - 1 : Nat) : Int) + 1).toNat) (fun k σ' H2 => ∃ y6 y7 y8, σ' = [some (.ref ad), some y, some z, some (.int (p.length - 1 : Nat)), some (.ref l), some (.ref D), y6, y7, y8] ∧ Acc K H1 D H2 (((mixP (onOne p lo hi) (p.length - 1)).take k).map nD)) ⟨none, none, none, rfl, .start dn⟩ (fun k σ' H2 hk h => ?_) (fun σ' H2 h => ?_)
  · obtain ⟨y6, y7, y8, rfl, hA⟩ := h
    rw [en] at hk
    rw [show (0 : Int) + (k : Nat) = ((k : Nat) : Int) by omega]
    refine ⟨_, rfl, fun H3 v3 s3 hv3 => ?_⟩
    rw [int_zero] at hv3
    have hle3 := hA.sm.trans s3
    refine ⟨_, rfl, _, _, rfl, rfl, _, rfl, l, ws, rfl, .inl (SqL.of (hle3 _ _ el)), _, _, rfl, ?_⟩
    have em : (if (ws.length : Int) < (k : Int) + 1 then (ws.length : Int) else (k : Int) + 1) = ((min (k + 1) p.length : Nat) : Int) := by split <;> omega
    rw [em]
    refine ⟨_, rfl, by omega, by omega, ?_⟩
    have hf : ∀ j, j < min (k + 1) p.length → Sz (movN a σ p.length + p.length * τ + 10) ((chs k j : Rat) / (chs (p.length - 1 : Nat) j : Rat) * co (onOne p lo hi) j) := fun j hj => by
      have h1 := (Sz.int (sz_chs (n := k) (k := j) (by omega) (by omega)))
      have hdiv : Sz 10 ((chs k j : Rat) / (chs (p.length - 1 : Nat) j : Rat)) := by
        rw [← Rat.divInt_eq_div]
        exact .divInt (sz_chs (by omega) (by omega)) (sz_chs (by omega) (by omega))
      exact (hdiv.mul (szo.co j)).mono (by omega)
    refine for_range (lo := 0) (n := ((min (k + 1) p.length : Nat) : Int).toNat) (fun m σ' H4 => ∃ v7 y8, m ≤ min (k + 1) p.length ∧ σ' = [some (.ref ad), some y, some z, some (.int (p.length - 1 : Nat)), some (.ref l), some (.ref D), some (.int (k : Nat)), some v7, y8] ∧ Same H3 H4 ∧ Num K H4 v7 (sumTo (fun j => (chs k j : Rat) / (chs (p.length - 1 : Nat) j : Rat) * co (onOne p lo hi) j) m) ∧ Sz (m * (movN a σ p.length + p.length * τ + 11)) (sumTo (fun j => (chs k j : Rat) / (chs (p.length - 1 : Nat) j : Rat) * co (onOne p lo hi) j) m)) ⟨v3, y8, Nat.zero_le _, rfl, .refl _, hv3, Sz.zero _⟩ (fun m σ' H4 hm h => ?_) (fun σ' H4 h => ?_)
    · obtain ⟨v7, y8', hm2, rfl, s4, hv7, sz7⟩ := h
      have hm : m < min (k + 1) p.length := hm
      rw [show (0 : Int) + (m : Nat) = ((m : Nat) : Int) by omega]
      have hl4 := (hle3.trans s4) _ _ el
      obtain ⟨vp, hvp, hvp2⟩ := nums_get hws (i := m) (by omega)
      rw [← co_lt] at hvp2
      have hmm : (m + 1) * (movN a σ p.length + p.length * τ + 11) ≤ LIM := by
        refine Nat.le_trans (Nat.mul_le_mul (show m + 1 ≤ p.length by omega) (show movN a σ p.length + p.length * τ + 11 ≤ movN a σ p.length + p.length * τ + 20 by omega)) hL2
      rw [Nat.succ_mul] at hmm
      have hb2 := chs_bd (n := p.length - 1) (k := m) (by omega) (by omega)
      refine ⟨_, rfl, _, rfl, _, rfl, k, m, rfl, by omega, by omega, ?_⟩
      refine ⟨_, rfl, _, rfl, p.length - 1, m, rfl, by omega, by omega, ?_⟩
      refine ⟨_, _, rfl, hb2.2.2 (by omega), fun H5 v5 s5 hv5 => ?_⟩
      rw [Rat.divInt_eq_div] at hv5
      refine ⟨_, rfl, _, rfl, l, ws, _, vp, rfl, rfl, SqL.of (s5 _ _ hl4), atI_nat hvp, ?_⟩
      have hdiv : Sz 10 ((chs k m : Rat) / (chs (p.length - 1 : Nat) m : Rat)) := by
        rw [← Rat.divInt_eq_div]
        exact .divInt (sz_chs (by omega) (by omega)) (sz_chs (by omega) (by omega))
      refine ⟨_, _, _, _, rfl, hv5, dp_mono ((hle3.trans s4).trans s5) hvp2, ⟨hdiv.sm (by omega), (szo.co m).sm (by omega)⟩, fun H6 v6 s6 hv6 => ?_⟩
      refine ⟨_, _, _, _, rfl, dp_mono (s5.trans s6) hv7, hv6, ⟨sz7.sm (by omega), (hf m hm).sm (by omega)⟩, fun H7 v8 s7 hv8 => ?_⟩
      refine ⟨v8, some (.int (m : Nat)), by omega, rfl, ((s4.trans s5).trans s6).trans s7, hv8, (sz7.add (hf m hm)).mono (by rw [Nat.succ_mul]; omega)⟩
    · obtain ⟨v7, y8', _, rfl, s4, hv7, _⟩ := h
      have hv7 : Num K H4 v7 (sumTo (fun j => (chs k j : Rat) / (chs (p.length - 1 : Nat) j : Rat) * co (onOne p lo hi) j) (min (k + 1) p.length)) := hv7
      have emix : sumTo (fun j => (chs k j : Rat) / (chs (p.length - 1 : Nat) j : Rat) * co (onOne p lo hi) j) (min (k + 1) p.length) = mixN (onOne p lo hi) (p.length - 1) k := by unfold mixN; rw [hpl]
      rw [emix] at hv7
      obtain ⟨acc, e1, e2, h2⟩ := hA.push (s3.trans s4) dn hv7 (nl_nD _) (nls_map _)
      refine ⟨_, rfl, .inl ⟨rfl, _, .inl (.inl e1)⟩, _, rfl, D, acc, _, rfl, rfl, e1, line_ok (by rw [e2, List.length_map, List.length_take]; omega), some (.int (k : Nat)), _, _, rfl, ?_⟩
      rw [mixP_take _ (by omega), List.map_append]
      exact h2
  · obtain ⟨y6, y7, y8, rfl, hA⟩ := h
    have hlen : (mixP (onOne p lo hi) (p.length - 1)).length = p.length - 1 + 1 := by simp [mixP]
    rw [en, List.take_of_length_le (by omega)] at hA
    obtain ⟨acc, e1, n1⟩ := hA.ex
    exact ⟨_, rfl, q _ D acc (s1.trans hA.sm) hD e1 n1⟩
end
end NB

set_option Elab.async false
set_option linter.all false
set_option maxRecDepth 100000
set_option maxHeartbeats 4000000
namespace NB
open PySem PySem.Spec PyProof.Rows L2
theorem sgn_nn (a : Rat) : 0 ≤ sgn a ↔ 0 ≤ a := by
  unfold sgn
  by_cases h1 : 0 < a
  · rw [if_pos h1]; constructor <;> intro _ <;> first | decide | exact Rat.le_of_lt h1
  · by_cases h2 : a < 0
    · rw [if_neg h1, if_pos h2]; constructor
      · intro h; omega
      · intro h; grind
    · rw [if_neg h1, if_neg h2]; constructor
      · intro _; grind
      · intro _; omega
theorem sgn_pos (a : Rat) : 0 < sgn a ↔ 0 < a := by
  unfold sgn
  by_cases h1 : 0 < a
  · rw [if_pos h1]; simp [h1]
  · by_cases h2 : a < 0
    · rw [if_neg h1, if_pos h2]; simp [h1]
    · rw [if_neg h1, if_neg h2]; simp [h1]
theorem sgn_neg (a : Rat) : sgn a < 0 ↔ a < 0 := by
  have := sgn_nn a
  constructor
  · intro h
    by_cases h2 : 0 ≤ a
    · have := this.mpr h2; omega
    · grind
  · intro h
    by_cases h2 : 0 ≤ sgn a
    · have := this.mp h2; grind
    · omega
theorem sgn_np (a : Rat) : sgn a ≤ 0 ↔ a ≤ 0 := by
  have := sgn_pos a
  constructor
  · intro h
    by_cases h2 : 0 < a
    · have := this.mpr h2; omega
    · grind
  · intro h
    by_cases h2 : 0 < sgn a
    · have := this.mp h2; grind
    · omega
theorem sgn_zero (a : Rat) : sgn a = 0 ↔ a = 0 := by
  have h1 := sgn_nn a
  have h2 := sgn_np a
  constructor
  · intro h
    have := h1.mp (by omega)
    have := h2.mp (by omega)
    grind
  · intro h
    have := h1.mpr (by grind)
    have := h2.mpr (by grind)
    omega
theorem sgn_bd (a : Rat) : -1 ≤ sgn a ∧ sgn a ≤ 1 := by unfold sgn; split <;> (try split) <;> omega
theorem sgn_mul (a b : Rat) : sgn a * sgn b = -1 ↔ a * b < 0 := by
  unfold sgn
  by_cases a1 : 0 < a
  · by_cases b1 : 0 < b
    · have := Rat.mul_pos a1 b1
      simp only [a1, b1, if_true]; constructor <;> intro h <;> first | omega | grind
    · by_cases b2 : b < 0
      · have := Rat.mul_pos a1 (show (0 : Rat) < -b by grind)
        simp only [a1, b1, b2, if_true, if_false]; constructor <;> intro h <;> first | omega | grind
      · have : b = 0 := by grind
        subst this
        simp only [a1, b1, b2, if_true, if_false]; constructor <;> intro h <;> first | omega | grind
  · by_cases a2 : a < 0
    · by_cases b1 : 0 < b
      · have := Rat.mul_pos (show (0 : Rat) < -a by grind) b1
        simp only [a1, a2, b1, if_true, if_false]; constructor <;> intro h <;> first | omega | grind
      · by_cases b2 : b < 0
        · have := Rat.mul_pos (show (0 : Rat) < -a by grind) (show (0 : Rat) < -b by grind)
          simp only [a1, a2, b1, b2, if_true, if_false]; constructor <;> intro h <;> first | omega | grind
        · have : b = 0 := by grind
          subst this
          simp only [a1, a2, b1, b2, if_true, if_false]; constructor <;> intro h <;> first | omega | grind
    · have : a = 0 := by grind
      subst this
      simp only [a1, a2, if_false]; constructor <;> intro h <;> first | omega | grind
section
variable {p : Pl} {m M : Int}
theorem mn_nn (h1 : m ∈ p.map sgn) (h2 : ∀ y, y ∈ p.map sgn → m ≤ y) : 0 ≤ m ↔ ∀ a ∈ p, 0 ≤ a := by
  constructor
  · intro h a ha
    have := h2 _ (List.mem_map_of_mem (f := sgn) ha)
    exact (sgn_nn a).mp (by omega)
  · intro h
    obtain ⟨a, ha, rfl⟩ := List.mem_map.mp h1
    exact (sgn_nn a).mpr (h a ha)
theorem mn_neg (h1 : m ∈ p.map sgn) (h2 : ∀ y, y ∈ p.map sgn → m ≤ y) : m < 0 ↔ ∃ a ∈ p, a < 0 := by
  constructor
  · intro h
    obtain ⟨a, ha, rfl⟩ := List.mem_map.mp h1
    exact ⟨a, ha, (sgn_neg a).mp h⟩
  · rintro ⟨a, ha, h⟩
    have := h2 _ (List.mem_map_of_mem (f := sgn) ha)
    have := (sgn_neg a).mpr h
    omega
theorem mx_pos (h1 : M ∈ p.map sgn) (h2 : ∀ y, y ∈ p.map sgn → y ≤ M) : 0 < M ↔ ∃ a ∈ p, 0 < a := by
  constructor
  · intro h
    obtain ⟨a, ha, rfl⟩ := List.mem_map.mp h1
    exact ⟨a, ha, (sgn_pos a).mp h⟩
  · rintro ⟨a, ha, h⟩
    have := h2 _ (List.mem_map_of_mem (f := sgn) ha)
    have := (sgn_pos a).mpr h
    omega
theorem mx_np (h1 : M ∈ p.map sgn) (h2 : ∀ y, y ∈ p.map sgn → y ≤ M) : M ≤ 0 ↔ ∀ a ∈ p, a ≤ 0 := by
  constructor
  · intro h a ha
    have := h2 _ (List.mem_map_of_mem (f := sgn) ha)
    exact (sgn_np a).mp (by omega)
  · intro h
    obtain ⟨a, ha, rfl⟩ := List.mem_map.mp h1
    exact (sgn_np a).mpr (h a ha)
end
def iD (i : Int) : PyData := .int i
theorem dpa_ints {K : PySem.W.Frag} {H : Hp} : ∀ {ns : List Int} {vs : List V}, DpAll K H vs (ns.map iD) → vs = ns.map V.int
  | [], _, h => by cases h; rfl
  | n :: ns, _, h => by
    have h' : DpAll K H _ (iD n :: ns.map iD) := h
    cases h' with
    | cons h1 h2 =>
      unfold iD at h1
      cases h1
      rw [dpa_ints h2]; rfl
theorem nls_ints (ns : List Int) : nls (ns.map iD) = true := by
  induction ns with
  | nil => rfl
  | cons a p ih => simp only [List.map_cons, nls, iD, nl, Bool.true_and]; exact ih
def WSz (p : Pl) (t : Rat) : Prop := ∃ n m, SzL n p ∧ Sz m t ∧ p.length * (n + m + 1) ≤ LIM ∧ n ≤ LIM ∧ m ≤ LIM
/-- hands back this, above what stood -/
abbrev Says (H : Hp) (v : V) (Q : VK) : Prop := ∀ H', Same H H' → Q v H'
section
variable {P : Program} {w : World} {K : PySem.W.Frag} {mg : Str → Option Value} {base : Heap}
/-! ### sign_of -/
def spSignOf (K : PySem.W.Frag) : Sp := fun vs H Q _ => ∃ x p, vs = [x] ∧ Dp K H x (lD p) ∧ p ≠ [] ∧ p.length ≤ 100 ∧ Says H (.int (sgnOf p)) Q
theorem sc45 : FnScope ["numbers", "signs", "one"] ["numbers"] (defScope (top 45)) := ⟨rfl, rfl, rfl, by decide +kernel, rfl, by decide +kernel, by decide +kernel⟩
theorem ok_sign_of (F : Df K mg "sign_of" 45) (B : Bl mg) (cS : Cal P w K mg base 33 "sign" (spSign K)) : Cal P w K mg base 34 "sign_of" (spSignOf K) := by
  refine F.cal sc45 (fun _ _ _ _ _ _ us hl => match us, hl with | [_], _ => rfl) (fun vs H Q E h => ?_) (fun f cdv A outer s H vs Q E hr h => ?_)
  · obtain ⟨_, _, rfl, _⟩ := h; rfl
  obtain ⟨x, p, rfl, hx, hp, h100, q⟩ := h
  obtain ⟨ad, vs, rfl, hs, hn⟩ := lst_inv hx
  have hl := nums_len hn
  have h1p : 1 ≤ p.length := List.length_pos_iff.mpr hp
  refine ⟨_, (pss_cons (ps_setLc (i := 1) (own := [("one", 2)]) (g := gName 2) (tt := tYes) rfl sc45.nd rfl rfl (sw_true rfl rfl rfl (by decide +kernel)) (pi_list (pv 0)) (blkOk_by (N := ["numbers", "signs", "one"]) (sc := defScope (top 45)) (by decide +kernel))
      (fun _ _ _ _ _ => pg_name (i := 2) sc45.nd rfl (.inl rfl)) (fun _ _ _ _ _ => pts_nil) (fun _ _ _ _ _ => pe_c cS hr (by decide) (by rfl) (pa_cons (pv 2) pa_nil)))
    (pss_cons (ps_if (PW.pt (pw_and (pt_cmpR op_ge (pe_callB (cr_min rfl) (by rfl) B.min (by decide +kernel) (pa_cons (pv 1) pa_nil)) pe_int (nomark _)) (pw_and1 (pt_cmpR op_gt (pe_callB (cr_max rfl) (by rfl) B.max (by decide +kernel) (pa_cons (pv 1) pa_nil)) pe_int (nomark _))))) (pss_one (ps_ret pe_int)) pss_nil)
    (pss_cons (ps_if (PW.pt (pw_and (pt_cmpR op_le (pe_callB (cr_max rfl) (by rfl) B.max (by decide +kernel) (pa_cons (pv 1) pa_nil)) pe_int (nomark _)) (pw_and1 (pt_cmpR op_lt (pe_callB (cr_min rfl) (by rfl) B.min (by decide +kernel) (pa_cons (pv 1) pa_nil)) pe_int (nomark _))))) (pss_one (ps_ret (pe_un un_neg pe_int))) pss_nil)
    (pss_one (ps_ret pe_int))))), ?_⟩
  refine ⟨_, rfl, ad, rfl, ⟨_, hs⟩, fun D dn => lc_list (K := K) (a := ad) (xs := vs) (fun i H1 => Acc K H D H1 (((p.take i).map sgn).map iD)) (.start dn) (fun i H1 _ h => h.sm.seq hs) (fun i z H1 hz h => ?_) (fun H1 h => ?_)⟩
  · obtain ⟨hj, hz2⟩ := nums_get' hn hz
    refine ⟨rfl, tYes_of ?_⟩
    refine ⟨_, rfl, _, p[i], rfl, dp_mono h.sm hz2, ?_⟩
    obtain ⟨acc, e1, e2, h2⟩ := h.push (d := iD (sgn p[i])) (.refl _) dn (.int _) rfl (nls_ints _)
    refine ⟨acc, e1, line_ok (by rw [e2, List.length_map, List.length_map, List.length_take]; omega), ?_⟩
    rw [List.take_add_one, List.getElem?_eq_getElem hj]
    simp only [Option.toList, List.map_append, List.map_cons, List.map_nil]
    exact h2
  · rw [hl, List.take_length] at h
    obtain ⟨acc, e1, n1⟩ := h.ex
    have ea := dpa_ints n1
    rw [ea] at e1
    have hlen : 0 < (p.map sgn).length := by rw [List.length_map]; omega
    refine ⟨_, rfl, D, p.map sgn, rfl, SqL.of e1, hlen, fun m m1 m2 => ?_⟩
    have c2 : ∀ b : Bool, (¬ ((∀ a ∈ p, 0 ≤ a) ∧ ∃ a ∈ p, 0 < a)) → b = false → (tSeq (tIfS (tAnd (tTest (tOp (rI0 fun i j => .bl (decide (i ≤ j))) (tCB (rMax K) (tCons (tVar 1) tNil)) (tC (.int 0)))) (tTest (tOp (rI0 fun i j => .bl (decide (i < j))) (tCB (rMin K) (tCons (tVar 1) tNil)) (tC (.int 0))))) (tRet (tUn (rU fun i => .int (-i)) (tC (.int 1)))) tNext) (tRet (tC (.int 0)))) { nx := fun _ H' => Q .non H', rt := Q } [some (.ref ad), some (.ref D), none] H1 := fun b hno _ => by
      refine ⟨_, rfl, D, p.map sgn, rfl, SqL.of e1, hlen, fun M M1 M2 => ⟨_, _, rfl, rfl, _, rfl, ite2 (fun e => ?_) (fun e => ?_)⟩⟩
      · have e : M ≤ 0 := of_decide_eq_true e
        refine ⟨_, rfl, D, p.map sgn, rfl, SqL.of e1, hlen, fun m' m1' m2' => ⟨_, _, rfl, rfl, _, rfl, ite2 (fun e2 => ?_) (fun e2 => ?_)⟩⟩
        · have e2 : m' < 0 := of_decide_eq_true e2
          have es : sgnOf p = -1 := by
            unfold sgnOf
            rw [if_neg hno, if_pos ⟨(mx_np M1 M2).mp e, (mn_neg m1' m2').mp e2⟩]
          rw [es] at q
          exact ⟨_, rfl, q _ h.sm⟩
        · have e2 : ¬ m' < 0 := fun z => e2 (decide_eq_true z)
          have es : sgnOf p = 0 := by
            unfold sgnOf
            rw [if_neg hno, if_neg (fun z => e2 ((mn_neg m1' m2').mpr z.2))]
          rw [es] at q
          exact q _ h.sm
      · have e : ¬ M ≤ 0 := fun z => e (decide_eq_true z)
        have es : sgnOf p = 0 := by
          unfold sgnOf
          rw [if_neg hno, if_neg (fun z => e ((mx_np M1 M2).mpr z.1))]
        rw [es] at q
        exact iteF (q _ h.sm)
    refine ⟨_, _, rfl, rfl, _, rfl, ite2 (fun e => ?_) (fun e => ?_)⟩
    · have e : 0 ≤ m := of_decide_eq_true e
      refine ⟨_, rfl, D, p.map sgn, rfl, SqL.of e1, hlen, fun M M1 M2 => ⟨_, _, rfl, rfl, _, rfl, ite2 (fun e2 => ?_) (fun e2 => ?_)⟩⟩
      · have e2 : 0 < M := of_decide_eq_true e2
        have es : sgnOf p = 1 := by
          unfold sgnOf
          rw [if_pos ⟨(mn_nn m1 m2).mp e, (mx_pos M1 M2).mp e2⟩]
        rw [es] at q
        exact q _ h.sm
      · have e2 : ¬ 0 < M := fun z => e2 (decide_eq_true z)
        exact c2 false (fun z => e2 ((mx_pos M1 M2).mpr z.2)) rfl
    · have e : ¬ 0 ≤ m := fun z => e (decide_eq_true z)
      exact iteF (c2 false (fun z => e ((mn_nn m1 m2).mpr z.1)) rfl)
/-! ### ask_mapped, is_nought, has_unlike_ends, slope_numbers, halfway -/
def spAskMapped (K : PySem.W.Frag) : Sp := fun vs H Q _ => ∃ x y z p a b, vs = [x, y, z] ∧ Dp K H x (cD p) ∧ Num K H y a ∧ Num K H z b ∧ p ≠ [] ∧ p.length ≤ 7 ∧ Sm a ∧ Sm b ∧ a < b ∧ Says H .non Q
theorem sc48 : FnScope ["curve", "low", "high"] ["curve", "low", "high"] (defScope (top 48)) := ⟨rfl, rfl, rfl, by decide +kernel, rfl, by decide +kernel, by decide +kernel⟩
theorem ok_ask_mapped (F : Df K mg "ask_mapped" 48) (B : Bl mg) (kM : KI mg "MOST_MAPPED" 6) (cA : Cal P w K mg base 34 "ask_stretch" (spAskStretch K)) : Cal P w K mg base 35 "ask_mapped" (spAskMapped K) := by
  refine F.cal sc48 (fun _ _ _ _ _ _ us hl => match us, hl with | [_, _, _], _ => rfl) (fun vs H Q E h => ?_) (fun f cdv A outer s H vs Q E hr h => ?_)
  · obtain ⟨_, _, _, _, _, _, rfl, _⟩ := h; rfl
  obtain ⟨x, y, z, p, a, b, rfl, hx, hy, hz, hp, h7, sa, sb, hab, q⟩ := h
  obtain ⟨ad, vs, rfl, hs, hn⟩ := cur_inv hx
  have hl := nums_len hn
  refine ⟨_, (pss_cons (ps_if (pt_cmpR (op_eqD hr.units) (pv 0) (pe_tup pa_nil) (nomark _)) pss_never pss_nil)
    (pss_cons (ps_if (pt_cmpR op_gt (pe_op op_sub (pe_callB call_len_seq (by rfl) B.len PySem.boot_len (pa_cons (pv 0) pa_nil)) pe_int) (pe_gc (by rfl) kM) (nomark _)) pss_never pss_nil)
    (pss_one (ps_expr (pe_c cA hr (by decide) (by rfl) (pa_cons (pv 1) (pa_cons (pv 2) pa_nil))))))), ?_⟩
  refine ⟨_, rfl, Nat.zero_le _, fun t0 nt0 => ⟨cD p, cD [], dp_mono (same_upd nt0) hx, .tup (SqT.of upd_same) .nil, cD_shaped p, cD_shaped [], _, rfl, ?_⟩⟩
  have s0 := same_upd (o := .tup []) nt0
  rw [cD_eqv]
  refine ite2 (fun e => absurd (of_decide_eq_true e) hp) (fun _ => ?_)
  refine ⟨_, rfl, ad, vs, rfl, .inr (sqT_mono s0 hs), _, _, rfl, rfl, _, _, rfl, rfl, _, rfl, ite2 (fun e => ?_) (fun _ => ?_)⟩
  · have e : (6 : Int) < (vs.length : Int) - 1 := of_decide_eq_true e
    omega
  exact ⟨_, rfl, _, rfl, _, _, a, b, rfl, dp_mono s0 hy, dp_mono s0 hz, sa, sb, hab, q _ s0⟩
def spIsNought (K : PySem.W.Frag) : Sp := fun vs H Q _ => ∃ x y p t, vs = [x, y] ∧ Dp K H x (cD p) ∧ Num K H y t ∧ WSz p t ∧ Says H (.bl (decide (ev p t = 0))) Q
theorem sc49 : FnScope ["curve", "x"] ["curve", "x"] (defScope (top 49)) := ⟨rfl, rfl, rfl, by decide +kernel, rfl, by decide +kernel, by decide +kernel⟩
theorem ok_is_nought (F : Df K mg "is_nought" 49) (cS : Cal P w K mg base 33 "sign" (spSign K)) (cW : Cal P w K mg base 36 "worth" (spWorth K)) : Cal P w K mg base 37 "is_nought" (spIsNought K) := by
  refine F.cal sc49 (fun _ _ _ _ _ _ us hl => match us, hl with | [_, _], _ => rfl) (fun vs H Q E h => ?_) (fun f cdv A outer s H vs Q E hr h => ?_)
  · obtain ⟨_, _, _, _, rfl, _⟩ := h; rfl
  obtain ⟨x, y, p, t, rfl, hx, hy, hw, q⟩ := h
  refine ⟨_, (pss_one (ps_ret (pe_cmpR op_eq (pe_c cS hr (by decide) (by rfl) (pa_cons (pe_c cW hr (by decide) (by rfl) (pa_cons (pv 0) (pa_cons (pv 1) pa_nil))) pa_nil)) pe_int (nomark _)))), ?_⟩
  refine ⟨_, rfl, _, rfl, _, _, p, t, rfl, hx, hy, hw, fun H1 v s1 hv => ?_⟩
  refine ⟨_, _, rfl, hv, rfl, ?_⟩
  have e : decide (V.int (sgn (ev p t)) = V.int 0) = decide (ev p t = 0) := decide_eq_decide.mpr ⟨fun h => (sgn_zero _).mp (V.int.inj h), fun h => by rw [(sgn_zero _).mpr h]⟩
  rw [e]; exact q _ s1
def spUnlike (K : PySem.W.Frag) : Sp := fun vs H Q _ => ∃ x y z p a b, vs = [x, y, z] ∧ Dp K H x (cD p) ∧ Num K H y a ∧ Num K H z b ∧ WSz p a ∧ WSz p b ∧ Says H (.bl (decide (ev p a * ev p b < 0))) Q
theorem sc50 : FnScope ["flat", "start", "end"] ["flat", "start", "end"] (defScope (top 50)) := ⟨rfl, rfl, rfl, by decide +kernel, rfl, by decide +kernel, by decide +kernel⟩
theorem ok_has_unlike_ends (F : Df K mg "has_unlike_ends" 50) (cS : Cal P w K mg base 33 "sign" (spSign K)) (cW : Cal P w K mg base 36 "worth" (spWorth K)) : Cal P w K mg base 37 "has_unlike_ends" (spUnlike K) := by
  refine F.cal sc50 (fun _ _ _ _ _ _ us hl => match us, hl with | [_, _, _], _ => rfl) (fun vs H Q E h => ?_) (fun f cdv A outer s H vs Q E hr h => ?_)
  · obtain ⟨_, _, _, _, _, _, rfl, _⟩ := h; rfl
  obtain ⟨x, y, z, p, a, b, rfl, hx, hy, hz, hw, hw2, q⟩ := h
  refine ⟨_, (pss_one (ps_ret (pe_cmpR op_eq (pe_op op_mul (pe_c cS hr (by decide) (by rfl) (pa_cons (pe_c cW hr (by decide) (by rfl) (pa_cons (pv 0) (pa_cons (pv 1) pa_nil))) pa_nil)) (pe_c cS hr (by decide) (by rfl) (pa_cons (pe_c cW hr (by decide) (by rfl) (pa_cons (pv 0) (pa_cons (pv 2) pa_nil))) pa_nil))) (pe_un un_neg pe_int) (nomark _)))), ?_⟩
  refine ⟨_, rfl, _, rfl, _, _, p, a, rfl, hx, hy, hw, fun H1 v s1 hv => ?_⟩
  refine ⟨_, _, rfl, hv, ?_⟩
  refine ⟨_, rfl, _, rfl, _, _, p, b, rfl, dp_mono s1 hx, dp_mono s1 hz, hw2, fun H2 v2 s2 hv2 => ?_⟩
  have b1 := sgn_bd (ev p a)
  have b2 := sgn_bd (ev p b)
  refine ⟨_, _, rfl, hv2, _, _, rfl, rfl, .inl ⟨by omega, by omega⟩, _, rfl, rfl, ?_⟩
  have e : decide (V.int (sgn (ev p a) * sgn (ev p b)) = V.int (-1)) = decide (ev p a * ev p b < 0) := decide_eq_decide.mpr ⟨fun h => (sgn_mul _ _).mp (V.int.inj h), fun h => by rw [(sgn_mul _ _).mpr h]⟩
  show Q (.bl (decide (V.int (sgn (ev p a) * sgn (ev p b)) = V.int (-1)))) H2
  rw [e]; exact q _ (s1.trans s2)
def spSlopeNumbers (K : PySem.W.Frag) : Sp := fun vs H Q _ => ∃ x y z p a b, vs = [x, y, z] ∧ Dp K H x (cD p) ∧ Num K H y a ∧ Num K H z b ∧ a < b ∧ Norm p ∧ 2 ≤ p.length ∧ p.length ≤ 12 ∧ (∀ c ∈ p, Sm c) ∧ MixSz (slp p) a b ∧ GivesL K H (mixd (slp p) a b ((slp p).length - 1)) Q
theorem sc51 : FnScope ["flat", "start", "end", "steep"] ["flat", "start", "end"] (defScope (top 51)) := ⟨rfl, rfl, rfl, by decide +kernel, rfl, by decide +kernel, by decide +kernel⟩
theorem ok_slope_numbers (F : Df K mg "slope_numbers" 51) (B : Bl mg) (cSl : Cal P w K mg base 36 "slope" (spSlope K)) (cM : Cal P w K mg base 39 "mixed" (spMixed K)) : Cal P w K mg base 40 "slope_numbers" (spSlopeNumbers K) := by
  refine F.cal sc51 (fun _ _ _ _ _ _ us hl => match us, hl with | [_, _, _], _ => rfl) (fun vs H Q E h => ?_) (fun f cdv A outer s H vs Q E hr h => ?_)
  · obtain ⟨_, _, _, _, _, _, rfl, _⟩ := h; rfl
  obtain ⟨x, y, z, p, a, b, rfl, hx, hy, hz, hab, hN, h2, h12, sp, hms, q⟩ := h
  refine ⟨_, (pss_cons (ps_set (i := 3) sc51.nd rfl (.inl rfl) (pe_c cSl hr (by decide) (by rfl) (pa_cons (pv 0) pa_nil)))
    (pss_one (ps_ret (pe_c cM hr (by decide) (by rfl) (pa_cons (pv 3) (pa_cons (pv 1) (pa_cons (pv 2) (pa_cons (pe_op op_sub (pe_callB call_len_seq (by rfl) B.len PySem.boot_len (pa_cons (pv 3) pa_nil)) pe_int) pa_nil)))))))), ?_⟩
  refine ⟨_, rfl, _, p, rfl, hx, by omega, sp, fun H1 v s1 hv => ?_⟩
  obtain ⟨sd, ws, rfl, hs, hn⟩ := cur_inv hv
  have hl := nums_len hn
  have hsl := slp_len p
  refine ⟨_, rfl, _, rfl, _, rfl, _, rfl, sd, ws, rfl, .inr hs, _, _, rfl, rfl, ?_⟩
  refine ⟨_, _, _, slp p, a, b, ?_, hv, dp_mono s1 hy, dp_mono s1 hz, hab, Norm_slp hN, by omega, fun z => by rw [z] at hsl; simp at hsl; omega, hms, fun H2 l vs s2 nl2 e2 n2 => q _ _ _ (s1.trans s2) (s1.free nl2) e2 n2⟩
  show [V.ref sd, y, z, V.int ((ws.length : Int) - 1)] = _
  rw [show (ws.length : Int) - 1 = (((slp p).length - 1 : Nat) : Int) by omega]
def spHalf (K : PySem.W.Frag) : Sp := spN2 K (fun a b => Sm a ∧ Sm b ∧ Sm (a + b)) fun a b => (a + b) / 2
theorem sc53 : FnScope ["start", "end"] ["start", "end"] (defScope (top 53)) := ⟨rfl, rfl, rfl, by decide +kernel, rfl, by decide +kernel, by decide +kernel⟩
theorem divInt_two : Rat.divInt 2 1 = 2 := by rw [divInt_one]; rfl
theorem sm_two : Sm 2 := (Sz.int (n := 1) (k := 2) (by decide)).sm (by rw [LIM_eq]; omega)
theorem ok_halfway (F : Df K mg "halfway" 53) (cO : Cal P w K mg base 35 "over" (spOver K)) (cP : Cal P w K mg base 35 "plus" (spPlus K)) (cN : Cal P w K mg base 34 "number" (spNumber K)) : Cal P w K mg base 36 "halfway" (spHalf K) := by
  refine F.cal sc53 (fun _ _ _ _ _ _ us hl => match us, hl with | [_, _], _ => rfl) (fun vs H Q E h => ?_) (fun f cdv A outer s H vs Q E hr h => ?_)
  · obtain ⟨_, _, _, _, rfl, _⟩ := h; rfl
  obtain ⟨x, y, a, b, rfl, hx, hy, ⟨sa, sb, sab⟩, q⟩ := h
  refine ⟨_, (pss_one (ps_ret (pe_c cO hr (by decide) (by rfl) (pa_cons (pe_c cP hr (by decide) (by rfl) (pa_cons (pv 0) (pa_cons (pv 1) pa_nil))) (pa_cons (pe_c cN hr (by decide) (by rfl) (pa_cons (pe_int) (pa_cons (pe_int) pa_nil))) pa_nil))))), ?_⟩
  refine ⟨_, rfl, _, rfl, _, _, a, b, rfl, hx, hy, ⟨sa, sb⟩, fun H1 v s1 hv => ?_⟩
  refine ⟨_, _, rfl, by omega, fun H2 v2 s2 hv2 => ?_⟩
  rw [divInt_two] at hv2
  exact ⟨_, _, a + b, 2, rfl, dp_mono s2 hv, hv2, ⟨⟨sab, sm_two⟩, by grind⟩, fun H3 v3 s3 hv3 => q _ _ ((s1.trans s2).trans s3) hv3⟩
theorem sc59 : FnScope ["one", "other"] ["one", "other"] (defScope (top 59)) := ⟨rfl, rfl, rfl, by decide +kernel, rfl, by decide +kernel, by decide +kernel⟩
theorem ok_half_way (F : Df K mg "half_way" 59) (cO : Cal P w K mg base 35 "over" (spOver K)) (cP : Cal P w K mg base 35 "plus" (spPlus K)) : Cal P w K mg base 36 "half_way" (spHalf K) := by
  refine F.cal sc59 (fun _ _ _ _ _ _ us hl => match us, hl with | [_, _], _ => rfl) (fun vs H Q E h => ?_) (fun f cdv A outer s H vs Q E hr h => ?_)
  · obtain ⟨_, _, _, _, rfl, _⟩ := h; rfl
  obtain ⟨x, y, a, b, rfl, hx, hy, ⟨sa, sb, sab⟩, q⟩ := h
  refine ⟨_, (pss_one (ps_ret (pe_c cO hr (by decide) (by rfl) (pa_cons (pe_c cP hr (by decide) (by rfl) (pa_cons (pv 0) (pa_cons (pv 1) pa_nil))) (pa_cons (pe_tup (pa_cons (pe_int) (pa_cons (pe_int) pa_nil))) pa_nil))))), ?_⟩
  refine ⟨_, rfl, _, rfl, _, _, a, b, rfl, hx, hy, ⟨sa, sb⟩, fun H1 v s1 hv => ?_⟩
  refine ⟨by show 2 ≤ sizeLine; decide, fun t nt => ?_⟩
  have s2 : Same H1 (upd H1 t (.tup [.int 2, .int 1])) := same_upd nt
  exact ⟨_, _, a + b, 2, rfl, dp_mono s2 hv, num_of (SqT.of upd_same), ⟨⟨sab, sm_two⟩, by grind⟩, fun H3 v3 s3 hv3 => q _ _ ((s1.trans s2).trans s3) hv3⟩
end
end NB

set_option Elab.async false
set_option linter.all false
set_option maxRecDepth 100000
set_option maxHeartbeats 4000000
namespace NB
open PySem PySem.Spec PyProof.Rows L2
/-! ### what map_of is handed -/
@[irreducible] def RHO : Nat := 3650
@[irreducible] def NN : Nat := 8500
@[irreducible] def DD : Nat := 12200
theorem RHO_eq : RHO = 3650 := by unfold RHO; rfl
theorem NN_eq : NN = 8500 := by unfold NN; rfl
theorem DD_eq : DD = 12200 := by unfold DD; rfl
structure MapIn (P F : Pl) : Prop where
  good : Good P
  kit : Kit P F
  pw : ∃ e, PlainW P e ∧ F = mon e
  szF : SzL 2048 F
  sp : ∃ S : List Rat, S.length ≤ 3 ∧ Spec P F S
  fine : Fine P F ((2 : Rat) ^ RHO) NN
theorem two_le {a b : Nat} (h : a ≤ b) : (2 : Rat) ^ a ≤ (2 : Rat) ^ b := by
  induction h with
  | refl => exact Rat.le_refl
  | step h ih =>
    rw [Rat.pow_succ]
    have := Sh.two_pos ‹Nat›
    grind
theorem short_enough {w : Rat} (hw : w ≤ 2 * (2 : Rat) ^ RHO) : w / (2 : Rat) ^ DD * (2 : Rat) ^ NN ≤ 1 := by
  have h1 : 2 * (2 : Rat) ^ RHO * (2 : Rat) ^ NN ≤ (2 : Rat) ^ DD := by
    have e : 2 * (2 : Rat) ^ RHO * (2 : Rat) ^ NN = (2 : Rat) ^ (RHO + 1 + NN) := by rw [rpow_add, Rat.pow_succ]; grind
    rw [e]
    exact two_le (by rw [RHO_eq, NN_eq, DD_eq]; omega)
  have hN := Sh.two_pos NN
  have hD := Sh.two_pos DD
  have h2 : w * (2 : Rat) ^ NN ≤ (2 : Rat) ^ DD := by
    have := Rat.mul_nonneg (show (0 : Rat) ≤ 2 * (2 : Rat) ^ RHO - w by grind) (Rat.le_of_lt hN)
    grind
  generalize (2 : Rat) ^ NN = T at *
  generalize (2 : Rat) ^ DD = Y at *
  have e : w / Y * T * Y = w * T := by grind
  by_cases h3 : w / Y * T ≤ 1
  · exact h3
  · have := Rat.mul_pos (show (0 : Rat) < w / Y * T - 1 by grind) hD
    grind
theorem movN5 {a b l : Nat} (hl : l ≤ 5) : movN a b l ≤ 62 * b + 31 * a + 93 := by
  refine Nat.le_trans (movN_mono a b hl) ?_
  simp only [movN]; omega
theorem mixSz_of {p : Pl} {s e : Rat} {σ τ : Nat} (h1 : SzL 2051 p) (hl : p.length ≤ 5) (h2 : Sz σ s) (h3 : Sz σ e) (h4 : Sz τ (e - s)) (hσ : σ ≤ 81802) (hτ : τ ≤ 58601) : MixSz p s e := by
  have hL := LIM_eq
  have hm := movN5 (a := 2051) (b := σ) hl
  refine ⟨2051, σ, τ, h1, h2, h4, h3.sm (by omega), by omega, by omega, by omega, ?_, ?_⟩
  · have : p.length * (movN 2051 σ p.length + σ + 1) ≤ 5 * 5400000 := Nat.mul_le_mul hl (by omega)
    omega
  · have h5 : p.length * τ ≤ 5 * 58601 := Nat.mul_le_mul hl hτ
    have : p.length * (movN 2051 σ p.length + p.length * τ + 20) ≤ 5 * 5500000 := Nat.mul_le_mul hl (by omega)
    omega
theorem wsz_of {p : Pl} {t : Rat} {σ : Nat} (h1 : SzL 2051 p) (hl : p.length ≤ 5) (h2 : Sz σ t) (hσ : σ ≤ 200000) : WSz p t := by
  have hL := LIM_eq
  refine ⟨2051, σ, h1, h2, ?_, by omega, by omega⟩
  have : p.length * (2051 + σ + 1) ≤ 5 * 300000 := Nat.mul_le_mul hl (by omega)
  omega

/-! ### rows in memory -/
def rowW (r : Row) : Str := if r.place = true then Str.ofString "place" else Str.ofString "clear"
def rowD (r : Row) : PyData := .tuple [.str (rowW r), nD r.s, nD r.e, lD r.ns]
structure RowAt (K : PySem.W.Frag) (H : Hp) (off : List Addr) (v : V) (r : Row) : Prop where
  ex : ∃ t x y l ws, v = .ref t ∧ SqT K H t [.str (rowW r), x, y, .ref l] ∧ Num K H x r.s ∧ Num K H y r.e ∧ H l = some (.lst ws) ∧ Nums K H ws r.ns ∧ l ∉ off
section
variable {K : PySem.W.Frag} {H H' : Hp} {off : List Addr} {v : V} {r : Row} {R : Addr} {xs : List V} {o : HO}
theorem RowAt.mono (h : RowAt K H off v r) (s : Same H H') : RowAt K H' off v r := by
  obtain ⟨t, x, y, l, ws, e, h1, h2, h3, h4, h5, h6⟩ := h
  exact ⟨t, x, y, l, ws, e, sqT_mono s h1, dp_mono s h2, dp_mono s h3, s _ _ h4, dpa_mono s h5, h6⟩
theorem RowAt.keep (h : RowAt K H off v r) (hR : H R = some (.lst xs)) (hm : R ∈ off) : RowAt K (upd H R o) off v r := by
  obtain ⟨t, x, y, l, ws, e, h1, h2, h3, h4, h5, h6⟩ := h
  exact ⟨t, x, y, l, ws, e, sqT_keep hR h1, dp_keep hR h2 (nl_nD _), dp_keep hR h3 (nl_nD _), by rw [upd_ne (show l ≠ R by rintro rfl; exact h6 hm)]; exact h4, dpa_keep hR h5 (nls_map _), h6⟩
theorem RowAt.more (h : RowAt K H off v r) {T : Addr} (hT : H T = none) : RowAt K H (T :: off) v r := by
  obtain ⟨t, x, y, l, ws, e, h1, h2, h3, h4, h5, h6⟩ := h
  exact ⟨t, x, y, l, ws, e, h1, h2, h3, h4, h5, fun z => (List.mem_cons.mp z).elim (fun q => by subst q; rw [h4] at hT; cases hT) h6⟩
theorem RowAt.dp (h : RowAt K H off v r) : Dp K H v (rowD r) := by
  obtain ⟨t, x, y, l, ws, rfl, h1, h2, h3, h4, h5, h6⟩ := h
  exact .tup h1 (.cons (.str _) (.cons h2 (.cons h3 (.cons (.lst (SqL.of h4) h5) .nil))))
end
abbrev RowsAt (K : PySem.W.Frag) (H : Hp) (off : List Addr) (vs : List V) (rs : List Row) : Prop := Paired (RowAt K H off) vs rs
theorem rows_dp {K : PySem.W.Frag} {H : Hp} {off : List Addr} : ∀ {vs : List V} {rs : List Row}, RowsAt K H off vs rs → DpAll K H vs (rs.map rowD)
  | _, _, .nil => .nil
  | _, _, .cons h t => .cons h.dp (rows_dp t)
theorem rows_len {K : PySem.W.Frag} {H : Hp} {off : List Addr} {vs : List V} {rs : List Row} (h : RowsAt K H off vs rs) : vs.length = rs.length := Paired.length h
theorem rows_app {K : PySem.W.Frag} {H : Hp} {off : List Addr} : ∀ {vs us : List V} {rs ts : List Row}, RowsAt K H off vs rs → RowsAt K H off us ts → RowsAt K H off (vs ++ us) (rs ++ ts)
  | _, _, _, _, .nil, k => k
  | _, _, _, _, .cons h t, k => .cons h (rows_app t k)
theorem dpa_snoc {K : PySem.W.Frag} {H : Hp} {d : PyData} : ∀ {ds : List PyData} {vs : List V}, DpAll K H vs (ds ++ [d]) → ∃ us v, vs = us ++ [v] ∧ DpAll K H us ds ∧ Dp K H v d
  | [], _, h => by
    cases h with
    | cons h1 h2 =>
      cases h2
      exact ⟨[], _, rfl, .nil, h1⟩
  | e :: ds, _, h => by
    have h' : DpAll K H _ (e :: (ds ++ [d])) := h
    cases h' with
    | cons h1 h2 =>
      obtain ⟨us, v, rfl, h3, h4⟩ := dpa_snoc h2
      exact ⟨_ :: us, v, rfl, .cons h1 h3, h4⟩
/-- a stretch in memory -/
def tD (lo w : Rat) (i : Iv) : PyData := .tuple [nD (ivS lo w i.1 i.2), nD (ivS lo w i.1 (i.2 + 1))]
theorem nl_tD (lo w : Rat) (i : Iv) : nl (tD lo w i) = true := by simp only [tD, nl, nls, nl_nD, Bool.and_self]
theorem nls_all : ∀ {ds : List PyData}, (∀ d ∈ ds, nl d = true) → nls ds = true
  | [], _ => rfl
  | d :: ds, h => by
    simp only [nls, Bool.and_eq_true]
    exact ⟨h d List.mem_cons_self, nls_all fun e he => h e (List.mem_cons_of_mem _ he)⟩
theorem nls_tDs (lo w : Rat) (st : List Iv) : nls ((st.map (tD lo w)).reverse) = true := nls_all fun d hd => by
  rw [List.mem_reverse] at hd
  obtain ⟨i, _, rfl⟩ := List.mem_map.mp hd
  exact nl_tD _ _ _
section
variable {P : Program} {w : World} {K : PySem.W.Frag} {mg : Str → Option Value} {base : Heap}
/-! ### row_on -/
def spRowOn (K : PySem.W.Frag) : Sp := fun vs H Q _ => ∃ x y z u p F s e, vs = [x, y, z, u] ∧ Dp K H x (cD p) ∧ Dp K H y (cD F) ∧ Num K H z s ∧ Num K H u e ∧ s < e ∧ Norm p ∧ p ≠ [] ∧ p.length ≤ 12 ∧ Norm F ∧ F.length ≤ 12 ∧ (∀ c ∈ F, Sm c) ∧ MixSz p s e ∧ MixSz (slp F) s e ∧ WSz F s ∧ WSz F e ∧
  (rowOn p F s e = none → Says H .non Q) ∧ (∀ r, rowOn p F s e = some r → ∀ H' t l ws, Same H H' → H l = none → H' l = some (.lst ws) → Nums K H' ws r.ns → SqT K H' t [.str (rowW r), z, u, .ref l] → Q (.ref t) H')
theorem sc52 : FnScope ["curve", "flat", "start", "end", "numbers"] ["curve", "flat", "start", "end"] (defScope (top 52)) := ⟨rfl, rfl, rfl, by decide +kernel, rfl, by decide +kernel, by decide +kernel⟩
theorem mixd_len (p : Pl) (s e : Rat) (n : Nat) : (mixd p s e n).length = n + 1 := by simp [mixd, mixP]
theorem unl_len {F : Pl} {s e : Rat} (hN : Norm F) (h : ev F s * ev F e < 0) : 2 ≤ F.length := by
  match F, h with
  | [], h => simp only [ev] at h; grind
  | [a], h =>
    simp only [ev] at h
    have := sq_nn a
    grind
  | _ :: _ :: _, _ => simp only [List.length_cons]; omega
theorem ok_row_on (F : Df K mg "row_on" 52) (B : Bl mg) (cM : Cal P w K mg base 39 "mixed" (spMixed K)) (cS : Cal P w K mg base 34 "sign_of" (spSignOf K)) (cU : Cal P w K mg base 37 "has_unlike_ends" (spUnlike K)) (cSN : Cal P w K mg base 40 "slope_numbers" (spSlopeNumbers K)) : Cal P w K mg base 41 "row_on" (spRowOn K) := by
  refine F.cal sc52 (fun _ _ _ _ _ _ us hl => match us, hl with | [_, _, _, _], _ => rfl) (fun vs H Q E h => ?_) (fun f cdv A outer s H vs Q E hr h => ?_)
  · obtain ⟨_, _, _, _, _, _, _, _, rfl, _⟩ := h; rfl
  obtain ⟨x, y, z, u, p, F, s, e, rfl, hx, hy, hz, hu, hse, hN, hp, h12, hF, hF12, smF, m1, m2, w1, w2, qn, qs⟩ := h
  obtain ⟨ad, vs, rfl, hs, hn⟩ := cur_inv hx
  have hl := nums_len hn
  have h1p : 1 ≤ p.length := List.length_pos_iff.mpr hp
  refine ⟨_, (pss_cons (ps_set (i := 4) sc52.nd rfl (.inl rfl) (pe_c cM hr (by decide) (by rfl) (pa_cons (pv 0) (pa_cons (pv 2) (pa_cons (pv 3) (pa_cons (pe_op op_sub (pe_callB call_len_seq (by rfl) B.len PySem.boot_len (pa_cons (pv 0) pa_nil)) pe_int) pa_nil))))))
    (pss_cons (ps_if (pt_cmpR op_ne (pe_c cS hr (by decide) (by rfl) (pa_cons (pv 4) pa_nil)) pe_int (nomark _)) (pss_one (ps_ret (pe_tup (pa_cons (pe_str) (pa_cons (pv 2) (pa_cons (pv 3) (pa_cons (pv 4) pa_nil))))))) pss_nil)
    (pss_cons (ps_if (pt_not (pt_val (pe_c cU hr (by decide) (by rfl) (pa_cons (pv 1) (pa_cons (pv 2) (pa_cons (pv 3) pa_nil)))))) (pss_one (ps_ret pe_non)) pss_nil)
    (pss_cons (ps_set (i := 4) sc52.nd rfl (.inl rfl) (pe_c cSN hr (by decide) (by rfl) (pa_cons (pv 1) (pa_cons (pv 2) (pa_cons (pv 3) pa_nil)))))
    (pss_cons (ps_if (pt_cmpR op_eq (pe_c cS hr (by decide) (by rfl) (pa_cons (pv 4) pa_nil)) pe_int (nomark _)) (pss_one (ps_ret pe_non)) pss_nil)
    (pss_one (ps_ret (pe_tup (pa_cons (pe_str) (pa_cons (pv 2) (pa_cons (pv 3) (pa_cons (pv 4) pa_nil)))))))))))), ?_⟩
  refine ⟨_, rfl, _, rfl, _, rfl, _, rfl, ad, vs, rfl, .inr hs, _, _, rfl, rfl, _, _, _, p, s, e, ?_, hx, hz, hu, hse, hN, h12, hp, m1, fun H1 l ws s1 nl1 el hws => ?_⟩
  · show [V.ref ad, z, u, V.int ((vs.length : Int) - 1)] = _
    rw [show (vs.length : Int) - 1 = ((p.length - 1 : Nat) : Int) by omega]
  have hml := mixd_len p s e (p.length - 1)
  refine ⟨_, rfl, _, mixd p s e (p.length - 1), rfl, .lst (SqL.of el) hws, fun z => by rw [z] at hml; simp at hml, by omega, fun H2 s2 => ?_⟩
  have ec : sgnOf (mixd p s e (p.length - 1)) = clr p s e := rfl
  refine ⟨rfl, _, rfl, ite2 (fun h => ?_) (fun h => ?_)⟩
  · have h : clr p s e ≠ 0 := fun z => by rw [ec, z] at h; exact absurd h (by decide)
    refine ⟨_, rfl, _, rfl, _, rfl, by show 4 ≤ sizeLine; decide, fun t nt => ?_⟩
    have s3 := same_upd (o := .tup [.str "clear", z, u, .ref l]) nt
    exact qs ⟨false, s, e, mixd p s e (p.length - 1)⟩ (by unfold rowOn; rw [if_pos h]) _ t l ws ((s1.trans s2).trans s3) nl1 (s3 _ _ (s2 _ _ el)) (dpa_mono (s2.trans s3) hws) (SqT.of upd_same)
  · have h : clr p s e = 0 := by
      apply Classical.byContradiction
      intro z
      apply h
      rw [ec]
      have : decide (V.int (clr p s e) = V.int 0) = false := decide_eq_false fun q => z (V.int.inj q)
      rw [this]; rfl
    have s12 := s1.trans s2
    refine ⟨_, rfl, _, rfl, _, rfl, _, _, _, F, s, e, rfl, dp_mono s12 hy, dp_mono s12 hz, dp_mono s12 hu, w1, w2, fun H3 s3 => ?_⟩
    have s13 := s12.trans s3
    by_cases hun : ev F s * ev F e < 0
    · refine ⟨_, rfl, ?_⟩
      rw [decide_eq_true hun]
      refine iteF ?_
      have h2F := unl_len hF hun
      refine ⟨_, rfl, _, rfl, _, rfl, _, _, _, F, s, e, rfl, dp_mono s13 hy, dp_mono s13 hz, dp_mono s13 hu, hse, hF, h2F, hF12, smF, m2, fun H4 l2 ws2 s4 nl4 el4 hws4 => ?_⟩
      have hml2 := mixd_len (slp F) s e ((slp F).length - 1)
      have hsl := slp_len F
      refine ⟨_, rfl, _, mixd (slp F) s e ((slp F).length - 1), rfl, .lst (SqL.of el4) hws4, fun z => by rw [z] at hml2; simp at hml2, by omega, fun H5 s5 => ?_⟩
      have ec2 : sgnOf (mixd (slp F) s e ((slp F).length - 1)) = clr (slp F) s e := rfl
      have s15 := (s13.trans s4).trans s5
      refine ⟨rfl, _, rfl, ite2 (fun h2 => ?_) (fun h2 => ?_)⟩
      · have h2 : clr (slp F) s e = 0 := by rw [ec2] at h2; exact V.int.inj (of_decide_eq_true h2)
        exact qn (by unfold rowOn; rw [if_neg (fun z => z h), if_neg (fun z : ¬ unl F s e => z hun), if_pos h2]) _ s15
      · have h2 : clr (slp F) s e ≠ 0 := fun z => h2 (decide_eq_true (by rw [ec2, z]))
        refine ⟨_, rfl, _, rfl, _, rfl, by show 4 ≤ sizeLine; decide, fun t nt => ?_⟩
        have s6 := same_upd (o := .tup [.str "place", z, u, .ref l2]) nt
        exact qs ⟨true, s, e, mixd (slp F) s e ((slp F).length - 1)⟩ (by unfold rowOn; rw [if_neg (fun z => z h), if_neg (fun z : ¬ unl F s e => z hun), if_neg h2]) _ t l2 ws2 (s15.trans s6) (s13.free nl4) (s6 _ _ (s5 _ _ el4)) (dpa_mono (s5.trans s6) hws4) (SqT.of upd_same)
    · refine ⟨_, rfl, ?_⟩
      rw [decide_eq_false hun]
      refine iteT ?_
      exact qn (by unfold rowOn; rw [if_neg (fun z => z h), if_pos (show ¬ unl F s e from hun)]) _ s13
end
end NB

set_option Elab.async false
set_option linter.all false
set_option maxRecDepth 100000
set_option maxHeartbeats 4000000
namespace NB
open PySem PySem.Spec PyProof.Rows L2
/-- where map_of stands: rows at R, what is to do at T -/
structure MSt (K : PySem.W.Frag) (HB : Hp) (R T : Addr) (rows : List Row) (ds : List PyData) (H : Hp) : Prop where
  sm : Same HB H
  rr : ∃ vsR, H R = some (.lst vsR) ∧ RowsAt K H [T, R] vsR rows
  tt : ∃ vsT, H T = some (.lst vsT) ∧ DpAll K H vsT ds ∧ nls ds = true
theorem nls_snoc : ∀ {ds : List PyData} {d : PyData}, nls (ds ++ [d]) = true ↔ nls ds = true ∧ nl d = true
  | [], d => by simp [nls]
  | e :: ds, d => by
    simp only [List.cons_append, nls, Bool.and_eq_true, nls_snoc (ds := ds)]
    constructor
    · rintro ⟨a, b, c⟩; exact ⟨⟨a, b⟩, c⟩
    · rintro ⟨⟨a, b⟩, c⟩; exact ⟨a, b, c⟩
theorem rows_mono {K : PySem.W.Frag} {H H' : Hp} {off : List Addr} (s : Same H H') : ∀ {vs : List V} {rs : List Row}, RowsAt K H off vs rs → RowsAt K H' off vs rs
  | _, _, .nil => .nil
  | _, _, .cons h t => .cons (h.mono s) (rows_mono s t)
theorem rows_keep {K : PySem.W.Frag} {H : Hp} {off : List Addr} {R : Addr} {xs : List V} {o : HO} (hR : H R = some (.lst xs)) (hm : R ∈ off) : ∀ {vs : List V} {rs : List Row}, RowsAt K H off vs rs → RowsAt K (upd H R o) off vs rs
  | _, _, .nil => .nil
  | _, _, .cons h t => .cons (h.keep hR hm) (rows_keep hR hm t)
theorem rows_more {K : PySem.W.Frag} {H : Hp} {off : List Addr} {T : Addr} (hT : H T = none) : ∀ {vs : List V} {rs : List Row}, RowsAt K H off vs rs → RowsAt K H (T :: off) vs rs
  | _, _, .nil => .nil
  | _, _, .cons h t => .cons (h.more hT) (rows_more hT t)
namespace MSt
variable {K : PySem.W.Frag} {HB H H' : Hp} {R T : Addr} {rows : List Row} {ds : List PyData} {d : PyData} {v : V} {r : Row}
theorem up (a : MSt K HB R T rows ds H) (s : Same H H') : MSt K HB R T rows ds H' := by
  obtain ⟨sm, ⟨vsR, h1, h2⟩, vsT, h3, h4, h5⟩ := a
  exact ⟨sm.trans s, ⟨vsR, s _ _ h1, rows_mono s h2⟩, vsT, s _ _ h3, dpa_mono s h4, h5⟩
theorem pushT (a : MSt K HB R T rows ds H) (hRT : R ≠ T) (hT : HB T = none) (hv : Dp K H v d) (hn : nl d = true) : ∃ vsT, H T = some (.lst vsT) ∧ vsT.length = ds.length ∧ MSt K HB R T rows (ds ++ [d]) (upd H T (.lst (vsT ++ [v]))) := by
  obtain ⟨sm, ⟨vsR, h1, h2⟩, vsT, h3, h4, h5⟩ := a
  refine ⟨vsT, h3, dpa_len h4, same_set sm hT, ⟨vsR, by rw [upd_ne hRT]; exact h1, rows_keep h3 (by simp) h2⟩, _, upd_same, dpa_app (dpa_keep h3 h4 h5) (.cons (dp_keep h3 hv hn) .nil), nls_snoc.mpr ⟨h5, hn⟩⟩
theorem popT (a : MSt K HB R T rows (ds ++ [d]) H) (hRT : R ≠ T) (hT : HB T = none) : ∃ us v, H T = some (.lst (us ++ [v])) ∧ Dp K (upd H T (.lst us)) v d ∧ MSt K HB R T rows ds (upd H T (.lst us)) := by
  obtain ⟨sm, ⟨vsR, h1, h2⟩, vsT, h3, h4, h5⟩ := a
  obtain ⟨n1, n2⟩ := nls_snoc.mp h5
  obtain ⟨us, v, rfl, h6, h7⟩ := dpa_snoc h4
  exact ⟨us, v, h3, dp_keep h3 h7 n2, same_set sm hT, ⟨vsR, by rw [upd_ne hRT]; exact h1, rows_keep h3 (by simp) h2⟩, us, upd_same, dpa_keep h3 h6 n1, n1⟩
theorem pushR (a : MSt K HB R T rows ds H) (hRT : R ≠ T) (hR : HB R = none) (hv : RowAt K H [T, R] v r) : ∃ vsR, H R = some (.lst vsR) ∧ vsR.length = rows.length ∧ MSt K HB R T (rows ++ [r]) ds (upd H R (.lst (vsR ++ [v]))) := by
  obtain ⟨sm, ⟨vsR, h1, h2⟩, vsT, h3, h4, h5⟩ := a
  exact ⟨vsR, h1, rows_len h2, same_set sm hR, ⟨_, upd_same, rows_app (rows_keep h1 (by simp) h2) (.cons (hv.keep h1 (by simp)) .nil)⟩, vsT, by rw [upd_ne (fun z => hRT z.symm)]; exact h3, dpa_keep h1 h4 h5, h5⟩
theorem freeT (a : MSt K HB R T rows ds H) {l : Addr} (h : H l = none) : l ∉ [T, R] := by
  obtain ⟨sm, ⟨vsR, h1, h2⟩, vsT, h3, h4, h5⟩ := a
  intro z
  simp only [List.mem_cons, List.not_mem_nil, or_false] at z
  rcases z with rfl | rfl
  · rw [h] at h3; cases h3
  · rw [h] at h1; cases h1
end MSt
/-- a place row for just a place -/
theorem rowAt_end {K : PySem.W.Frag} {H : Hp} {off : List Addr} {x : Rat} {v : V} {l t : Addr} (hl : H l = none) (ho : l ∉ off) (hv : Num K H v x) (ht : (upd H l (.lst [])) t = none) : RowAt K (upd (upd H l (.lst [])) t (.tup [.str "place", v, v, .ref l])) off (.ref t) ⟨true, x, x, []⟩ := by
  have s1 := same_upd (o := .lst []) hl
  have s2 := same_upd (o := .tup [.str "place", v, v, .ref l]) ht
  exact ⟨t, v, v, l, [], rfl, SqT.of upd_same, dp_mono (s1.trans s2) hv, dp_mono (s1.trans s2) hv, s2 _ _ upd_same, .nil, ho⟩
/-- sizes of a row's ends, and of the number halfway -/
def RSz (N : Nat) (r : Row) : Prop := Sz N r.s ∧ Sz N r.e ∧ Sz N ((r.s + r.e) / 2)
theorem RSz.mono {M N : Nat} {r : Row} (h : RSz M r) (k : M ≤ N) : RSz N r := ⟨h.1.mono k, h.2.1.mono k, h.2.2.mono k⟩
theorem half_self (x : Rat) : (x + x) / 2 = x := by grind
/-- the plain law of map_of's turns -/
structure Inv (P F : Pl) (S : List Rat) (lo w : Rat) (N : Nat) (st : List Iv) (rows : List Row) (cur : Rat) (m : Nat) : Prop where
  cov : Cov P F lo cur rows
  le : lo ≤ cur
  ch : Ch lo w st cur
  dp : ∀ i ∈ st, i.1 ≤ DD
  ct : rows.length + 2 * wrks S lo w DD st ≤ 12 * DD + 3
  m : m = wrks S lo w DD st
  sz : ∀ r ∈ rows, RSz N r
  fst : ∀ r, rowOn P F lo (lo + w) = some r → (st = [(0, 0)] ∧ rows = endRow F lo) ∨ (st = [] ∧ rows = endRow F lo ++ r :: endRow F (lo + w))
section
variable {P F : Pl} {S : List Rat} {lo hi : Rat} {N n : Nat} {st : List Iv} {rows : List Row} {cur : Rat} {m : Nat} {i : Iv}
theorem Inv.init (h : lo < hi) (hS : S.length ≤ 3) (s1 : Sz N lo) : Inv P F S lo (hi - lo) N [(0, 0)] (endRow F lo) lo (wrks S lo (hi - lo) DD [(0, 0)]) := by
  refine ⟨.init P F lo, Rat.le_refl, ⟨(ivS_zero _ _).symm, Nat.le_refl _, ?_⟩, fun i hi => ?_, ?_, rfl, fun r hr => ?_, fun r _ => .inl ⟨rfl, rfl⟩⟩
  · show ivS lo (hi - lo) 0 1 = lo + (hi - lo)
    exact ivS_one _ _
  · have : i = (0, 0) := by simpa using hi
    subst this; exact Nat.zero_le _
  · have h1 := kap_le S (ivS lo (hi - lo) 0 0) (ivS lo (hi - lo) 0 (0 + 1))
    have h2 : (endRow F lo).length ≤ 1 := by unfold endRow; split <;> simp
    simp only [wrks, wrk]
    have h3 : 2 * (DD - 0) * kap S (ivS lo (hi - lo) 0 0) (ivS lo (hi - lo) 0 (0 + 1)) ≤ 2 * (DD - 0) * 3 := Nat.mul_le_mul_left _ (by omega)
    omega
  · obtain ⟨_, h1, h2, _⟩ := mem_endRow hr
    unfold RSz
    rw [h1, h2, half_self]; exact ⟨s1, s1, s1⟩
theorem Inv.row (I : Inv P F S lo (hi - lo) N (i :: st) rows cur m) (K : Kit P F) (h : lo < hi) (hs : Sz n lo) (hh : Sz n hi) (hN : 3 * n + DD + 3 ≤ N) {r : Row} (hr : rowOn P F (ivS lo (hi - lo) i.1 i.2) (ivS lo (hi - lo) i.1 (i.2 + 1)) = some r) :
    ∃ m', m' < m ∧ Inv P F S lo (hi - lo) N st (rows ++ r :: endRow F (ivS lo (hi - lo) i.1 (i.2 + 1))) (ivS lo (hi - lo) i.1 (i.2 + 1)) m' := by
  obtain ⟨e1, h1, h2⟩ := I.ch
  have hlt := ivS_lt (lo := lo) (w := hi - lo) (by grind) i.1 i.2
  have hd := I.dp i List.mem_cons_self
  have z1 := (sz_ivS hs hh (d := i.1) (m := i.2) (by omega)).mono (show _ ≤ N by omega)
  have z2 := (sz_ivS hs hh (d := i.1) (m := i.2 + 1) h1).mono (show _ ≤ N by omega)
  have z3 := (sz_ivS hs hh (d := i.1 + 1) (m := 2 * i.2 + 1) (by rw [Nat.pow_succ]; omega)).mono (show _ ≤ N by omega)
  rw [← ivS_half] at z3
  have hle := I.le
  have hct := I.ct
  have hm := I.m
  simp only [wrks] at hct hm
  have hw1 : 1 ≤ wrk S lo (hi - lo) DD i := by simp only [wrk]; omega
  have hel : (endRow F (ivS lo (hi - lo) i.1 (i.2 + 1))).length ≤ 1 := by unfold endRow; split <;> simp
  refine ⟨wrks S lo (hi - lo) DD st, by omega, I.cov.step (e := ivS lo (hi - lo) i.1 (i.2 + 1)) K ?_ I.le ?_, ?_, h2, fun j hj => I.dp j (List.mem_cons_of_mem _ hj), ?_, rfl, fun r' hr' => ?_, fun r' hr' => ?_⟩
  · rw [e1]; exact hlt
  · rw [e1]; exact hr
  · rw [e1] at hle
    exact Rat.le_trans hle (Rat.le_of_lt hlt)
  · rw [List.length_append, List.length_cons]; omega
  · rcases List.mem_append.mp hr' with hr' | hr'
    · exact I.sz r' hr'
    · rcases List.mem_cons.mp hr' with rfl | hr'
      · obtain ⟨a, b, _⟩ := rowOn_some hr
        unfold RSz
        rw [a, b]; exact ⟨z1, z2, z3⟩
      · obtain ⟨_, a, b, _⟩ := mem_endRow hr'
        unfold RSz
        rw [a, b, half_self]; exact ⟨z2, z2, z2⟩
  · rcases I.fst r' hr' with ⟨f1, f2⟩ | ⟨f1, _⟩
    · have f3 : i = (0, 0) := (List.cons.inj f1).1
      have f4 : st = [] := (List.cons.inj f1).2
      subst f3
      refine .inr ⟨f4, ?_⟩
      have f5 : ivS lo (hi - lo) 0 (0 + 1) = lo + (hi - lo) := ivS_one _ _
      have hr2 : rowOn P F (ivS lo (hi - lo) 0 0) (ivS lo (hi - lo) 0 (0 + 1)) = some r := hr
      rw [f5, ivS_zero, hr'] at hr2
      cases hr2
      rw [f2]
      show endRow F lo ++ _ :: endRow F (ivS lo (hi - lo) 0 (0 + 1)) = _
      rw [f5]
    · cases f1
theorem Inv.halve (I : Inv P F S lo (hi - lo) N (i :: st) rows cur m) (M : MapIn P F) (hS : Spec P F S) (h : lo < hi) (bl : bd lo ((2 : Rat) ^ RHO)) (bh : bd hi ((2 : Rat) ^ RHO)) (hr : rowOn P F (ivS lo (hi - lo) i.1 i.2) (ivS lo (hi - lo) i.1 (i.2 + 1)) = none) :
    ∃ m', m' < m ∧ Inv P F S lo (hi - lo) N ((i.1 + 1, 2 * i.2) :: (i.1 + 1, 2 * i.2 + 1) :: st) rows cur m' := by
  obtain ⟨e1, h1, h2⟩ := I.ch
  have hw : 0 < hi - lo := by grind
  have hlt := ivS_lt (lo := lo) hw i.1 i.2
  have hd := I.dp i List.mem_cons_self
  have hnr := rowOn_none hr
  have hk : 1 ≤ kap S (ivS lo (hi - lo) i.1 i.2) (ivS lo (hi - lo) i.1 (i.2 + 1)) := kap_pos fun z => hnr (hS _ _ hlt z)
  have i1 := ivS_in hw (lo := lo) (d := i.1) (m := i.2) (by omega)
  have i2 := ivS_in hw (lo := lo) (d := i.1) (m := i.2 + 1) h1
  have elo : lo + (hi - lo) = hi := by grind
  rw [elo] at i1 i2
  have hdd : i.1 < DD := by
    rcases Nat.lt_or_ge i.1 DD with h3 | h3
    · exact h3
    · exfalso
      have e2 : i.1 = DD := by omega
      refine hnr (M.fine _ _ hlt (bd_in i1.1 i1.2 bl bh) (bd_in i2.1 i2.2 bl bh) ?_)
      rw [ivS_step, e2]
      refine short_enough ?_
      obtain ⟨b1, _⟩ := bl
      obtain ⟨_, b2⟩ := bh
      generalize (2 : Rat) ^ RHO = T at *
      grind
  have hws : wrk S lo (hi - lo) DD (i.1 + 1, 2 * i.2) + wrk S lo (hi - lo) DD (i.1 + 1, 2 * i.2 + 1) < wrk S lo (hi - lo) DD i := wrk_split (S := S) hw hdd hk
  have hct := I.ct
  have hm := I.m
  simp only [wrks] at hct hm
  refine ⟨_, ?_, I.cov, I.le, ⟨?_, ?_, ?_, ?_, ?_⟩, fun j hj => ?_, ?_, rfl, I.sz, fun r' hr' => ?_⟩
  · rw [hm]; simp only [wrks]; omega
  · rw [e1]; exact (ivS_double _ _ _ _).symm
  · show 2 * i.2 + 1 ≤ 2 ^ (i.1 + 1); rw [Nat.pow_succ]; omega
  · rfl
  · show 2 * i.2 + 1 + 1 ≤ 2 ^ (i.1 + 1); rw [Nat.pow_succ]; omega
  · show Ch lo (hi - lo) st (ivS lo (hi - lo) (i.1 + 1) (2 * i.2 + 1 + 1))
    rw [show 2 * i.2 + 1 + 1 = 2 * (i.2 + 1) by omega, ivS_double]; exact h2
  · rcases List.mem_cons.mp hj with rfl | hj
    · exact hdd
    · rcases List.mem_cons.mp hj with rfl | hj
      · exact hdd
      · exact I.dp j (List.mem_cons_of_mem _ hj)
  · simp only [wrks]; omega
  · rcases I.fst r' hr' with ⟨f1, f2⟩ | ⟨f1, _⟩
    · exfalso
      have f3 : i = (0, 0) := (List.cons.inj f1).1
      subst f3
      have f5 : ivS lo (hi - lo) 0 (0 + 1) = lo + (hi - lo) := ivS_one _ _
      have hr2 : rowOn P F (ivS lo (hi - lo) 0 0) (ivS lo (hi - lo) 0 (0 + 1)) = none := hr
      rw [f5, ivS_zero, hr'] at hr2
      cases hr2
    · cases f1
end
section
variable {P : Program} {w : World} {K : PySem.W.Frag} {mg : Str → Option Value} {base : Heap}
/-! ### map_of -/
def spMapOf (K : PySem.W.Frag) : Sp := fun vs H Q _ => ∃ x y z P F lo hi n, vs = [x, y, z] ∧ Dp K H x (cD P) ∧ Num K H y lo ∧ Num K H z hi ∧ lo < hi ∧ MapIn P F ∧ Sz n lo ∧ Sz n hi ∧ n ≤ 23200 ∧ bd lo ((2 : Rat) ^ RHO) ∧ bd hi ((2 : Rat) ^ RHO) ∧
  ∀ rows, Cov P F lo hi rows → (∀ r ∈ rows, RSz (3 * n + DD + 3) r) → rows.length ≤ 150000 → (∀ r, rowOn P F lo hi = some r → rows = endRow F lo ++ r :: endRow F hi) → Gives K H (.list (rows.map rowD)) Q
theorem sc54 : FnScope ["curve", "low", "high", "flat", "rows", "todo", "start", "end", "row", "middle"] ["curve", "low", "high"] (defScope (top 54)) := ⟨rfl, rfl, rfl, by decide +kernel, rfl, by decide +kernel, by decide +kernel⟩
theorem line_mid {n : Nat} (h : n ≤ 150010) : n < sizeLine := Nat.lt_of_le_of_lt h (by decide)
theorem ok_map_of (F : Df K mg "map_of" 54) (B : Bl mg) (cA : Cal P w K mg base 35 "ask_mapped" (spAskMapped K)) (cPl : Cal P w K mg base 40 "plain" (spPlain K)) (cN : Cal P w K mg base 37 "is_nought" (spIsNought K)) (cR : Cal P w K mg base 41 "row_on" (spRowOn K)) (cH : Cal P w K mg base 36 "halfway" (spHalf K)) : Cal P w K mg base 42 "map_of" (spMapOf K) := by
  refine F.cal sc54 (fun _ _ _ _ _ _ us hl => match us, hl with | [_, _, _], _ => rfl) (fun vs H Q E h => ?_) (fun f cdv A outer s H vs Q E hr h => ?_)
  · obtain ⟨_, _, _, _, _, _, _, _, rfl, _⟩ := h; rfl
  obtain ⟨x, y, z, P0, F0, lo, hi, n, rfl, hx, hy, hz, hlt, hM, sl, sh, hn, bl, bh, q⟩ := h
  have hL := LIM_eq
  have hDD := DD_eq
  obtain ⟨ee, hpw, eF⟩ := hM.pw
  obtain ⟨S, hS3, hSp⟩ := hM.sp
  have g := hM.good
  have F5 := hM.kit.f5
  have sP : SzL 2051 P0 := g.sz.mono (by omega)
  have sF : SzL 2051 F0 := hM.szF.mono (by omega)
  have hw : ∀ t : Rat, Sz (3 * n + DD + 2) t → WSz F0 t := fun t ht => wsz_of sF F5 ht (by omega)
  have slo : Sz (3 * n + DD + 2) lo := sl.mono (by omega)
  refine ⟨_, (pss_cons (ps_expr (pe_c cA hr (by decide) (by rfl) (pa_cons (pv 0) (pa_cons (pv 1) (pa_cons (pv 2) pa_nil)))))
    (pss_cons (ps_set (i := 3) sc54.nd rfl (.inl rfl) (pe_c cPl hr (by decide) (by rfl) (pa_cons (pv 0) pa_nil)))
    (pss_cons (ps_set (i := 4) sc54.nd rfl (.inl rfl) (pe_lst pa_nil))
    (C8.pss_cut (ps_if (pt_val (pe_c cN hr (by decide) (by rfl) (pa_cons (pv 3) (pa_cons (pv 1) pa_nil)))) (pss_one (ps_expr (pe_bm PySem.F.plainAttrs_list PySem.F.slot_list_append PySem.F.type_list_append mt_append (pv 4) (pa_cons (pe_tup (pa_cons (pe_str) (pa_cons (pv 1) (pa_cons (pv 1) (pa_cons (pe_lst pa_nil) pa_nil))))) pa_nil)))) pss_nil)
    (pss_cons (ps_set (i := 5) sc54.nd rfl (.inl rfl) (pe_lst (pa_cons (pe_tup (pa_cons (pv 1) (pa_cons (pv 2) pa_nil))) pa_nil)))
    (pss_cons (ps_while PassesOwn.never (pt_cmpR op_gt (pe_callB call_len_seq (by rfl) B.len PySem.boot_len (pa_cons (pv 5) pa_nil)) pe_int (nomark _)) (pss_cons (ps_asg (pe_bm0 PySem.F.plainAttrs_list PySem.F.slot_list_pop PySem.F.type_list_pop mt_pop (pv 5)) (pg_tup (by rfl) (pgs_cons (pg_name (i := 6) sc54.nd rfl (.inl rfl)) (pgs_cons (pg_name (i := 7) sc54.nd rfl (.inl rfl)) pgs_nil))))
    (pss_cons (ps_set (i := 8) sc54.nd rfl (.inl rfl) (pe_c cR hr (by decide) (by rfl) (pa_cons (pv 0) (pa_cons (pv 3) (pa_cons (pv 6) (pa_cons (pv 7) pa_nil))))))
    (pss_one (ps_if (pt_cmpR op_isN (pv 8) pe_non (nomark _)) (pss_cons (ps_set (i := 9) sc54.nd rfl (.inl rfl) (pe_c cH hr (by decide) (by rfl) (pa_cons (pv 6) (pa_cons (pv 7) pa_nil))))
    (pss_cons (ps_expr (pe_bm PySem.F.plainAttrs_list PySem.F.slot_list_append PySem.F.type_list_append mt_append (pv 5) (pa_cons (pe_tup (pa_cons (pv 9) (pa_cons (pv 7) pa_nil))) pa_nil)))
    (pss_one (ps_expr (pe_bm PySem.F.plainAttrs_list PySem.F.slot_list_append PySem.F.type_list_append mt_append (pv 5) (pa_cons (pe_tup (pa_cons (pv 6) (pa_cons (pv 9) pa_nil))) pa_nil))))))
        (pss_cons (ps_expr (pe_bm PySem.F.plainAttrs_list PySem.F.slot_list_append PySem.F.type_list_append mt_append (pv 4) (pa_cons (pv 8) pa_nil)))
    (pss_one (ps_if (pt_val (pe_c cN hr (by decide) (by rfl) (pa_cons (pv 3) (pa_cons (pv 7) pa_nil)))) (pss_one (ps_expr (pe_bm PySem.F.plainAttrs_list PySem.F.slot_list_append PySem.F.type_list_append mt_append (pv 4) (pa_cons (pe_tup (pa_cons (pe_str) (pa_cons (pv 7) (pa_cons (pv 7) (pa_cons (pe_lst pa_nil) pa_nil))))) pa_nil)))) pss_nil))))))))
    (pss_one (ps_ret (pv 4))))))))), ?_⟩
  refine ⟨_, rfl, _, rfl, _, rfl, _, _, _, P0, lo, hi, rfl, hx, hy, hz, g.ne, by have := g.l5; omega, sl.sm (by omega), sh.sm (by omega), hlt, fun H1 s1 => ?_⟩
  refine ⟨_, rfl, _, P0, ee, rfl, dp_mono s1 hx, g, hpw, fun H2 vF s2 hF => ?_⟩
  rw [← eF] at hF
  have s12 := s1.trans s2
  refine ⟨Nat.zero_le _, fun R nR => ?_⟩
  -- the first row
  refine ⟨fun σ' H' => ∃ vsR, σ' = [some x, some y, some z, some vF, some (.ref R), none, none, none, none, none] ∧ Same H2 H' ∧ H' R = some (.lst vsR) ∧ RowsAt K H' [R] vsR (endRow F0 lo), ?_, fun σ' H3 h => ?_⟩
  · have s3 := same_upd (o := .lst []) nR
    refine ⟨_, rfl, _, rfl, _, _, F0, lo, rfl, dp_mono s3 hF, dp_mono (s12.trans s3) hy, hw lo slo, fun H3 s4 => ?_⟩
    refine ⟨_, rfl, ite2 (fun e => ?_) (fun e => ?_)⟩
    · have e : ev F0 lo = 0 := of_decide_eq_true e
      have eR : H3 R = some (.lst []) := s4 _ _ upd_same
      refine ⟨_, rfl, .inl ⟨rfl, _, SqL.of eR⟩, _, rfl, _, rfl, Nat.zero_le _, fun l nl => ?_⟩
      refine ⟨by show 4 ≤ sizeLine; decide, fun t nt => ?_⟩
      have hno : l ∉ [R] := fun z => by
        simp only [List.mem_cons, List.not_mem_nil, or_false] at z
        subst z; rw [nl] at eR; cases eR
      have hrow := rowAt_end (off := [R]) nl hno (dp_mono ((s12.trans s3).trans s4) hy) nt
      have sA := (same_upd (o := .lst []) nl).trans (same_upd (o := .tup [.str "place", y, y, .ref l]) nt)
      refine ⟨R, [], _, rfl, rfl, sA _ _ eR, by show 0 < sizeLine; decide, _, rfl, ?_, upd_same, ?_⟩
      · exact same_set ((s3.trans s4).trans sA) nR
      · unfold endRow; rw [if_pos e]
        exact .cons (hrow.keep (sA _ _ eR) (by simp)) .nil
    · have e : ¬ ev F0 lo = 0 := fun z => e (decide_eq_true z)
      refine ⟨_, rfl, s3.trans s4, s4 _ _ upd_same, ?_⟩
      unfold endRow; rw [if_neg e]
      exact .nil
  obtain ⟨vsR, rfl, s3, eR, hrows⟩ := h
  -- what is to do
  refine ⟨_, rfl, _, rfl, by show 2 ≤ sizeLine; decide, fun t nt => ?_⟩
  refine ⟨by show 1 ≤ sizeLine; decide, fun T nT => ?_⟩
  have sT1 := same_upd (o := .tup [y, z]) nt
  have sT2 := same_upd (o := .lst [.ref t]) nT
  have sT := sT1.trans sT2
  have hRT : R ≠ T := fun z => by
    have := sT1 _ _ eR
    rw [z, nT] at this; cases this
  have hT2 : H2 T = none := (s3.trans sT1).free nT
  have e0 : ivS lo (hi - lo) 0 (0 + 1) = hi := by
    rw [show (0 : Nat) + 1 = 1 from rfl, ivS_one]; grind
  have hst : MSt K H2 R T (endRow F0 lo) (([((0 : Nat), (0 : Nat))].map (tD lo (hi - lo))).reverse) (upd (upd H3 t (.tup [y, z])) T (.lst [.ref t])) := by
    refine ⟨s3.trans sT, ⟨vsR, sT _ _ eR, rows_mono sT2 (rows_more nT (rows_mono sT1 hrows))⟩, _, upd_same, .cons (.tup (sqT_mono sT2 (SqT.of upd_same)) (.cons ?_ (.cons ?_ .nil))) .nil, nls_tDs _ _ _⟩
    · show Num K _ y (ivS lo (hi - lo) 0 0)
      rw [ivS_zero]
      exact dp_mono (s12.trans (s3.trans sT)) hy
    · show Num K _ z (ivS lo (hi - lo) 0 (0 + 1))
      rw [e0]
      exact dp_mono (s12.trans (s3.trans sT)) hz
  refine ⟨fun m σ' H' => ∃ st rows cur y6 y7 y8 y9, σ' = [some x, some y, some z, some vF, some (.ref R), some (.ref T), y6, y7, y8, y9] ∧ MSt K H2 R T rows ((st.map (tD lo (hi - lo))).reverse) H' ∧ Inv P0 F0 S lo (hi - lo) (3 * n + DD + 3) st rows cur m, ⟨_, [(0, 0)], _, lo, none, none, none, none, rfl, hst, Inv.init hlt hS3 (slo.mono (by omega))⟩, fun m σ' H4 hW => ?_⟩
  obtain ⟨st, rows, cur, y6, y7, y8, y9, rfl, hM4, hI⟩ := hW
  obtain ⟨vsT, eT, hTs, hTn⟩ := hM4.tt
  have hTl := dpa_len hTs
  rw [List.length_reverse, List.length_map] at hTl
  refine ⟨_, rfl, T, vsT, rfl, .inl (SqL.of eT), _, _, rfl, rfl, _, rfl, ite2 (fun e => ?_) (fun e => ?_)⟩
  · -- a turn
    have e : (0 : Int) < (vsT.length : Int) := of_decide_eq_true e
    cases st with
    | nil => rw [List.length_nil] at hTl; omega
    | cons i st =>
      rw [List.map_cons, List.reverse_cons] at hM4
      obtain ⟨us, v, eT', hv, hM5⟩ := hM4.popT hRT hT2
      rw [eT] at eT'
      cases eT'
      refine ⟨fun σ' H' => ∃ m', m' < m ∧ ∃ st rows cur y6 y7 y8 y9, σ' = [some x, some y, some z, some vF, some (.ref R), some (.ref T), y6, y7, y8, y9] ∧ MSt K H2 R T rows ((st.map (tD lo (hi - lo))).reverse) H' ∧ Inv P0 F0 S lo (hi - lo) (3 * n + DD + 3) st rows cur m', fun _ _ h => h, ?_⟩
      refine ⟨_, rfl, .inl ⟨rfl, _, SqL.of eT⟩, T, us ++ [v], v, rfl, rfl, eT, by simp, ?_⟩
      rw [List.dropLast_concat]
      generalize hH5 : upd H4 T (.lst us) = H5 at *
      unfold tD at hv
      cases hv with
      | @tup ts _ _ hsq hall =>
        cases hall with
        | cons ha hb' =>
          cases hb' with
          | cons hb hnil =>
            cases hnil
            rename_i va vb
            refine ⟨_, _, rfl, hsq, rfl, _, _, rfl, _, _, rfl, rfl, ?_⟩
            have hch := hI.ch.2.1
            have z1 := (sz_ivS sl sh (d := i.1) (m := i.2) (by omega)).mono (show _ ≤ 3 * n + DD + 2 by have := hI.dp i List.mem_cons_self; omega)
            have z2 := (sz_ivS sl sh (d := i.1) (m := i.2 + 1) hch).mono (show _ ≤ 3 * n + DD + 2 by have := hI.dp i List.mem_cons_self; omega)
            have z3 := (sz_step sl sh (d := i.1) (m := i.2)).mono (show _ ≤ 58601 by have := hI.dp i List.mem_cons_self; omega)
            have hse := ivS_lt (lo := lo) (w := hi - lo) (by grind) i.1 i.2
            have slF := slp_len F0
            refine ⟨_, rfl, _, rfl, _, rfl, _, rfl, _, _, _, _, P0, F0, _, _, rfl, dp_mono (s12.trans hM5.sm) hx, dp_mono hM5.sm hF, ha, hb, hse, g.nm, g.ne, Nat.le_trans g.l5 (by decide), hM.kit.mf.nm, Nat.le_trans F5 (by decide), fun c hc => (hM.szF c hc).sm (by omega), mixSz_of sP g.l5 z1 z2 z3 (by omega) (by omega), mixSz_of (SzL.slp hM.szF (by omega)) (by omega) z1 z2 z3 (by omega) (by omega), hw _ z1, hw _ z2, fun hnone H6 s6 => ?_, fun r hsome H6 t6 l6 ws6 s6 nl6 el6 hws6 hsq6 => ?_⟩
            · -- no row
              obtain ⟨m', hm', hI'⟩ := hI.halve hM hSp hlt bl bh hnone
              have hM6 := hM5.up s6
              have ha6 := dp_mono s6 ha
              have hb6 := dp_mono s6 hb
              refine ⟨_, rfl, rfl, _, rfl, ?_⟩
              refine ⟨_, rfl, _, rfl, _, _, _, _, rfl, ha6, hb6, ⟨z1.sm (by omega), z2.sm (by omega), (z1.add z2).sm (by omega)⟩, fun H7 v7 s7 hv7 => ?_⟩
              have hv7 : Num K H7 v7 ((ivS lo (hi - lo) i.1 i.2 + ivS lo (hi - lo) i.1 (i.2 + 1)) / 2) := hv7
              rw [ivS_half] at hv7
              have hM7 := hM6.up s7
              obtain ⟨vs7, e7, _, _⟩ := hM7.tt
              refine ⟨_, rfl, .inl ⟨rfl, _, SqL.of e7⟩, _, rfl, _, rfl, by show 2 ≤ sizeLine; decide, fun t8 nt8 => ?_⟩
              have s8 := same_upd (o := .tup [v7, vb]) nt8
              have hM8 := hM7.up s8
              have d8 : Dp K (upd H7 t8 (.tup [v7, vb])) (.ref t8) (tD lo (hi - lo) (i.1 + 1, 2 * i.2 + 1)) := by
                refine .tup (SqT.of upd_same) (.cons (dp_mono s8 hv7) (.cons ?_ .nil))
                show Num K _ vb (ivS lo (hi - lo) (i.1 + 1) (2 * (i.2 + 1)))
                rw [ivS_double]
                exact dp_mono (s7.trans s8) hb6
              obtain ⟨vs8, e8, l8, hM9⟩ := hM8.pushT hRT hT2 d8 (nl_tD _ _ _)
              have hct := hI.ct
              have hwr := wrks_ge S lo (hi - lo) DD (i :: st)
              rw [List.length_cons] at hwr
              rw [List.length_reverse, List.length_map] at l8
              refine ⟨T, vs8, _, rfl, rfl, e8, line_mid (by omega), ?_⟩
              have ha9 := dp_keep (o := .lst (vs8 ++ [.ref t8])) e8 (dp_mono (s7.trans s8) ha6) (nl_nD _)
              have hv9 := dp_keep (o := .lst (vs8 ++ [.ref t8])) e8 (dp_mono s8 hv7) (nl_nD _)
              generalize hH9 : upd (upd H7 t8 (.tup [v7, vb])) T (.lst (vs8 ++ [.ref t8])) = H9 at *
              obtain ⟨vs9, e9, _, _⟩ := hM9.tt
              refine ⟨_, rfl, .inl ⟨rfl, _, SqL.of e9⟩, _, rfl, _, rfl, by show 2 ≤ sizeLine; decide, fun t9 nt9 => ?_⟩
              have s9 := same_upd (o := .tup [va, v7]) nt9
              have d9 : Dp K (upd H9 t9 (.tup [va, v7])) (.ref t9) (tD lo (hi - lo) (i.1 + 1, 2 * i.2)) := by
                refine .tup (SqT.of upd_same) (.cons ?_ (.cons (dp_mono s9 hv9) .nil))
                show Num K _ va (ivS lo (hi - lo) (i.1 + 1) (2 * i.2))
                rw [ivS_double]
                exact dp_mono s9 ha9
              obtain ⟨vs10, e10, l10, hM10⟩ := (hM9.up s9).pushT hRT hT2 d9 (nl_tD _ _ _)
              rw [List.length_append, List.length_reverse, List.length_map] at l10
              refine ⟨T, vs10, _, rfl, rfl, e10, line_mid (by simp only [List.length_cons, List.length_nil] at l10; omega), ?_⟩
              refine ⟨m', hm', (i.1 + 1, 2 * i.2) :: (i.1 + 1, 2 * i.2 + 1) :: st, rows, cur, _, _, _, _, rfl, ?_, hI'⟩
              rw [List.map_cons, List.map_cons, List.reverse_cons, List.reverse_cons]
              exact hM10
            · -- a row
              obtain ⟨m', hm', hI'⟩ := hI.row hM.kit hlt sl sh (Nat.le_refl _) hsome
              have hM6 := hM5.up s6
              have hb6 := dp_mono s6 hb
              obtain ⟨er, ee', _⟩ := rowOn_some hsome
              have hrow : RowAt K H6 [T, R] (.ref t6) r := ⟨t6, va, vb, l6, ws6, rfl, hsq6, by rw [er]; exact dp_mono s6 ha, by rw [ee']; exact hb6, el6, hws6, hM5.freeT nl6⟩
              have hct' := hI'.ct
              rw [List.length_append, List.length_cons] at hct'
              refine ⟨_, rfl, rfl, _, rfl, ?_⟩
              obtain ⟨vs6, e6, l6', hM7⟩ := hM6.pushR hRT nR hrow
              refine ⟨_, rfl, .inl ⟨rfl, _, SqL.of e6⟩, _, rfl, R, vs6, _, rfl, rfl, e6, line_mid (by omega), ?_⟩
              have hb7 := dp_keep (o := .lst (vs6 ++ [.ref t6])) e6 hb6 (nl_nD _)
              generalize hH7 : upd H6 R (.lst (vs6 ++ [.ref t6])) = H7 at *
              refine ⟨_, rfl, _, rfl, _, _, F0, _, rfl, dp_mono hM7.sm hF, hb7, hw _ z2, fun H8 s8 => ?_⟩
              have hM8 := hM7.up s8
              refine ⟨_, rfl, ite2 (fun e => ?_) (fun e => ?_)⟩
              · have e : ev F0 (ivS lo (hi - lo) i.1 (i.2 + 1)) = 0 := of_decide_eq_true e
                have ee2 : endRow F0 (ivS lo (hi - lo) i.1 (i.2 + 1)) = [⟨true, ivS lo (hi - lo) i.1 (i.2 + 1), ivS lo (hi - lo) i.1 (i.2 + 1), []⟩] := by unfold endRow; rw [if_pos e]
                obtain ⟨vs8, e8, _⟩ := hM8.rr
                refine ⟨_, rfl, .inl ⟨rfl, _, SqL.of e8⟩, _, rfl, _, rfl, Nat.zero_le _, fun l nl => ?_⟩
                refine ⟨by show 4 ≤ sizeLine; decide, fun t9 nt9 => ?_⟩
                have hrow2 := rowAt_end (off := [T, R]) nl (hM8.freeT nl) (dp_mono s8 hb7) nt9
                have sA := (same_upd (o := .lst []) nl).trans (same_upd (o := .tup [.str "place", vb, vb, .ref l]) nt9)
                obtain ⟨vs9, e9, l9, hM9⟩ := (hM8.up sA).pushR hRT nR hrow2
                rw [List.length_append] at l9
                refine ⟨R, vs9, _, rfl, rfl, e9, line_mid (by simp only [List.length_cons, List.length_nil] at l9; omega), ?_⟩
                refine ⟨m', hm', st, _, _, _, _, _, _, rfl, ?_, hI'⟩
                rw [ee2, show rows ++ [r, ⟨true, ivS lo (hi - lo) i.1 (i.2 + 1), ivS lo (hi - lo) i.1 (i.2 + 1), []⟩] = rows ++ [r] ++ [⟨true, ivS lo (hi - lo) i.1 (i.2 + 1), ivS lo (hi - lo) i.1 (i.2 + 1), []⟩] by simp]
                exact hM9
              · have e : ¬ ev F0 (ivS lo (hi - lo) i.1 (i.2 + 1)) = 0 := fun z => e (decide_eq_true z)
                have ee2 : endRow F0 (ivS lo (hi - lo) i.1 (i.2 + 1)) = [] := by unfold endRow; rw [if_neg e]
                refine ⟨m', hm', st, _, _, _, _, _, _, rfl, ?_, hI'⟩
                rw [ee2]; exact hM8
  · -- the end
    have e : ¬ (0 : Int) < (vsT.length : Int) := fun z => e (decide_eq_true z)
    cases st with
    | cons i st => rw [List.length_cons] at hTl; omega
    | nil =>
      have hc : cur = lo + (hi - lo) := hI.ch
      have hc : cur = hi := by rw [hc]; grind
      subst hc
      obtain ⟨vsR', eR', hR'⟩ := hM4.rr
      have hct := hI.ct
      exact ⟨_, rfl, q rows hI.cov hI.sz (by omega) (fun r hr => by
        have e1 : lo + (cur - lo) = cur := by grind
        rcases hI.fst r (by rw [e1]; exact hr) with ⟨f1, _⟩ | ⟨_, f2⟩
        · cases f1
        · rw [e1] at f2; exact f2) _ _ (s12.trans hM4.sm) (.lst (SqL.of eR') (rows_dp hR'))⟩
end
end NB

set_option Elab.async false
set_option linter.all false
set_option maxRecDepth 100000
set_option maxHeartbeats 4000000
namespace NB
open PySem PySem.Spec PyProof.Rows L2
def pts (r : Row) : Pl := [r.s, (r.s + r.e) / 2, r.e]
theorem belowRow_first {P : Pl} {r : Row} {j : Nat} (hj : j < (pts r).length) (h : ∀ i, i < j → ∀ hi : i < (pts r).length, ¬ ev P (pts r)[i] < 0) (hb : ev P (pts r)[j] < 0) : belowRow P r = some (pts r)[j] := by
  unfold belowRow
  have hj' : j < 3 := hj
  have hjj : j = 0 ∨ j = 1 ∨ j = 2 := by omega
  rcases hjj with rfl | rfl | rfl
  · have hb : ev P r.s < 0 := hb
    rw [if_pos hb]; rfl
  · have h0 : ¬ ev P r.s < 0 := h 0 (by omega) (by show 0 < 3; omega)
    have hb : ev P ((r.s + r.e) / 2) < 0 := hb
    rw [if_neg h0, if_pos hb]; rfl
  · have h0 : ¬ ev P r.s < 0 := h 0 (by omega) (by show 0 < 3; omega)
    have h1 : ¬ ev P ((r.s + r.e) / 2) < 0 := h 1 (by omega) (by show 1 < 3; omega)
    have hb : ev P r.e < 0 := hb
    rw [if_neg h0, if_neg h1, if_pos hb]; rfl
theorem belowRow_no {P : Pl} {r : Row} (h : ∀ i, i < 3 → ∀ hi : i < (pts r).length, ¬ ev P (pts r)[i] < 0) : belowRow P r = none := by
  have h0 : ¬ ev P r.s < 0 := h 0 (by omega) (by show 0 < 3; omega)
  have h1 : ¬ ev P ((r.s + r.e) / 2) < 0 := h 1 (by omega) (by show 1 < 3; omega)
  have h2 : ¬ ev P r.e < 0 := h 2 (by omega) (by show 2 < 3; omega)
  unfold belowRow
  rw [if_neg h0, if_neg h1, if_neg h2]
theorem belowP_drop {P : Pl} {rows : List Row} {i : Nat} (hi : i < rows.length) (h : belowRow P rows[i] = none) : belowP P (rows.drop i) = belowP P (rows.drop (i + 1)) := by
  rw [List.drop_eq_getElem_cons hi, belowP, h]
theorem belowP_hit {P : Pl} {rows : List Row} {i : Nat} {x : Rat} (hi : i < rows.length) (h : belowRow P rows[i] = some x) : belowP P (rows.drop i) = some x := by
  rw [List.drop_eq_getElem_cons hi, belowP, h]
theorem rowD_get {K : PySem.W.Frag} {H : Hp} {vs : List V} {rows : List Row} {i : Nat} {z : V} (h : DpAll K H vs (rows.map rowD)) (hz : vs[i]? = some z) : ∃ hi : i < rows.length, Dp K H z (rowD rows[i]) := by
  obtain ⟨d, h1, h2⟩ := dpa_get' h hz
  have hi : i < (rows.map rowD).length := (List.getElem?_eq_some_iff.mp h1).1
  rw [List.length_map] at hi
  refine ⟨hi, ?_⟩
  rw [List.getElem?_map, List.getElem?_eq_getElem hi] at h1
  cases h1
  exact h2
theorem rowD_inv {K : PySem.W.Frag} {H : Hp} {v : V} {r : Row} (h : Dp K H v (rowD r)) : ∃ t x y l, v = .ref t ∧ SqT K H t [.str (rowW r), x, y, l] ∧ Num K H x r.s ∧ Num K H y r.e := by
  unfold rowD at h
  cases h with
  | tup hs ha =>
    cases ha with
    | cons h1 h2 =>
      cases h1
      cases h2 with
      | cons h3 h4 =>
        cases h4 with
        | cons h5 h6 =>
          cases h6 with
          | cons h7 h8 =>
            cases h8
            exact ⟨_, _, _, _, rfl, hs, h3, h5⟩
theorem it4_0 {a b c d : V} : atI [a, b, c, d] 0 = some a := rfl
section
variable {P : Program} {w : World} {K : PySem.W.Frag} {mg : Str → Option Value} {base : Heap}
/-! ### sign_at -/
def spSignAt (K : PySem.W.Frag) : Sp := fun vs H Q _ => ∃ x y p t, vs = [x, y] ∧ Dp K H x (cD p) ∧ Num K H y t ∧ WSz p t ∧ Says H (.int (sgn (ev p t))) Q
theorem sc60 : FnScope ["curve", "x"] ["curve", "x"] (defScope (top 60)) := ⟨rfl, rfl, rfl, by decide +kernel, rfl, by decide +kernel, by decide +kernel⟩
theorem ok_sign_at (F : Df K mg "sign_at" 60) (cS : Cal P w K mg base 33 "sign" (spSign K)) (cW : Cal P w K mg base 36 "worth" (spWorth K)) : Cal P w K mg base 37 "sign_at" (spSignAt K) := by
  refine F.cal sc60 (fun _ _ _ _ _ _ us hl => match us, hl with | [_, _], _ => rfl) (fun vs H Q E h => ?_) (fun f cdv A outer s H vs Q E hr h => ?_)
  · obtain ⟨_, _, _, _, rfl, _⟩ := h; rfl
  obtain ⟨x, y, p, t, rfl, hx, hy, hw, q⟩ := h
  refine ⟨_, (pss_one (ps_ret (pe_c cS hr (by decide) (by rfl) (pa_cons (pe_c cW hr (by decide) (by rfl) (pa_cons (pv 0) (pa_cons (pv 1) pa_nil))) pa_nil)))), ?_⟩
  exact ⟨_, rfl, _, rfl, _, _, p, t, rfl, hx, hy, hw, fun H1 v s1 hv => ⟨_, _, rfl, hv, q _ s1⟩⟩
/-! ### below_place -/
def spBelowPlace (K : PySem.W.Frag) : Sp := fun vs H Q _ => ∃ x y p rows, vs = [x, y] ∧ Dp K H x (cD p) ∧ Dp K H y (.list (rows.map rowD)) ∧ SzL 2048 p ∧ p.length ≤ 5 ∧ (∀ r ∈ rows, RSz 81803 r) ∧
  (belowP p rows = none → Says H .non Q) ∧ ∀ t, belowP p rows = some t → Gives K H (nD t) Q
theorem sc61 : FnScope ["curve", "rows", "word", "start", "end", "numbers", "place"] ["curve", "rows"] (defScope (top 61)) := ⟨rfl, rfl, rfl, by decide +kernel, rfl, by decide +kernel, by decide +kernel⟩
theorem ok_below_place (F : Df K mg "below_place" 61) (cS : Cal P w K mg base 37 "sign_at" (spSignAt K)) (cH : Cal P w K mg base 36 "half_way" (spHalf K)) : Cal P w K mg base 38 "below_place" (spBelowPlace K) := by
  refine F.cal sc61 (fun _ _ _ _ _ _ us hl => match us, hl with | [_, _], _ => rfl) (fun vs H Q E h => ?_) (fun f cdv A outer s H vs Q E hr h => ?_)
  · obtain ⟨_, _, _, _, rfl, _⟩ := h; rfl
  obtain ⟨x, y, p, rows, rfl, hx, hy, sp, p5, srows, qn, qs⟩ := h
  have hL := LIM_eq
  cases hy with
  | @lst yd vs _ hys hyn =>
  have hvl := dpa_len hyn
  rw [List.length_map] at hvl
  refine ⟨_, (pss_cons (ps_for PassesOwn.never rfl (pi_list (pv 1)) (pg_tup (by rfl) (pgs_cons (pg_name (i := 2) sc61.nd rfl (.inl rfl)) (pgs_cons (pg_name (i := 3) sc61.nd rfl (.inl rfl)) (pgs_cons (pg_name (i := 4) sc61.nd rfl (.inl rfl)) (pgs_cons (pg_name (i := 5) sc61.nd rfl (.inl rfl)) pgs_nil))))) (pss_one (ps_for PassesOwn.never rfl (pi_list (pe_lst (pa_cons (pv 3) (pa_cons (pe_c cH hr (by decide) (by rfl) (pa_cons (pv 3) (pa_cons (pv 4) pa_nil))) (pa_cons (pv 4) pa_nil))))) (pg_name (i := 6) sc61.nd rfl (.inl rfl)) (pss_one (ps_if (pt_cmpR op_lt (pe_c cS hr (by decide) (by rfl) (pa_cons (pv 0) (pa_cons (pv 6) pa_nil))) pe_int (nomark _)) (pss_one (ps_ret (pv 6))) pss_nil)))))
    (pss_one (ps_ret pe_non))), ?_⟩
  refine ⟨_, rfl, yd, rfl, ⟨_, hys⟩, for_list (K := K) (a := yd) (xs := vs) (fun i σ H1 => ∃ y2 y3 y4 y5 y6, σ = [some x, some (.ref yd), y2, y3, y4, y5, y6] ∧ Same H H1 ∧ belowP p rows = belowP p (rows.drop i)) ⟨none, none, none, none, none, rfl, .refl _, rfl⟩ (fun i σ H1 _ h => ?_) (fun i z σ H1 hz h => ?_) (fun σ H1 h => ?_)⟩
  · obtain ⟨_, _, _, _, _, rfl, s1, _⟩ := h
    exact s1.seq hys
  · obtain ⟨y2, y3, y4, y5, y6, rfl, s1, hb⟩ := h
    obtain ⟨hi, hz2⟩ := rowD_get hyn hz
    obtain ⟨t, a, b, l, rfl, hs, ha, hbn⟩ := rowD_inv (dp_mono s1 hz2)
    obtain ⟨z1, z2, z3⟩ := srows _ (List.getElem_mem hi)
    generalize hrr : rows[i] = r at *
    refine ⟨_, _, rfl, hs, rfl, _, _, rfl, _, _, rfl, _, _, rfl, _, _, rfl, rfl, ?_⟩
    refine ⟨_, rfl, _, rfl, _, rfl, _, _, r.s, r.e, rfl, ha, hbn, ⟨z1.sm (by omega), z2.sm (by omega), (z1.add z2).sm (by omega)⟩, fun H2 v2 s2 hv2 => ?_⟩
    refine ⟨_, rfl, by show 3 ≤ sizeLine; decide, fun L nL => ?_⟩
    have s3 := same_upd (o := .lst [a, v2, b]) nL
    have hLn : Nums K (upd H2 L (.lst [a, v2, b])) [a, v2, b] (pts r) := .cons (dp_mono (s2.trans s3) ha) (.cons (dp_mono s3 hv2) (.cons (dp_mono (s2.trans s3) hbn) .nil))
    have hpz : SzL 81803 (pts r) := .cons z1 (.cons z3 (.cons z2 (.nil _)))
    refine ⟨L, rfl, ⟨_, SqL.of upd_same⟩, for_list (K := K) (a := L) (xs := [a, v2, b]) (fun j σ H4 => ∃ y6, σ = [some x, some (.ref yd), some (.str (rowW r)), some a, some b, some l, y6] ∧ Same (upd H2 L (.lst [a, v2, b])) H4 ∧ ∀ k, k < j → ∀ hk : k < (pts r).length, ¬ ev p (pts r)[k] < 0) ⟨y6, rfl, .refl _, fun k hk => absurd hk (by omega)⟩ (fun j σ H4 _ h => ?_) (fun j z σ H4 hzj h => ?_) (fun σ H4 h => ?_)⟩
    · obtain ⟨_, rfl, s4, _⟩ := h
      exact s4.seq (SqL.of upd_same)
    · obtain ⟨y6, rfl, s4, hno⟩ := h
      obtain ⟨hj, hz2⟩ := nums_get' hLn hzj
      have sall := ((s1.trans s2).trans s3).trans s4
      refine ⟨_, rfl, _, rfl, _, _, p, (pts r)[j], rfl, dp_mono sall hx, dp_mono s4 hz2, wsz_of (sp.mono (by omega)) p5 (hpz _ (List.getElem_mem hj)) (by omega), fun H5 s5 => ?_⟩
      refine ⟨_, _, rfl, rfl, _, rfl, ite2 (fun e => ?_) (fun e => ?_)⟩
      · have e : sgn (ev p (pts r)[j]) < 0 := of_decide_eq_true e
        have hlt := (sgn_neg _).mp e
        exact ⟨_, rfl, qs _ (hb.trans (belowP_hit hi (by rw [hrr]; exact belowRow_first hj hno hlt))) _ _ (sall.trans s5) (dp_mono (s4.trans s5) hz2)⟩
      · have e : ¬ ev p (pts r)[j] < 0 := fun z => e (decide_eq_true ((sgn_neg _).mpr z))
        refine ⟨_, rfl, s4.trans s5, fun k hk hk2 => ?_⟩
        by_cases hkj : k = j
        · subst hkj; exact e
        · exact hno k (by omega) hk2
    · obtain ⟨y6, rfl, s4, hno⟩ := h
      exact ⟨_, _, _, _, _, rfl, ((s1.trans s2).trans s3).trans s4, hb.trans (belowP_drop hi (by rw [hrr]; exact belowRow_no hno))⟩
  · obtain ⟨_, _, _, _, _, rfl, s1, hb⟩ := h
    rw [List.drop_of_length_le (by omega)] at hb
    exact qn (by rw [hb]; rfl) _ s1
/-! ### has_place -/
def plc (rows : List Row) : Bool := decide (0 < (rows.filter fun r => r.place).length)
def spHasPlace (K : PySem.W.Frag) : Sp := fun vs H Q _ => ∃ y rows, vs = [y] ∧ Dp K H y (.list (rows.map rowD)) ∧ rows.length ≤ 150000 ∧ Says H (.bl (plc rows)) Q
theorem sc62 : FnScope ["rows", "row"] ["rows"] (defScope (top 62)) := ⟨rfl, rfl, rfl, by decide +kernel, rfl, by decide +kernel, by decide +kernel⟩
theorem ok_has_place (F : Df K mg "has_place" 62) (B : Bl mg) : Cal P w K mg base 33 "has_place" (spHasPlace K) := by
  refine F.cal sc62 (fun _ _ _ _ _ _ us hl => match us, hl with | [_], _ => rfl) (fun vs H Q E h => ?_) (fun f cdv A outer s H vs Q E hr h => ?_)
  · obtain ⟨_, _, rfl, _⟩ := h; rfl
  obtain ⟨y, rows, rfl, hy, hlen, q⟩ := h
  cases hy with
  | @lst yd vs _ hys hyn =>
  have hvl := dpa_len hyn
  rw [List.length_map] at hvl
  refine ⟨_, (pss_one (ps_ret (pe_cmpR op_gt (pe_callB call_len_seq (by rfl) B.len PySem.boot_len (pa_cons (pe_lc (own := [("row", 1)]) (g := gName 1) (tt := tTest (tOp rEq (tOp (rIxT K) (tVar 1) (tC (.int 0))) (tC (.str "place")))) rfl sc62.nd (pi_list (pv 0)) (blkOk_by (N := ["rows", "row"]) (sc := defScope (top 62)) (by decide +kernel))
      (fun _ _ _ _ _ => pg_name (i := 1) sc62.nd rfl (.inl rfl)) (fun _ _ _ _ _ => pts_one (pt_cmpR op_eq (pe_ix (r := rIxT K) ix_tup (pv 1) pe_int (fun _ _ => rfl)) pe_str (nomark _))) (fun _ _ _ _ _ => pv 1)) pa_nil)) pe_int (nomark _)))), ?_⟩
  refine ⟨_, rfl, yd, rfl, ⟨_, hys⟩, fun D dn => lc_list (K := K) (a := yd) (xs := vs) (fun i H1 => Same H H1 ∧ ∃ acc, H1 D = some (.lst acc) ∧ acc.length = ((rows.take i).filter fun r => r.place).length) ⟨same_upd dn, [], upd_same, rfl⟩ (fun i H1 _ h => h.1.seq hys) (fun i z H1 hz h => ?_) (fun H1 h => ?_)⟩
  · obtain ⟨s1, acc, e1, el⟩ := h
    obtain ⟨hi, hz2⟩ := rowD_get hyn hz
    obtain ⟨t, a, b, l, rfl, hs, _⟩ := rowD_inv (dp_mono s1 hz2)
    have hlt : acc.length ≤ 150000 := by
      rw [el]
      refine Nat.le_trans (List.length_filter_le _ _) ?_
      rw [List.length_take]; omega
    refine ⟨rfl, _, rfl, t, _, 0, _, rfl, rfl, hs, it4_0, rfl, _, rfl, ?_⟩
    rw [List.take_add_one, List.getElem?_eq_getElem hi]
    simp only [Option.toList, List.filter_append]
    cases hp : rows[i].place with
    | true =>
      have e : decide (V.str (rowW rows[i]) = V.str "place") = true := decide_eq_true (by unfold rowW; rw [if_pos hp])
      refine (show (if (decide (V.str (rowW rows[i]) = V.str "place")) = true then _ else _) from ?_)
      rw [if_pos e]
      refine ⟨_, rfl, acc, e1, line_mid (by omega), same_set s1 dn, _, upd_same, ?_⟩
      rw [List.length_append, List.length_append, el, List.filter_cons, if_pos hp]; rfl
    | false =>
      have e : ¬ decide (V.str (rowW rows[i]) = V.str "place") = true := fun z => by
        have z := of_decide_eq_true z
        unfold rowW at z
        rw [hp] at z
        exact absurd (V.str.inj z) (by decide)
      refine (show (if (decide (V.str (rowW rows[i]) = V.str "place")) = true then _ else _) from ?_)
      rw [if_neg e]
      refine ⟨s1, acc, e1, ?_⟩
      rw [List.length_append, el, List.filter_cons, if_neg (by rw [hp]; decide)]; rfl
  · obtain ⟨s1, acc, e1, el⟩ := h
    rw [List.take_of_length_le (by omega)] at el
    refine ⟨D, acc, rfl, .inl (SqL.of e1), _, _, rfl, rfl, ?_⟩
    have e2 : decide ((0 : Int) < (acc.length : Int)) = plc rows := by
      unfold plc; rw [← el]; exact decide_eq_decide.mpr (by omega)
    show Q (.bl (decide ((0 : Int) < (acc.length : Int)))) H1
    rw [e2]; exact q _ s1
theorem plc_true {rows : List Row} : plc rows = true ↔ ∃ r ∈ rows, r.place = true := by
  unfold plc
  rw [decide_eq_true_iff, List.length_pos_iff_exists_mem]
  constructor
  · rintro ⟨r, h⟩
    obtain ⟨h1, h2⟩ := List.mem_filter.mp h
    exact ⟨r, h1, h2⟩
  · rintro ⟨r, h1, h2⟩
    exact ⟨r, List.mem_filter.mpr ⟨h1, h2⟩⟩
/-! ### verdict -/
def spVerdict (K : PySem.W.Frag) : Sp := fun vs H Q _ => ∃ x y z P F lo hi n, vs = [x, y, z] ∧ Dp K H x (cD P) ∧ Num K H y lo ∧ Num K H z hi ∧ lo < hi ∧ MapIn P F ∧ Sz n lo ∧ Sz n hi ∧ n ≤ 23200 ∧ bd lo ((2 : Rat) ^ RHO) ∧ bd hi ((2 : Rat) ^ RHO) ∧
  (∀ t, lo ≤ t → t ≤ hi → ev P t < 0 → Sz (3 * n + DD + 3) t → Gives K H (.tuple [.str "below", nD t]) Q) ∧
  (∀ rows, Cov P F lo hi rows → (∀ r ∈ rows, RSz (3 * n + DD + 3) r) → rows.length ≤ 150000 → belowP P rows = none → (∃ r ∈ rows, r.place = true) → Gives K H (.tuple [.str "touches", .list (rows.map rowD)]) Q) ∧
  ∀ rows, Cov P F lo hi rows → belowP P rows = none → (¬ ∃ r ∈ rows, r.place = true) → Gives K H (.tuple [.str "above", .list (rows.map rowD)]) Q
theorem belowP_sz {P : Pl} {N : Nat} : ∀ {rows : List Row} {t : Rat}, belowP P rows = some t → (∀ r ∈ rows, RSz N r) → Sz N t
  | [], _, h, _ => by cases h
  | r :: rs, t, h, hr => by
    unfold belowP at h
    obtain ⟨h1, h2, h3⟩ := hr r List.mem_cons_self
    cases hb : belowRow P r with
    | some y =>
      rw [hb] at h
      cases h
      unfold belowRow at hb
      split at hb
      · cases hb; exact h1
      · split at hb
        · cases hb; exact h3
        · split at hb
          · cases hb; exact h2
          · cases hb
    | none =>
      rw [hb] at h
      exact belowP_sz h fun r' h' => hr r' (List.mem_cons_of_mem _ h')
theorem sc63 : FnScope ["curve", "low", "high", "rows", "place"] ["curve", "low", "high"] (defScope (top 63)) := ⟨rfl, rfl, rfl, by decide +kernel, rfl, by decide +kernel, by decide +kernel⟩
theorem ok_verdict (F : Df K mg "verdict" 63) (B : Bl mg) (kM : KI mg "MOST_DEGREE_verdicts" 6) (cL : Cal P w K mg base 33 "less" (spLess K)) (cM : Cal P w K mg base 42 "map_of" (spMapOf K)) (cB : Cal P w K mg base 38 "below_place" (spBelowPlace K)) (cHp : Cal P w K mg base 33 "has_place" (spHasPlace K)) : Cal P w K mg base 43 "verdict" (spVerdict K) := by
  refine F.cal sc63 (fun _ _ _ _ _ _ us hl => match us, hl with | [_, _, _], _ => rfl) (fun vs H Q E h => ?_) (fun f cdv A outer s H vs Q E hr h => ?_)
  · obtain ⟨_, _, _, _, _, _, _, _, rfl, _⟩ := h; rfl
  obtain ⟨x, y, z, P0, F0, lo, hi, n, rfl, hx, hy, hz, hlt, hM, sl, sh, hn, bl, bh, q1, q2, q3⟩ := h
  have hL := LIM_eq
  have hDD := DD_eq
  have g := hM.good
  obtain ⟨ad, vs, rfl, hs, hvn⟩ := cur_inv hx
  have hl := nums_len hvn
  have h5 := g.l5
  refine ⟨_, (pss_cons (ps_if (pt_cmpR op_gt (pe_callB call_len_seq (by rfl) B.len PySem.boot_len (pa_cons (pv 0) pa_nil)) (pe_op op_add (pe_gc (by rfl) kM) pe_int) (nomark _)) pss_never pss_nil)
    (pss_cons (ps_if (pt_not (pt_val (pe_c cL hr (by decide) (by rfl) (pa_cons (pv 1) (pa_cons (pv 2) pa_nil))))) pss_never pss_nil)
    (pss_cons (ps_if (pt_cmpR (op_eqD hr.units) (pv 0) (pe_tup pa_nil) (nomark _)) (pss_one (ps_ret (pe_tup (pa_cons (pe_str) (pa_cons (pe_lst pa_nil) pa_nil))))) pss_nil)
    (pss_cons (ps_set (i := 3) sc63.nd rfl (.inl rfl) (pe_c cM hr (by decide) (by rfl) (pa_cons (pv 0) (pa_cons (pv 1) (pa_cons (pv 2) pa_nil)))))
    (pss_cons (ps_set (i := 4) sc63.nd rfl (.inl rfl) (pe_c cB hr (by decide) (by rfl) (pa_cons (pv 0) (pa_cons (pv 3) pa_nil))))
    (pss_cons (ps_if (pt_cmpR op_notN (pv 4) pe_non (nomark _)) (pss_one (ps_ret (pe_tup (pa_cons (pe_str) (pa_cons (pv 4) pa_nil))))) pss_nil)
    (pss_cons (ps_if (pt_val (pe_c cHp hr (by decide) (by rfl) (pa_cons (pv 3) pa_nil))) (pss_one (ps_ret (pe_tup (pa_cons (pe_str) (pa_cons (pv 3) pa_nil))))) pss_nil)
    (pss_one (ps_ret (pe_tup (pa_cons (pe_str) (pa_cons (pv 3) pa_nil)))))))))))), ?_⟩
  refine ⟨_, rfl, ad, vs, rfl, .inr hs, _, _, rfl, rfl, _, _, rfl, rfl, _, rfl, ite2 (fun e => ?_) (fun _ => ?_)⟩
  · have e : (6 : Int) + 1 < (vs.length : Int) := of_decide_eq_true e
    omega
  refine ⟨_, rfl, _, rfl, _, _, lo, hi, rfl, hy, hz, sl.sm (by omega), sh.sm (by omega), _, rfl, ?_⟩
  rw [decide_eq_true hlt]
  refine iteF ?_
  refine ⟨_, rfl, Nat.zero_le _, fun t0 nt0 => ⟨cD P0, cD [], dp_mono (same_upd nt0) hx, .tup (SqT.of upd_same) .nil, cD_shaped P0, cD_shaped [], _, rfl, ?_⟩⟩
  have s0 := same_upd (o := .tup []) nt0
  rw [cD_eqv]
  refine ite2 (fun e => absurd (of_decide_eq_true e) g.ne) (fun _ => ?_)
  refine ⟨_, rfl, _, rfl, _, rfl, _, _, _, P0, F0, lo, hi, n, rfl, dp_mono s0 hx, dp_mono s0 hy, dp_mono s0 hz, hlt, hM, sl, sh, hn, bl, bh, fun rows hcov hrs hrl _ H1 v1 s1 hv1 => ?_⟩
  have s01 := s0.trans s1
  refine ⟨_, rfl, _, rfl, _, _, P0, rows, rfl, dp_mono s01 hx, hv1, g.sz, h5, fun r hr => (hrs r hr).mono (by omega), fun hnone H2 s2 => ?_, fun t ht H2 v2 s2 hv2 => ?_⟩
  · refine ⟨_, rfl, rfl, _, rfl, ?_⟩
    refine (ite2 (fun e => absurd e (by decide)) (fun _ => ?_))
    refine ⟨_, rfl, _, rows, rfl, dp_mono s2 hv1, hrl, fun H3 s3 => ⟨_, rfl, ?_⟩⟩
    have s03 := (s01.trans s2).trans s3
    have hv3 := dp_mono (s2.trans s3) hv1
    refine ite2 (fun e => ?_) (fun e => ?_)
    · refine ⟨_, rfl, by show 2 ≤ sizeLine; decide, fun t nt => q2 rows hcov hrs hrl hnone (plc_true.mp e) _ _ (s03.trans (same_upd nt)) (.tup (SqT.of upd_same) (.cons (.str _) (.cons (dp_mono (same_upd nt) hv3) .nil)))⟩
    · refine ⟨_, rfl, by show 2 ≤ sizeLine; decide, fun t nt => q3 rows hcov hnone (fun z => e (plc_true.mpr z)) _ _ (s03.trans (same_upd nt)) (.tup (SqT.of upd_same) (.cons (.str _) (.cons (dp_mono (same_upd nt) hv3) .nil)))⟩
  · obtain ⟨h1, h2, h3⟩ := belowP_some ht hcov.rg
    obtain ⟨a2, rfl, _⟩ := num_inv hv2
    refine ⟨_, rfl, rfl, _, rfl, ?_⟩
    refine (ite2 (fun _ => ?_) (fun e => absurd rfl e))
    exact ⟨_, rfl, by show 2 ≤ sizeLine; decide, fun t' nt => q1 t h2 h3 h1 (belowP_sz ht hrs) _ _ ((s01.trans s2).trans (same_upd nt)) (.tup (SqT.of upd_same) (.cons (.str _) (.cons (dp_mono (same_upd nt) hv2) .nil)))⟩
end
end NB

set_option Elab.async false
set_option linter.all false
set_option maxRecDepth 100000
set_option maxHeartbeats 4000000
namespace NB
/-! ### the sizes of curves by factors -/
theorem SzL.mulm {a b m : Nat} {p q : Pl} (h : SzL a p) (k : SzL b q) (hm : p.length ≤ m ∨ q.length ≤ m) : SzL (m * (a + b + 1)) (NB.mul p q) := by
  rcases hm with hm | hm
  · exact (h.mul k).mono (Nat.mul_le_mul_right _ hm)
  · exact (h.mul' k).mono (Nat.mul_le_mul_right _ hm)
theorem SzL.one : SzL 0 [1] := .cons (.one _) (.nil _)
theorem SzL.lin {n : Nat} {a : Rat} (h : Sz n a) : SzL n (lin a) := .cons h.neg (.cons (.one _) (.nil _))
theorem SzL.qd {n m : Nat} {b μ : Rat} (h : Sz n b) (k : Sz m μ) : SzL (2 * n + m + 2) (qd b μ) :=
  .cons (((h.mul h).add k).mono (by omega)) (.cons (((Sz.int (n := 1) (k := 2) (by decide)).mul h).mono (by omega)) (.cons (.one _) (.nil _)))
theorem pw_one : ∀ n : Nat, pw [1] n = [1]
  | 0 => rfl
  | n + 1 => by
    rw [pw, pw_one n]
    exact ident (Norm_mul _ _) Norm_1 fun x => by rw [ev_mul]; simp only [ev]; grind
theorem mul_one' {p : Pl} (h : Norm p) : mul p [1] = p := ident (Norm_mul _ _) h fun x => by rw [ev_mul]; simp only [ev]; grind
theorem one_mul' {p : Pl} (h : Norm p) : mul [1] p = p := ident (Norm_mul _ _) h fun x => by rw [ev_mul]; simp only [ev]; grind
theorem pw_1 {p : Pl} (h : Norm p) : pw p 1 = p := by rw [pw, pw, mul_one' h]
/-- powers of a linear one -/
def linN : Nat → Nat
  | 0 => 0
  | n + 1 => 2 * (11 + linN n + 1)
theorem SzL.pwLin {a : Rat} (h : Sz 11 a) : ∀ n : Nat, SzL (linN n) (pw (NB.lin a) n)
  | 0 => SzL.one
  | n + 1 => (SzL.lin h).mulm (SzL.pwLin h n) (.inl (Nat.le_refl _))
theorem len_pwLin (a : Rat) : ∀ n : Nat, (pw (lin a) n).length = n + 1
  | 0 => rfl
  | n + 1 => by
    rw [pw, (Mo.lin a).mul_len ((Mo.lin a).pw n), len_pwLin a n]
    show 2 + (n + 1) - 1 = _
    omega
namespace Sh
/-- what we know of our curves' numbers -/
structure Small (S : Sh) : Prop where
  c : Sz 20 S.c
  a : ∀ a, S.oa = some a → Sz 11 a
  b : ∀ b, S.ob = some b → Sz 11 b
  q : ∀ q, S.oq = some q → Sz 11 q.1 ∧ Sz 65 q.2 ∧ (S.oa = none ∨ Sz 14 q.2)
  nb : S.oa = none → S.ob = none
  k0 : S.k = 0
  deg : (if S.oa = none then 0 else S.i + 1) + (if S.ob = none then 0 else S.j + 1) + (if S.oq = none then 0 else 2) ≤ 4
variable {S : Sh}
theorem nmh (S : Sh) : Norm S.h := (Mo.Qf S.oq).nm
theorem P_none (ha : S.oa = none) (hb : S.ob = none) (hk : S.k = 0) : S.P = scl S.c S.h := by
  unfold P f g
  rw [ha, hb, hk, Lf, pw_one, pw_one, pw_1 S.nmh, one_mul' S.nmh, one_mul' S.nmh]
theorem szP (s : S.Small) : SzL 1040 S.P := by
  have h4 := s.deg
  have hq : ∀ q, S.oq = some q → SzL 89 S.h ∧ (S.oa = none ∨ SzL 38 S.h) := fun q hq => by
    obtain ⟨q1, q2, q3⟩ := s.q q hq
    unfold h; rw [hq]
    exact ⟨SzL.qd q1 q2, q3.imp id fun q3 => SzL.qd q1 q3⟩
  have hh : S.oq = none → S.h = [1] := fun hq => by unfold h; rw [hq]; rfl
  have e1 : pw S.h (S.k + 1) = S.h := by rw [s.k0]; exact pw_1 S.nmh
  by_cases ha : S.oa = none
  · rw [P_none ha (s.nb ha) s.k0]
    by_cases hoq : S.oq = none
    · rw [hh hoq]; exact (SzL.scl SzL.one s.c).mono (by omega)
    · obtain ⟨q, hoq⟩ := Option.ne_none_iff_exists'.mp hoq
      exact (SzL.scl (hq q hoq).1 s.c).mono (by omega)
  · obtain ⟨a, hoa⟩ := Option.ne_none_iff_exists'.mp ha
    have sa := s.a a hoa
    unfold P
    rw [e1]
    have ef : S.f = lin a := by unfold f; rw [hoa]; rfl
    rw [ef]
    rw [if_neg ha] at h4
    by_cases hb : S.ob = none
    · have eg : S.g = [1] := by unfold g; rw [hb]; rfl
      rw [eg, pw_one, one_mul' S.nmh]
      rw [if_pos hb] at h4
      by_cases hoq : S.oq = none
      · rw [hh hoq, mul_one' ((Mo.lin a).pw _).nm]
        rw [if_pos hoq] at h4
        have hi : S.i = 0 ∨ S.i = 1 ∨ S.i = 2 ∨ S.i = 3 := by omega
        refine (SzL.scl (SzL.pwLin sa (S.i + 1)) s.c).mono ?_
        rcases hi with h | h | h | h <;> rw [h] <;> decide
      · rw [if_neg hoq] at h4
        obtain ⟨q, hoq⟩ := Option.ne_none_iff_exists'.mp hoq
        have h3 := (hq q hoq).2.resolve_left ha
        have hi : S.i = 0 ∨ S.i = 1 := by omega
        refine (SzL.scl ((SzL.pwLin sa (S.i + 1)).mulm (m := 3) h3 (.inl (by rw [len_pwLin]; omega))) s.c).mono ?_
        rcases hi with h | h <;> rw [h] <;> decide
    · rw [if_neg hb] at h4
      obtain ⟨b, hob⟩ := Option.ne_none_iff_exists'.mp hb
      have sb := s.b b hob
      have eg : S.g = lin b := by unfold g; rw [hob]; rfl
      rw [eg]
      by_cases hoq : S.oq = none
      · rw [hh hoq, mul_one' ((Mo.lin b).pw _).nm]
        rw [if_pos hoq] at h4
        have hij : (S.i = 0 ∧ S.j = 0) ∨ (S.i = 0 ∧ S.j = 1) ∨ (S.i = 0 ∧ S.j = 2) ∨ (S.i = 1 ∧ S.j = 0) ∨ (S.i = 1 ∧ S.j = 1) ∨ (S.i = 2 ∧ S.j = 0) := by omega
        refine (SzL.scl ((SzL.pwLin sa (S.i + 1)).mulm (m := 3) (SzL.pwLin sb (S.j + 1)) (by rw [len_pwLin, len_pwLin]; omega)) s.c).mono ?_
        rcases hij with ⟨h, h'⟩ | ⟨h, h'⟩ | ⟨h, h'⟩ | ⟨h, h'⟩ | ⟨h, h'⟩ | ⟨h, h'⟩ <;> rw [h, h'] <;> decide
      · rw [if_neg hoq] at h4
        obtain ⟨q, hoq⟩ := Option.ne_none_iff_exists'.mp hoq
        have h3 := (hq q hoq).2.resolve_left ha
        have hi : S.i = 0 := by omega
        have hj : S.j = 0 := by omega
        rw [hi, hj]
        refine (SzL.scl ((SzL.pwLin sa 1).mulm (m := 2) ((SzL.pwLin sb 1).mulm (m := 2) h3 (.inl (by rw [len_pwLin]; omega))) (.inl (by rw [len_pwLin]; omega))) s.c).mono ?_
        decide
theorem szh (s : S.Small) : SzL 89 S.h := by
  unfold h
  cases hq : S.oq with
  | none => exact SzL.one.mono (by omega)
  | some q => obtain ⟨q1, q2, _⟩ := s.q q hq; exact SzL.qd q1 q2
theorem szLf {o : Option Rat} (h : ∀ a, o = some a → Sz 11 a) : SzL 11 (Lf o) := by
  cases o with
  | none => exact SzL.one.mono (by omega)
  | some a => exact SzL.lin (h a rfl)
theorem szF (s : S.Small) : SzL 224 S.F := by
  show SzL 224 (mul (Lf S.oa) (mul (Lf S.ob) S.h))
  by_cases ha : S.oa = none
  · rw [ha, s.nb ha, Lf, one_mul' S.nmh, one_mul' S.nmh]
    exact (szh s).mono (by omega)
  · have h3 : SzL 38 S.h := by
      unfold h
      cases hq : S.oq with
      | none => exact SzL.one.mono (by omega)
      | some q =>
        obtain ⟨q1, _, q3⟩ := s.q q hq
        exact SzL.qd q1 (q3.resolve_left ha)
    have l1 : (Lf S.oa).length ≤ 2 := by cases S.oa <;> simp [Lf, lin]
    have l2 : (Lf S.ob).length ≤ 2 := by cases S.ob <;> simp [Lf, lin]
    refine ((szLf s.a).mulm (m := 2) ((szLf s.b).mulm (m := 2) h3 (.inl l2)) (.inl l1)).mono ?_
    decide
theorem szPwLf {o : Option Rat} (h : ∀ a, o = some a → Sz 11 a) {n : Nat} (hn : o ≠ none → n ≤ 3) : SzL 168 (pw (Lf o) n) ∧ (pw (Lf o) n).length ≤ 4 := by
  cases o with
  | none => rw [Lf, pw_one]; exact ⟨SzL.one.mono (by omega), by decide⟩
  | some a =>
    have h3 := hn (by simp)
    have : n = 0 ∨ n = 1 ∨ n = 2 ∨ n = 3 := by omega
    refine ⟨(SzL.pwLin (h a rfl) n).mono ?_, by rw [Lf, len_pwLin]; omega⟩
    rcases this with h | h | h | h <;> rw [h] <;> decide
theorem szG (s : S.Small) : SzL 2048 S.G ∧ S.G.length ≤ 5 := by
  have h4 := s.deg
  have e : S.G = mul (pw (Lf S.oa) S.i) (pw (Lf S.ob) S.j) := by
    show mul (pw (Lf S.oa) S.i) (mul (pw (Lf S.ob) S.j) (pw S.h S.k)) = _
    rw [s.k0, pw, mul_one' ((Mo.Lf _).pw _).nm]
  have a1 := szPwLf s.a (n := S.i) fun z => by rw [if_neg z] at h4; omega
  have b1 := szPwLf s.b (n := S.j) fun z => by rw [if_neg z] at h4; omega
  rw [e]
  have z := (a1.1.mulm (m := 4) b1.1 (.inl a1.2)).mono (show 4 * (168 + 168 + 1) ≤ 2048 by decide)
  refine ⟨z, ?_⟩
  rw [((Mo.Lf S.oa).pw S.i).mul_len ((Mo.Lf S.ob).pw S.j)]
  by_cases ha : S.oa = none
  · rw [ha, s.nb ha, Lf, pw_one, pw_one]; decide
  · rw [if_neg ha] at h4
    obtain ⟨a, hoa⟩ := Option.ne_none_iff_exists'.mp ha
    by_cases hb : S.ob = none
    · rw [hoa, hb, Lf, Lf, pw_one, len_pwLin]
      show S.i + 1 + 1 - 1 ≤ 5
      omega
    · rw [if_neg hb] at h4
      obtain ⟨b, hob⟩ := Option.ne_none_iff_exists'.mp hb
      rw [hoa, hob, Lf, Lf, len_pwLin, len_pwLin]; omega
/-! ### map_of may be asked -/
theorem gt_pow {n N : Nat} {q : Rat} (h : Sz n q) (hq : 0 < q) (hn : n < N) : 1 < q * (2 : Rat) ^ N := by
  have h1 := h.ge hq
  have h2 : (2 : Rat) ^ (n + 1) ≤ (2 : Rat) ^ N := two_le (by omega)
  have h3 := Rat.mul_nonneg (Rat.le_of_lt hq) (show (0 : Rat) ≤ (2 : Rat) ^ N - (2 : Rat) ^ (n + 1) by grind)
  rw [Rat.pow_succ] at h2 h3
  generalize (2 : Rat) ^ N = T at *
  generalize (2 : Rat) ^ n = t at *
  grind
theorem slp_F_at (o : S.Ok) {a : Rat} (ha : S.oa = some a) : ev (slp S.F) a ≠ 0 := by
  have e : ev (slp S.F) a = ev (slp S.f) a * (ev S.g a * ev S.h a) + ev S.f a * ev (slp (mulR S.g S.h)) a := by
    rw [ev_slp_congr (q := mulR S.f (mulR S.g S.h)) (fun x => by rw [ev_F, ev_mulR, ev_mulR]) a, ev_slp_mulR, ev_mulR]
  have e1 : ev S.f a = 0 := by unfold f; rw [ha]; simp only [Lf, ev_lin]; grind
  have e2 : ev (slp S.f) a = 1 := by
    unfold f; rw [ha]
    show ev [1 * ((1 : Nat) : Rat)] a = 1
    have : ((1 : Nat) : Rat) = 1 := rfl
    rw [this]; simp only [ev]; grind
  rw [e, e1, e2]
  have g0 : ev S.g a ≠ 0 := by
    unfold g
    cases hb : S.ob with
    | none => simp only [Lf, ev]; grind
    | some b =>
      have := o.ab a b ha hb
      simp only [Lf, ev_lin]; grind
  have h0 : ev S.h a ≠ 0 := by
    unfold h
    cases hq : S.oq with
    | none => simp only [Qf, ev]; grind
    | some q =>
      have := o.aq a q (.inl ha) hq
      simp only [Qf, ev_qd]; grind
  intro z
  have z1 : ev S.g a * ev S.h a = 0 := by grind
  rcases Rat.mul_eq_zero.mp z1 with z1 | z1
  · exact g0 z1
  · exact h0 z1
theorem far_pow : (20 : Rat) * ((2 : Rat) ^ 227 * ((2 : Rat) ^ RHO * (2 : Rat) ^ RHO)) < (2 : Rat) ^ (5 + 227 + RHO + RHO) := by
  rw [rpow_add, rpow_add, rpow_add]
  have h1 := two_pos 227
  have h2 := two_pos RHO
  have h5 : (2 : Rat) ^ 5 = 32 := by decide +kernel
  rw [h5]
  have h3 := Rat.mul_pos h1 (Rat.mul_pos h2 h2)
  generalize (2 : Rat) ^ 227 = a at *
  generalize (2 : Rat) ^ RHO = b at *
  grind
theorem sl_num {v : Rat} (hv : v ≠ 0) (h : Sz 956 v) : (20 : Rat) * ((2 : Rat) ^ 227 * ((2 : Rat) ^ RHO * (2 : Rat) ^ RHO)) < v * (2 : Rat) ^ NN ∨ (20 : Rat) * ((2 : Rat) ^ 227 * ((2 : Rat) ^ RHO * (2 : Rat) ^ RHO)) < -v * (2 : Rat) ^ NN := by
  have key : ∀ v : Rat, 0 < v → Sz 956 v → (20 : Rat) * ((2 : Rat) ^ 227 * ((2 : Rat) ^ RHO * (2 : Rat) ^ RHO)) < v * (2 : Rat) ^ NN := fun v hv h => by
    have h1 := far_pow
    have h2 := h.ge hv
    have h3 : (2 : Rat) ^ (956 + (5 + 227 + RHO + RHO)) ≤ (2 : Rat) ^ NN := two_le (by rw [RHO_eq, NN_eq]; omega)
    rw [rpow_add] at h3
    have h4 := Rat.mul_nonneg (Rat.le_of_lt hv) (show (0 : Rat) ≤ (2 : Rat) ^ NN - (2 : Rat) ^ 956 * (2 : Rat) ^ (5 + 227 + RHO + RHO) by grind)
    have h5 := Rat.mul_nonneg (show (0 : Rat) ≤ v * (2 : Rat) ^ 956 - 1 by grind) (Rat.le_of_lt (two_pos (5 + 227 + RHO + RHO)))
    generalize (20 : Rat) * ((2 : Rat) ^ 227 * ((2 : Rat) ^ RHO * (2 : Rat) ^ RHO)) = L at *
    generalize (2 : Rat) ^ NN = T at *
    generalize (2 : Rat) ^ (5 + 227 + RHO + RHO) = U at *
    generalize (2 : Rat) ^ 956 = W at *
    grind
  by_cases h0 : 0 < v
  · exact .inl (key v h0 h)
  · exact .inr (key (-v) (by grind) h.neg)
theorem nums (o : S.Ok) (p : S.Pos) (s : S.Small) : S.Nums ((2 : Rat) ^ RHO) ((2 : Rat) ^ 227) NN := by
  have hN := NN_eq
  have l5 := F_le o
  have hs : SzL 227 (slp S.F) := SzL.slp (szF s) (by omega)
  have hl := slp_len S.F
  have hsz : ∀ a, Sz 11 a → Sz 956 (ev (slp S.F) a) := fun a ha => (Sz.ev ha hs).mono (by
    have : (slp S.F).length * (227 + 11 + 1) ≤ 4 * (227 + 11 + 1) := Nat.mul_le_mul_right _ (by omega)
    omega)
  refine ⟨two_ge _, fun b hb => (hs b hb).le, fun a b ha hb => ?_, fun q hq => ?_, fun a ha => ?_⟩
  · have hne := o.ab a b ha hb
    have sa := s.a a ha
    have sb := s.b b hb
    by_cases h : 0 < a - b
    · exact .inl (gt_pow (sa.sub sb) h (by omega))
    · exact .inr (gt_pow (sb.sub sa) (by grind) (by omega))
  · have h0 := p q hq
    exact Rat.le_of_lt (gt_pow (s.q q hq).2.1 h0 (by omega))
  · rcases ha with ha | ha
    · exact sl_num (slp_F_at o ha) (hsz a (s.a a ha))
    · have h1 := slp_F_at (S := S.sw) o.sw (a := a) ha
      rw [sw_F] at h1
      exact sl_num h1 (hsz a (s.b a ha))
theorem pwOf (o : S.Ok) (s : S.Small) : ∃ e, PlainW S.P e ∧ S.F = mon e := by
  obtain ⟨hg, D, e, h1, h2, h3, h4⟩ := o.gcd
  have := h1.unique hg
  subst this
  exact ⟨e, ⟨_, h1, (szG s).1, (szG s).2, h2, h3⟩, h4⟩
theorem good (o : S.Ok) (s : S.Small) : Good S.P := ⟨Norm_P S, P_ne o.c0, o.len, (szP s).mono (by omega)⟩
theorem mapIn (o : S.Ok) (p : S.Pos) (s : S.Small) : MapIn S.P S.F :=
  ⟨good o s, Sh.kit o p, pwOf o s, (szF s).mono (by omega), ⟨S.spots, S.spots_len, Sh.spec o p⟩, Sh.fine o p (nums o p s)⟩
theorem Neg.mapIn {b m : Rat} (n : S.Neg b m) (o : S.Ok) (s : S.Small) : MapIn S.P S.F :=
  ⟨good o s, n.kit o, pwOf o s, (szF s).mono (by omega), ⟨[-b], by simp, n.spec o⟩, n.fine o (by
    have h0 := n.m0
    have := (s.q _ n.oq).2.1
    exact Rat.le_of_lt (gt_pow this.neg (by grind) (by rw [NN_eq]; omega)))⟩
end Sh
theorem sz_maxF {n : Nat} {L : Rat} (hL : Sz n L) : ∀ {p : Pl} {g : Rat}, SzL n p → Sz (2 * n) g → Sz (2 * n) (maxF L g p)
  | [], g, _, hg => hg
  | a :: p, g, hp, hg => by
    unfold maxF
    refine sz_maxF hL hp.tail ?_
    split
    · exact Sz.absR ((hp.head.div hL).mono (by omega))
    · exact hg
theorem sz_bnd {n : Nat} {P : Pl} (h : SzL n P) : Sz (2 * n + 1) (bnd P) := by
  unfold bnd
  exact ((Sz.one 0).add (sz_maxF h.lst (fun a ha => h a (List.dropLast_subset _ ha)) (Sz.zero _))).mono (by omega)
/-- what on_all is handed -/
structure OnIn (P F : Pl) : Prop where
  mi : MapIn P F
  sz : SzL 1040 P
theorem Sh.onIn {S : Sh} (o : S.Ok) (p : S.Pos) (s : S.Small) : OnIn S.P S.F := ⟨S.mapIn o p s, S.szP s⟩
theorem Sh.Neg.onIn {S : Sh} {b m : Rat} (n : S.Neg b m) (o : S.Ok) (s : S.Small) : OnIn S.P S.F := ⟨n.mapIn o s, S.szP s⟩
theorem bd_pow {n : Nat} {q : Rat} (h : Sz n q) (hn : n ≤ RHO) : bd q ((2 : Rat) ^ RHO) := h.le.mono (two_le hn)
end NB

set_option Elab.async false
set_option linter.all false
set_option maxRecDepth 100000
set_option maxHeartbeats 4000000
namespace NB
open PySem PySem.Spec PyProof.Rows L2
theorem maxF_step (L g a : Rat) (p : Pl) : maxF L g (a :: p) = maxF L (if g < absR (a / L) then absR (a / L) else g) p := rfl
theorem cutV_neg1 {vs : List V} (h : 1 ≤ vs.length) : cutV vs none (some (-1)) = vs.take (vs.length - 1) ∧ ¬ (HT.sIx vs.length 0 none = 0 ∧ HT.sIx vs.length vs.length (some (-1)) = vs.length) := by
  have e : HT.sIx vs.length vs.length (some (-1)) = vs.length - 1 := by
    unfold HT.sIx; simp only
    rw [if_pos (by decide)]; omega
  unfold cutV
  rw [e, HT.sIx_none]
  refine ⟨by simp, by omega⟩
theorem atI_m1 {vs : List V} {v : V} (h : vs[vs.length - 1]? = some v) : atI vs (-1) = some v := by
  have hi := (List.getElem?_eq_some_iff.mp h).1
  have hne : vs ≠ [] := fun z => by subst z; simp at hi
  have e : vs = vs.dropLast ++ [v] := by
    have h1 := List.dropLast_concat_getLast hne
    have h2 : vs.getLast hne = v := by
      rw [List.getLast_eq_getElem]
      rw [List.getElem?_eq_getElem hi] at h
      exact Option.some.inj h
    rw [h2] at h1; exact h1.symm
  rw [e]; exact atI_last _ _
section
variable {P : Program} {w : World} {K : PySem.W.Frag} {mg : Str → Option Value} {base : Heap}
/-! ### without_sign, bound -/
def spWithoutSign (K : PySem.W.Frag) : Sp := fun vs H Q _ => ∃ x a, vs = [x] ∧ Num K H x a ∧ Sm a ∧ Gives K H (nD (absR a)) Q
theorem sc69 : FnScope ["one"] ["one"] (defScope (top 69)) := ⟨rfl, rfl, rfl, by decide +kernel, rfl, by decide +kernel, by decide +kernel⟩
theorem sm_zero : Sm 0 := (Sz.zero 0).sm (by omega)
theorem sm_one : Sm 1 := (Sz.one 0).sm (by omega)
theorem ok_without_sign (F : Df K mg "without_sign" 69) (k0 : KN K mg "NOUGHT_squares" 0) (cS : Cal P w K mg base 33 "sign" (spSign K)) (cMi : Cal P w K mg base 35 "minus" (spMinus K)) : Cal P w K mg base 36 "without_sign" (spWithoutSign K) := by
  refine F.cal sc69 (fun _ _ _ _ _ _ us hl => match us, hl with | [_], _ => rfl) (fun vs H Q E h => ?_) (fun f cdv A outer s H vs Q E hr h => ?_)
  · obtain ⟨_, _, rfl, _⟩ := h; rfl
  obtain ⟨x, a, rfl, hx, sa, q⟩ := h
  obtain ⟨a0, hm0, h0⟩ := k0
  refine ⟨_, (pss_cons (ps_if (pt_cmpR op_lt (pe_c cS hr (by decide) (by rfl) (pa_cons (pv 0) pa_nil)) pe_int (nomark _)) (pss_one (ps_ret (pe_c cMi hr (by decide) (by rfl) (pa_cons (pe_gc (v := .ref a0) (by rfl) ⟨_, hm0, rfl⟩) (pa_cons (pv 0) pa_nil))))) pss_nil)
    (pss_one (ps_ret (pv 0)))), ?_⟩
  refine ⟨_, rfl, _, _, rfl, hx, _, _, rfl, rfl, _, rfl, ite2 (fun e => ?_) (fun e => ?_)⟩
  · have e : sgn a < 0 := of_decide_eq_true e
    have e := (sgn_neg a).mp e
    refine ⟨_, rfl, _, _, 0, a, rfl, h0 _, hx, ⟨sm_zero, sa⟩, fun H1 v s1 hv => q _ _ s1 ?_⟩
    unfold absR; rw [if_pos e]; exact hv
  · have e : ¬ a < 0 := fun z => e (decide_eq_true ((sgn_neg a).mpr z))
    refine ⟨_, rfl, q _ _ (.refl _) ?_⟩
    unfold absR; rw [if_neg e]; exact hx
def spBound (K : PySem.W.Frag) : Sp := fun vs H Q _ => ∃ x p n, vs = [x] ∧ Dp K H x (cD p) ∧ Norm p ∧ p ≠ [] ∧ p.length ≤ 100 ∧ SzL n p ∧ 2 * n ≤ LIM ∧ Gives K H (nD (bnd p)) Q
theorem sc70 : FnScope ["curve", "greatest", "one", "size"] ["curve"] (defScope (top 70)) := ⟨rfl, rfl, rfl, by decide +kernel, rfl, by decide +kernel, by decide +kernel⟩
theorem ok_bound (F : Df K mg "bound" 70) (k0 : KN K mg "NOUGHT_squares" 0) (k1 : KN K mg "ONE_squares" 1) (cW : Cal P w K mg base 36 "without_sign" (spWithoutSign K)) (cO : Cal P w K mg base 35 "over" (spOver K)) (cL : Cal P w K mg base 33 "less" (spLess K)) (cP : Cal P w K mg base 35 "plus" (spPlus K)) : Cal P w K mg base 37 "bound" (spBound K) := by
  refine F.cal sc70 (fun _ _ _ _ _ _ us hl => match us, hl with | [_], _ => rfl) (fun vs H Q E h => ?_) (fun f cdv A outer s H vs Q E hr h => ?_)
  · obtain ⟨_, _, _, rfl, _⟩ := h; rfl
  obtain ⟨x, p, n, rfl, hx, hN, hne, h100, sp, hnL, q⟩ := h
  obtain ⟨ad, vs, rfl, hs, hn⟩ := cur_inv hx
  have hl := nums_len hn
  have h1p : 1 ≤ p.length := List.length_pos_iff.mpr hne
  obtain ⟨a0, hm0, h0⟩ := k0
  obtain ⟨a1, hm1, h1⟩ := k1
  have hLp := lst_ne hN hne
  refine ⟨_, (pss_cons (ps_if (pt_cmpR (op_eqD hr.units) (pv 0) (pe_tup pa_nil) (nomark _)) pss_never pss_nil)
    (pss_cons (ps_set (i := 1) sc70.nd rfl (.inl rfl) (pe_gc (v := .ref a0) (by rfl) ⟨_, hm0, rfl⟩))
    (pss_cons (ps_for PassesOwn.never rfl (pi_tup (pe_slice sl_tupA (pv 0) po_none (po_some (pe_un un_neg pe_int)))) (pg_name (i := 2) sc70.nd rfl (.inl rfl)) (pss_cons (ps_set (i := 3) sc70.nd rfl (.inl rfl) (pe_c cW hr (by decide) (by rfl) (pa_cons (pe_c cO hr (by decide) (by rfl) (pa_cons (pv 2) (pa_cons (pe_ix ix_tup (pv 0) (pe_un un_neg pe_int) (fun _ _ => rfl)) pa_nil))) pa_nil)))
    (pss_one (ps_if (pt_val (pe_c cL hr (by decide) (by rfl) (pa_cons (pv 1) (pa_cons (pv 3) pa_nil)))) (pss_one (ps_set (i := 1) sc70.nd rfl (.inl rfl) (pv 3))) pss_nil))))
    (pss_one (ps_ret (pe_c cP hr (by decide) (by rfl) (pa_cons (pe_gc (v := .ref a1) (by rfl) ⟨_, hm1, rfl⟩) (pa_cons (pv 1) pa_nil)))))))), ?_⟩
  refine ⟨_, rfl, Nat.zero_le _, fun t0 nt0 => ⟨cD p, cD [], dp_mono (same_upd nt0) hx, .tup (SqT.of upd_same) .nil, cD_shaped p, cD_shaped [], _, rfl, ?_⟩⟩
  have s0 := same_upd (o := .tup []) nt0
  rw [cD_eqv]
  refine ite2 (fun e => absurd (of_decide_eq_true e) hne) (fun _ => ?_)
  obtain ⟨c1, c2⟩ := cutV_neg1 (vs := vs) (by omega)
  refine ⟨_, rfl, _, rfl, _, rfl, ad, vs, rfl, sqT_mono s0 hs, fun z => absurd z c2, fun _ t1 nt1 => ?_⟩
  rw [c1]
  have s1 := s0.trans (same_upd (o := .tup (vs.take (vs.length - 1))) nt1)
  generalize hH1 : upd (upd H t0 (.tup [])) t1 (.tup (vs.take (vs.length - 1))) = H1 at *
  have hq1 : SqT K H1 t1 (vs.take (vs.length - 1)) := by rw [← hH1]; exact SqT.of upd_same
  have hnd : Nums K H1 (vs.take (vs.length - 1)) p.dropLast := by
    rw [List.dropLast_eq_take, ← hl]
    exact dpa_mono s1 (nums_take _ hn)
  have hld := nums_len hnd
  have sd : SzL n p.dropLast := fun a ha => sp a (List.dropLast_subset _ ha)
  have hvl : ∃ v, vs[vs.length - 1]? = some v ∧ Num K H v (lst p) := by
    obtain ⟨v, hv, hnv⟩ := nums_get hn (i := p.length - 1) (by omega)
    rw [← co_lt] at hnv
    exact ⟨v, by rw [hl]; exact hv, hnv⟩
  obtain ⟨vl, hvl1, hvl2⟩ := hvl
  refine ⟨t1, rfl, ⟨_, hq1⟩, for_tup (K := K) (a := t1) (xs := vs.take (vs.length - 1)) (fun i σ H2 => ∃ vg g y2 y3, σ = [some (.ref ad), some vg, y2, y3] ∧ Same H1 H2 ∧ Num K H2 vg g ∧ Sz (2 * n) g ∧ maxF (lst p) g (p.dropLast.drop i) = maxF (lst p) 0 p.dropLast) ⟨_, 0, none, none, rfl, .refl _, h0 _, .zero _, rfl⟩ (fun i σ H2 _ h => ?_) (fun i z σ H2 hz h => ?_) (fun σ H2 h => ?_)⟩
  · obtain ⟨_, _, _, _, rfl, s2, _⟩ := h
    exact sqT_mono s2 hq1
  · obtain ⟨vg, g, y2, y3, rfl, s2, hg, sg, hf⟩ := h
    obtain ⟨hi, hz2⟩ := nums_get' hnd hz
    have s12 := s1.trans s2
    have szi := sd _ (List.getElem_mem hi)
    have szl : Sz n (lst p) := sp.lst
    refine ⟨_, rfl, _, rfl, _, rfl, ad, vs, _, vl, rfl, rfl, sqT_mono s12 hs, atI_m1 hvl1, ?_⟩
    refine ⟨_, _, _, _, rfl, dp_mono s2 hz2, dp_mono s12 hvl2, ⟨⟨szi.sm (by omega), szl.sm (by omega)⟩, hLp⟩, fun H3 v3 s3 hv3 => ?_⟩
    have sd3 := (szi.div szl).mono (show _ ≤ 2 * n by omega)
    refine ⟨_, _, rfl, hv3, sd3.sm hnL, fun H4 v4 s4 hv4 => ?_⟩
    have s34 := s3.trans s4
    refine ⟨_, rfl, _, rfl, _, _, g, _, rfl, dp_mono s34 hg, hv4, sg.sm hnL, (Sz.absR sd3).sm hnL, _, rfl, ?_⟩
    rw [List.drop_eq_getElem_cons hi, maxF_step] at hf
    refine ite2 (fun e => ?_) (fun e => ?_)
    · have e : g < absR (p.dropLast[i] / lst p) := of_decide_eq_true e
      rw [if_pos e] at hf
      exact ⟨_, rfl, _, _, _, _, rfl, s2.trans s34, hv4, Sz.absR sd3, hf⟩
    · have e : ¬ g < absR (p.dropLast[i] / lst p) := fun z => e (decide_eq_true z)
      rw [if_neg e] at hf
      exact ⟨_, _, _, _, rfl, s2.trans s34, dp_mono s34 hg, sg, hf⟩
  · obtain ⟨vg, g, y2, y3, rfl, s2, hg, sg, hf⟩ := h
    rw [List.drop_of_length_le (by omega)] at hf
    have hf : g = maxF (lst p) 0 p.dropLast := hf
    refine ⟨_, rfl, _, _, 1, g, rfl, h1 _, hg, ⟨sm_one, sg.sm hnL⟩, fun H3 v3 s3 hv3 => q _ _ ((s1.trans s2).trans s3) ?_⟩
    unfold bnd; rw [← hf]; exact hv3
/-! ### look_at, far_place -/
def spLookAt (K : PySem.W.Frag) : Sp := fun vs H Q _ => ∃ x p, vs = [x] ∧ Dp K H x (cD p) ∧ p.length ≤ 5 ∧ Q .non H
theorem sc72 : FnScope ["curve"] ["curve"] (defScope (top 72)) := ⟨rfl, rfl, rfl, by decide +kernel, rfl, by decide +kernel, by decide +kernel⟩
theorem ok_look_at (F : Df K mg "look_at" 72) (B : Bl mg) (kM : KI mg "MOST_DEGREE_squares" 4) : Cal P w K mg base 33 "look_at" (spLookAt K) := by
  refine F.cal sc72 (fun _ _ _ _ _ _ us hl => match us, hl with | [_], _ => rfl) (fun vs H Q E h => ?_) (fun f cdv A outer s H vs Q E hr h => ?_)
  · obtain ⟨_, _, rfl, _⟩ := h; rfl
  obtain ⟨x, p, rfl, hx, h5, q⟩ := h
  obtain ⟨ad, vs, rfl, hs, hn⟩ := cur_inv hx
  have hl := nums_len hn
  refine ⟨_, (pss_one (ps_if (pt_cmpR op_gt (pe_callB call_len_seq (by rfl) B.len PySem.boot_len (pa_cons (pv 0) pa_nil)) (pe_op op_add (pe_gc (by rfl) kM) pe_int) (nomark _)) pss_never pss_nil)), ?_⟩
  refine ⟨_, rfl, ad, vs, rfl, .inr hs, _, _, rfl, rfl, _, _, rfl, rfl, _, rfl, ite2 (fun e => ?_) (fun _ => q)⟩
  have e : (4 : Int) + 1 < (vs.length : Int) := of_decide_eq_true e
  omega
def spFarPlace (K : PySem.W.Frag) : Sp := fun vs H Q _ => ∃ x p, vs = [x] ∧ Dp K H x (cD p) ∧ Norm p ∧ p ≠ [] ∧ p.length ≤ 5 ∧ SzL 2048 p ∧
  (¬ ev p (-(bnd p)) < 0 → ¬ ev p (bnd p) < 0 → Says H .non Q) ∧ ∀ t, (t = -(bnd p) ∨ t = bnd p) → ev p t < 0 → Gives K H (nD t) Q
theorem sc73 : FnScope ["curve", "far", "place"] ["curve"] (defScope (top 73)) := ⟨rfl, rfl, rfl, by decide +kernel, rfl, by decide +kernel, by decide +kernel⟩
theorem ok_far_place (F : Df K mg "far_place" 73) (k0 : KN K mg "NOUGHT_squares" 0) (cB : Cal P w K mg base 37 "bound" (spBound K)) (cMi : Cal P w K mg base 35 "minus" (spMinus K)) (cS : Cal P w K mg base 33 "sign" (spSign K)) (cW : Cal P w K mg base 36 "worth" (spWorth K)) : Cal P w K mg base 38 "far_place" (spFarPlace K) := by
  refine F.cal sc73 (fun _ _ _ _ _ _ us hl => match us, hl with | [_], _ => rfl) (fun vs H Q E h => ?_) (fun f cdv A outer s H vs Q E hr h => ?_)
  · obtain ⟨_, _, rfl, _⟩ := h; rfl
  obtain ⟨x, p, rfl, hx, hN, hne, h5, sp, qn, qs⟩ := h
  have hL := LIM_eq
  obtain ⟨a0, hm0, h0⟩ := k0
  have sb := sz_bnd sp
  refine ⟨_, (pss_cons (ps_set (i := 1) sc73.nd rfl (.inl rfl) (pe_c cB hr (by decide) (by rfl) (pa_cons (pv 0) pa_nil)))
    (pss_cons (ps_for PassesOwn.never rfl (pi_list (pe_lst (pa_cons (pe_c cMi hr (by decide) (by rfl) (pa_cons (pe_gc (v := .ref a0) (by rfl) ⟨_, hm0, rfl⟩) (pa_cons (pv 1) pa_nil))) (pa_cons (pv 1) pa_nil)))) (pg_name (i := 2) sc73.nd rfl (.inl rfl)) (pss_one (ps_if (pt_cmpR op_lt (pe_c cS hr (by decide) (by rfl) (pa_cons (pe_c cW hr (by decide) (by rfl) (pa_cons (pv 0) (pa_cons (pv 2) pa_nil))) pa_nil)) pe_int (nomark _)) (pss_one (ps_ret (pv 2))) pss_nil)))
    (pss_one (ps_ret pe_non)))), ?_⟩
  refine ⟨_, rfl, _, p, 2048, rfl, hx, hN, hne, by omega, sp, by omega, fun H1 v1 s1 hv1 => ?_⟩
  refine ⟨_, rfl, _, _, 0, bnd p, rfl, h0 _, hv1, ⟨sm_zero, sb.sm (by omega)⟩, fun H2 v2 s2 hv2 => ?_⟩
  have hv2 : Num K H2 v2 (0 - bnd p) := hv2
  rw [show (0 : Rat) - bnd p = -(bnd p) by grind] at hv2
  refine ⟨_, rfl, by show 2 ≤ sizeLine; decide, fun L nL => ?_⟩
  have s3 := same_upd (o := .lst [v2, v1]) nL
  have hLn : Nums K (upd H2 L (.lst [v2, v1])) [v2, v1] [-(bnd p), bnd p] := .cons (dp_mono s3 hv2) (.cons (dp_mono (s2.trans s3) hv1) .nil)
  have s13 := (s1.trans s2).trans s3
  have spl : SzL 4097 [-(bnd p), bnd p] := .cons sb.neg (.cons sb (.nil _))
  refine ⟨L, rfl, ⟨_, SqL.of upd_same⟩, for_list (K := K) (a := L) (xs := [v2, v1]) (fun i σ H3 => ∃ y2, σ = [some x, some v1, y2] ∧ Same (upd H2 L (.lst [v2, v1])) H3 ∧ ∀ k, k < i → ∀ hk : k < [-(bnd p), bnd p].length, ¬ ev p [-(bnd p), bnd p][k] < 0) ⟨none, rfl, .refl _, fun k hk => absurd hk (by omega)⟩ (fun i σ H3 _ h => ?_) (fun i z σ H3 hz h => ?_) (fun σ H3 h => ?_)⟩
  · obtain ⟨_, rfl, s4, _⟩ := h
    exact s4.seq (SqL.of upd_same)
  · obtain ⟨y2, rfl, s4, hno⟩ := h
    obtain ⟨hi, hz2⟩ := nums_get' hLn hz
    refine ⟨_, rfl, _, rfl, _, _, p, [-(bnd p), bnd p][i], rfl, dp_mono (s13.trans s4) hx, dp_mono s4 hz2, wsz_of (sp.mono (by omega)) h5 (spl _ (List.getElem_mem hi)) (by omega), fun H5 v5 s5 hv5 => ?_⟩
    refine ⟨_, _, rfl, hv5, _, _, rfl, rfl, _, rfl, ite2 (fun e => ?_) (fun e => ?_)⟩
    · have e : sgn (ev p [-(bnd p), bnd p][i]) < 0 := of_decide_eq_true e
      have e := (sgn_neg _).mp e
      have hi2 : i < 2 := hi
      have hc : [-(bnd p), bnd p][i] = -(bnd p) ∨ [-(bnd p), bnd p][i] = bnd p := by
        have : i = 0 ∨ i = 1 := by omega
        rcases this with rfl | rfl
        · exact .inl rfl
        · exact .inr rfl
      exact ⟨_, rfl, qs _ hc e _ _ ((s13.trans s4).trans s5) (dp_mono (s4.trans s5) hz2)⟩
    · have e : ¬ ev p [-(bnd p), bnd p][i] < 0 := fun z => e (decide_eq_true ((sgn_neg _).mpr z))
      refine ⟨_, rfl, s4.trans s5, fun k hk hk2 => ?_⟩
      by_cases hkj : k = i
      · subst hkj; exact e
      · exact hno k (by omega) hk2
  · obtain ⟨y2, rfl, s4, hno⟩ := h
    exact qn (hno 0 (by show 0 < 2; omega) (by show 0 < 2; omega)) (hno 1 (by show 1 < 2; omega) (by show 1 < 2; omega)) _ (s13.trans s4)
end
end NB

set_option Elab.async false
set_option linter.all false
set_option maxRecDepth 100000
set_option maxHeartbeats 4000000
namespace NB
open PySem PySem.Spec PyProof.Rows L2
/-- not below at both far places: not below beyond them -/
theorem beyond {P : Pl} (hN : Norm P) (hne : P ≠ []) (h1 : ¬ ev P (-(bnd P)) < 0) (h2 : ¬ ev P (bnd P) < 0) : (∀ x : Rat, bnd P ≤ x → 0 < ev P x) ∧ ∀ x : Rat, x ≤ -(bnd P) → 0 < ev P x := by
  have pos : ∀ L y : Rat, 0 < L * y → ¬ y < 0 → 0 < y := fun L y h k => by
    by_cases hy : y = 0
    · rw [hy] at h; grind
    · grind
  constructor
  · intro x hx
    have a := far_right hN hne (x := bnd P) Rat.le_refl
    have b := far_right hN hne hx
    have c := pos _ _ a h2
    have hL : 0 < lst P := by
      by_cases h : 0 < lst P
      · exact h
      · have := Rat.mul_nonneg (show (0 : Rat) ≤ -(lst P) by grind) (Rat.le_of_lt c)
        grind
    by_cases h : 0 < ev P x
    · exact h
    · have := Rat.mul_nonneg (Rat.le_of_lt hL) (show (0 : Rat) ≤ -(ev P x) by grind)
      grind
  · intro x hx
    have a := far_left hN hne hx (z := -(bnd P)) Rat.le_refl
    have c := pos _ _ a h1
    by_cases h : 0 < ev P x
    · exact h
    · have := Rat.mul_nonneg (show (0 : Rat) ≤ -(ev P x) by grind) (Rat.le_of_lt c)
      grind
theorem far_le {P : Pl} : -(bnd P) < bnd P := by have := bnd_ge (P := P); grind
theorem all_nn {P F : Pl} {rows : List Row} (K : Kit P F) (h1 : ¬ ev P (-(bnd P)) < 0) (h2 : ¬ ev P (bnd P) < 0) (c : Cov P F (-(bnd P)) (bnd P) rows) (hb : belowP P rows = none) (x : Rat) : 0 ≤ ev P x := by
  obtain ⟨b1, b2⟩ := beyond K.nm K.ne h1 h2
  by_cases h : bnd P ≤ x
  · exact Rat.le_of_lt (b1 x h)
  · by_cases h' : x ≤ -(bnd P)
    · exact Rat.le_of_lt (b2 x h')
    · exact c.none_below K far_le hb x (by grind) (by grind)
theorem all_pos {P F : Pl} {rows : List Row} (K : Kit P F) (h1 : ¬ ev P (-(bnd P)) < 0) (h2 : ¬ ev P (bnd P) < 0) (c : Cov P F (-(bnd P)) (bnd P) rows) (hb : belowP P rows = none) (hp : ¬ ∃ r ∈ rows, r.place = true) (x : Rat) : 0 < ev P x := by
  obtain ⟨b1, b2⟩ := beyond K.nm K.ne h1 h2
  have h0 := all_nn K h1 h2 c hb x
  by_cases h : bnd P ≤ x
  · exact b1 x h
  · by_cases h' : x ≤ -(bnd P)
    · exact b2 x h'
    · by_cases hz : ev P x = 0
      · exact absurd (c.rt x (by grind) (by grind) ((K.fz x).mpr hz)) hp
      · grind
section
variable {P : Program} {w : World} {K : PySem.W.Frag} {mg : Str → Option Value} {base : Heap}
/-! ### on_all -/
def spOnAll (K : PySem.W.Frag) : Sp := fun vs H Q _ => ∃ x P F, vs = [x] ∧ Dp K H x (cD P) ∧ OnIn P F ∧
  (∀ t, -(bnd P) ≤ t → t ≤ bnd P → ev P t < 0 → Sz 18446 t → Gives K H (.tuple [.str "below", nD t]) Q) ∧
  (∀ rows, Cov P F (-(bnd P)) (bnd P) rows → (∀ r ∈ rows, RSz 18446 r) → rows.length ≤ 150000 → (∀ x, 0 ≤ ev P x) → belowP P rows = none → (∃ r ∈ rows, r.place = true) → Gives K H (.tuple [.str "touches", .list (rows.map rowD)]) Q) ∧
  ((∀ x, 0 < ev P x) → ∀ rows : List Row, Gives K H (.tuple [.str "above", .list (rows.map rowD)]) Q)
theorem sc74 : FnScope ["curve", "place", "far"] ["curve"] (defScope (top 74)) := ⟨rfl, rfl, rfl, by decide +kernel, rfl, by decide +kernel, by decide +kernel⟩
theorem ok_on_all (F : Df K mg "on_all" 74) (k0 : KN K mg "NOUGHT_squares" 0) (cF : Cal P w K mg base 38 "far_place" (spFarPlace K)) (cB : Cal P w K mg base 37 "bound" (spBound K)) (cV : Cal P w K mg base 43 "verdict" (spVerdict K)) (cMi : Cal P w K mg base 35 "minus" (spMinus K)) : Cal P w K mg base 44 "on_all" (spOnAll K) := by
  refine F.cal sc74 (fun _ _ _ _ _ _ us hl => match us, hl with | [_], _ => rfl) (fun vs H Q E h => ?_) (fun f cdv A outer s H vs Q E hr h => ?_)
  · obtain ⟨_, _, _, rfl, _⟩ := h; rfl
  obtain ⟨x, P0, F0, rfl, hx, hin, q1, q2, q3⟩ := h
  have hL := LIM_eq
  have hR := RHO_eq
  have hDD := DD_eq
  obtain ⟨a0, hm0, h0⟩ := k0
  have g := hin.mi.good
  have sb : Sz 2081 (bnd P0) := sz_bnd hin.sz
  have hb1 := bnd_ge (P := P0)
  have eN : 3 * 2081 + DD + 3 = 18446 := by omega
  refine ⟨_, (pss_cons (ps_set (i := 1) sc74.nd rfl (.inl rfl) (pe_c cF hr (by decide) (by rfl) (pa_cons (pv 0) pa_nil)))
    (pss_cons (ps_if (pt_cmpR op_notN (pv 1) pe_non (nomark _)) (pss_one (ps_ret (pe_tup (pa_cons (pe_str) (pa_cons (pv 1) pa_nil))))) pss_nil)
    (pss_cons (ps_set (i := 2) sc74.nd rfl (.inl rfl) (pe_c cB hr (by decide) (by rfl) (pa_cons (pv 0) pa_nil)))
    (pss_one (ps_ret (pe_c cV hr (by decide) (by rfl) (pa_cons (pv 0) (pa_cons (pe_c cMi hr (by decide) (by rfl) (pa_cons (pe_gc (v := .ref a0) (by rfl) ⟨_, hm0, rfl⟩) (pa_cons (pv 2) pa_nil))) (pa_cons (pv 2) pa_nil))))))))), ?_⟩
  refine ⟨_, rfl, _, P0, rfl, hx, g.nm, g.ne, g.l5, g.sz, fun n1 n2 H1 s1 => ?_, fun t ht hneg H1 v1 s1 hv1 => ?_⟩
  · refine ⟨_, rfl, rfl, _, rfl, ite2 (fun e => absurd e (by decide)) (fun _ => ?_)⟩
    refine ⟨_, rfl, _, P0, 1040, rfl, dp_mono s1 hx, g.nm, g.ne, by have := g.l5; omega, hin.sz, by omega, fun H2 v2 s2 hv2 => ?_⟩
    have s12 := s1.trans s2
    refine ⟨_, rfl, _, rfl, _, _, 0, bnd P0, rfl, h0 _, hv2, ⟨sm_zero, sb.sm (by omega)⟩, fun H3 v3 s3 hv3 => ?_⟩
    have hv3 : Num K H3 v3 (0 - bnd P0) := hv3
    rw [show (0 : Rat) - bnd P0 = -(bnd P0) by grind] at hv3
    have s13 := s12.trans s3
    refine ⟨_, rfl, _, _, _, P0, F0, -(bnd P0), bnd P0, 2081, rfl, dp_mono s13 hx, hv3, dp_mono s3 hv2, far_le, hin.mi, sb.neg, sb, by omega, bd_pow sb.neg (by omega), bd_pow sb (by omega), fun t h1 h2 h3 h4 H4 v4 s4 hv4 => ?_, fun rows hc hrs hrl hbn hp H4 v4 s4 hv4 => ?_, fun rows hc hbn hp H4 v4 s4 hv4 => ?_⟩
    · exact q1 t h1 h2 h3 (by rw [← eN]; exact h4) _ _ (s13.trans s4) hv4
    · exact q2 rows hc (by rw [← eN]; exact hrs) hrl (all_nn hin.mi.kit n1 n2 hc hbn) hbn hp _ _ (s13.trans s4) hv4
    · exact q3 (all_pos hin.mi.kit n1 n2 hc hbn hp) rows _ _ (s13.trans s4) hv4
  · obtain ⟨a1, rfl, _⟩ := num_inv hv1
    refine ⟨_, rfl, rfl, _, rfl, ite2 (fun _ => ?_) (fun e => absurd rfl e)⟩
    have hr1 : -(bnd P0) ≤ t ∧ t ≤ bnd P0 := by rcases ht with rfl | rfl <;> constructor <;> grind
    have st : Sz 18446 t := by
      rcases ht with rfl | rfl
      · exact sb.neg.mono (by omega)
      · exact sb.mono (by omega)
    exact ⟨_, rfl, by show 2 ≤ sizeLine; decide, fun t' nt => q1 t hr1.1 hr1.2 hneg st _ _ (s1.trans (same_upd nt)) (.tup (SqT.of upd_same) (.cons (.str _) (.cons (dp_mono (same_upd nt) hv1) .nil)))⟩
/-! ### is_never_below -/
def spNeverBelow (K : PySem.W.Frag) : Sp := fun vs H Q _ => ∃ x P, vs = [x] ∧ Dp K H x (cD P) ∧ (P = [] ∨ ∃ F, OnIn P F) ∧ ((∀ t, 0 ≤ ev P t) → Says H (.bl true) Q) ∧ ((¬ ∀ t, 0 ≤ ev P t) → Says H (.bl false) Q)
theorem sc75 : FnScope ["curve"] ["curve"] (defScope (top 75)) := ⟨rfl, rfl, rfl, by decide +kernel, rfl, by decide +kernel, by decide +kernel⟩
theorem it2_0 {a b : V} : atI [a, b] 0 = some a := rfl
theorem tup2_inv {K : PySem.W.Frag} {H : Hp} {v : V} {d e : PyData} (h : Dp K H v (.tuple [d, e])) : ∃ a x y, v = .ref a ∧ SqT K H a [x, y] ∧ Dp K H x d ∧ Dp K H y e := by
  cases h with
  | tup hs ha =>
    cases ha with
    | cons h1 h2 =>
      cases h2 with
      | cons h3 h4 =>
        cases h4
        exact ⟨_, _, _, rfl, hs, h1, h3⟩
theorem str_inv {K : PySem.W.Frag} {H : Hp} {v : V} {z : Str} (h : Dp K H v (.str z)) : v = .str z := by cases h; rfl
theorem ok_is_never_below (F : Df K mg "is_never_below" 75) (cO : Cal P w K mg base 44 "on_all" (spOnAll K)) : Cal P w K mg base 45 "is_never_below" (spNeverBelow K) := by
  refine F.cal sc75 (fun _ _ _ _ _ _ us hl => match us, hl with | [_], _ => rfl) (fun vs H Q E h => ?_) (fun f cdv A outer s H vs Q E hr h => ?_)
  · obtain ⟨_, _, rfl, _⟩ := h; rfl
  obtain ⟨x, P0, rfl, hx, hin, q1, q2⟩ := h
  refine ⟨_, (pss_one (ps_ret (pe_or (pe_cmpR (op_eqD hr.units) (pv 0) (pe_tup pa_nil) (nomark _)) (pe_one (pe_cmpR op_ne (pe_ix ix_tup (pe_c cO hr (by decide) (by rfl) (pa_cons (pv 0) pa_nil)) pe_int (fun _ _ => rfl)) pe_str (nomark _)))))), ?_⟩
  refine ⟨_, rfl, Nat.zero_le _, fun t0 nt0 => ⟨cD P0, cD [], dp_mono (same_upd nt0) hx, .tup (SqT.of upd_same) .nil, cD_shaped P0, cD_shaped [], ?_⟩⟩
  have s0 := same_upd (o := .tup []) nt0
  rw [cD_eqv]
  by_cases he : P0 = []
  · rw [decide_eq_true he]
    refine ⟨true, rfl, ?_⟩
    exact q1 (fun t => by rw [he, ev_nil]; exact Rat.le_refl) _ s0
  · rw [decide_eq_false he]
    refine ⟨false, rfl, ?_⟩
    obtain ⟨F0, hin⟩ := hin.resolve_left he
    refine ⟨_, rfl, _, P0, F0, rfl, dp_mono s0 hx, hin, fun t _ _ hneg _ H1 v1 s1 hv1 => ?_, fun rows _ _ _ hnn _ _ H1 v1 s1 hv1 => ?_, fun hpos rows H1 v1 s1 hv1 => ?_⟩
    · obtain ⟨a, x1, y1, rfl, hs, h1, _⟩ := tup2_inv hv1
      cases str_inv h1
      refine ⟨a, _, 0, _, rfl, rfl, hs, it2_0, rfl, ?_⟩
      exact q2 (fun z => absurd (z t) (by grind)) _ (s0.trans s1)
    · obtain ⟨a, x1, y1, rfl, hs, h1, _⟩ := tup2_inv hv1
      cases str_inv h1
      refine ⟨a, _, 0, _, rfl, rfl, hs, it2_0, rfl, ?_⟩
      exact q1 hnn _ (s0.trans s1)
    · obtain ⟨a, x1, y1, rfl, hs, h1, _⟩ := tup2_inv hv1
      cases str_inv h1
      refine ⟨a, _, 0, _, rfl, rfl, hs, it2_0, rfl, ?_⟩
      exact q1 (fun t => Rat.le_of_lt (hpos t)) _ (s0.trans s1)
/-! ### are_squares -/
def wqD (wq : Rat × Pl) : PyData := .tuple [nD wq.1, cD wq.2]
def evS (L : List (Rat × Pl)) (x : Rat) : Rat := match L with
  | [] => 0
  | wq :: r => wq.1 * (ev wq.2 x * ev wq.2 x) + evS r x
/-- squares of moderate size -/
structure SqOk (A : Nat) (L : List (Rat × Pl)) : Prop where
  w : ∀ wq ∈ L, 0 < wq.1 ∧ Sz A wq.1
  q : ∀ wq ∈ L, wq.2 ≠ [] ∧ Norm wq.2 ∧ wq.2.length ≤ 5 ∧ SzL A wq.2
  l : L.length ≤ 20
def totS : List (Rat × Pl) → Pl → Pl
  | [], t => t
  | wq :: r, t => totS r (add t (scl wq.1 (mul wq.2 wq.2)))
theorem ev_totS (x : Rat) : ∀ (L : List (Rat × Pl)) (t : Pl), ev (totS L t) x = ev t x + evS L x
  | [], t => by simp only [totS, evS]; grind
  | wq :: r, t => by
    simp only [totS, evS]
    rw [ev_totS x r, ev_add, ev_scl, ev_mul]; grind
theorem Norm_totS : ∀ (L : List (Rat × Pl)) (t : Pl), Norm t → Norm (totS L t)
  | [], t, h => h
  | wq :: r, t, _ => Norm_totS r _ (Norm_add _ _)
def spAreSquares (K : PySem.W.Frag) : Sp := fun vs H Q _ => ∃ x y P L, vs = [x, y] ∧ Dp K H x (cD P) ∧ Dp K H y (.list (L.map wqD)) ∧ Norm P ∧ (∃ A, A ≤ 100000 ∧ SqOk A L) ∧ (∀ t, evS L t = ev P t) ∧ Says H (.bl true) Q
theorem sc71 : FnScope ["curve", "some", "total", "weight", "other"] ["curve", "some"] (defScope (top 71)) := ⟨rfl, rfl, rfl, by decide +kernel, rfl, by decide +kernel, by decide +kernel⟩
theorem ok_are_squares (F : Df K mg "are_squares" 71) (B : Bl mg) (kM : KI mg "MOST_SQUARED" 6) (cS : Cal P w K mg base 33 "sign" (spSign K)) (cA : Cal P w K mg base 36 "added" (spAdded K)) (cSc : Cal P w K mg base 36 "scaled" (spScaled K)) (cM : Cal P w K mg base 37 "multiplied" (spMultiplied K)) : Cal P w K mg base 38 "are_squares" (spAreSquares K) := by
  refine F.cal sc71 (fun _ _ _ _ _ _ us hl => match us, hl with | [_, _], _ => rfl) (fun vs H Q E h => ?_) (fun f cdv A outer s H vs Q E hr h => ?_)
  · obtain ⟨_, _, _, _, rfl, _⟩ := h; rfl
  obtain ⟨x, y, P0, L, rfl, hx, hy, hN, ⟨a, haL, hok⟩, hev, q⟩ := h
  have hL := LIM_eq
  cases hy with
  | @lst yd vs _ hys hyn =>
  have hvl := dpa_len hyn
  rw [List.length_map] at hvl
  refine ⟨_, (pss_cons (ps_set (i := 2) sc71.nd rfl (.inl rfl) (pe_tup pa_nil))
    (pss_cons (ps_for PassesOwn.never rfl (pi_list (pv 1)) (pg_tup (by rfl) (pgs_cons (pg_name (i := 3) sc71.nd rfl (.inl rfl)) (pgs_cons (pg_name (i := 4) sc71.nd rfl (.inl rfl)) pgs_nil))) (pss_cons (ps_if (PW.pt (pw_or (pt_cmpR op_le (pe_c cS hr (by decide) (by rfl) (pa_cons (pv 3) pa_nil)) pe_int (nomark _)) (pw_or (pt_cmpR (op_eqD hr.units) (pv 4) (pe_tup pa_nil) (nomark _)) (pw_or1 (pt_cmpR op_gt (pe_callB call_len_seq (by rfl) B.len PySem.boot_len (pa_cons (pv 4) pa_nil)) (pe_op op_add (pe_gc (by rfl) kM) pe_int) (nomark _)))))) pss_never pss_nil)
    (pss_one (ps_set (i := 2) sc71.nd rfl (.inl rfl) (pe_c cA hr (by decide) (by rfl) (pa_cons (pv 2) (pa_cons (pe_c cSc hr (by decide) (by rfl) (pa_cons (pe_c cM hr (by decide) (by rfl) (pa_cons (pv 4) (pa_cons (pv 4) pa_nil))) (pa_cons (pv 3) pa_nil))) pa_nil)))))))
    (pss_one (ps_ret (pe_cmpR (op_eqD hr.units) (pv 2) (pv 0) (nomark _)))))), ?_⟩
  refine ⟨Nat.zero_le _, fun t0 nt0 => ?_⟩
  have s0 := same_upd (o := .tup []) nt0
  refine ⟨_, rfl, yd, rfl, ⟨_, s0.seq hys⟩, for_list (K := K) (a := yd) (xs := vs) (fun i σ H1 => ∃ vt t y3 y4, σ = [some x, some (.ref yd), some vt, y3, y4] ∧ Same H H1 ∧ Dp K H1 vt (cD t) ∧ Norm t ∧ i ≤ L.length ∧ SzL (i * (11 * a + 10)) t ∧ t.length ≤ 9 ∧ totS (L.drop i) t = totS L []) ⟨_, [], none, none, rfl, s0, .tup (SqT.of upd_same) .nil, Norm_nil, Nat.zero_le _, .nil _, by decide, rfl⟩ (fun i σ H1 _ h => ?_) (fun i z σ H1 hz h => ?_) (fun σ H1 h => ?_)⟩
  · obtain ⟨_, _, _, _, rfl, s1, _⟩ := h
    exact s1.seq hys
  · obtain ⟨vt, t, y3, y4, rfl, s1, ht, hNt, hiL, st, lt, hf⟩ := h
    obtain ⟨d, hd1, hd2⟩ := dpa_get' hyn hz
    have hi : i < (L.map wqD).length := (List.getElem?_eq_some_iff.mp hd1).1
    rw [List.length_map] at hi
    rw [List.getElem?_map, List.getElem?_eq_getElem hi] at hd1
    cases hd1
    obtain ⟨w0, sw⟩ := hok.w _ (List.getElem_mem hi)
    obtain ⟨q0, qN, ql, sq⟩ := hok.q _ (List.getElem_mem hi)
    have hlL := hok.l
    rw [List.drop_eq_getElem_cons hi] at hf
    simp only [totS] at hf
    generalize L[i] = wq at *
    obtain ⟨ta, va, vb, rfl, hs, ha, hb⟩ := tup2_inv (dp_mono s1 hd2)
    refine ⟨_, _, rfl, hs, rfl, _, _, rfl, _, _, rfl, rfl, ?_⟩
    refine ⟨_, rfl, _, _, rfl, ha, _, _, rfl, rfl, _, rfl, ite2 (fun e => ?_) (fun _ => ?_)⟩
    · have e : sgn wq.1 ≤ 0 := of_decide_eq_true e
      have e := (sgn_np _).mp e
      exact absurd e (by grind)
    refine ⟨_, rfl, Nat.zero_le _, fun t2 nt2 => ⟨cD wq.2, cD [], dp_mono (same_upd nt2) hb, .tup (SqT.of upd_same) .nil, cD_shaped _, cD_shaped [], _, rfl, ?_⟩⟩
    have s2 := same_upd (o := .tup []) nt2
    rw [cD_eqv]
    refine ite2 (fun e => absurd (of_decide_eq_true e) q0) (fun _ => ?_)
    have hb2 := dp_mono s2 hb
    obtain ⟨bd', bs, rfl, hbs, hbn⟩ := cur_inv hb2
    have hbl := nums_len hbn
    refine ⟨_, rfl, bd', bs, rfl, .inr hbs, _, _, rfl, rfl, _, _, rfl, rfl, _, rfl, ite2 (fun e => ?_) (fun _ => ?_)⟩
    · have e : (6 : Int) + 1 < (bs.length : Int) := of_decide_eq_true e
      omega
    have lm := mul_len qN qN q0 q0
    have szm : SzL (10 * a + 5) (mul wq.2 wq.2) := (sq.mul sq).mono (by
      have : wq.2.length * (a + a + 1) ≤ 5 * (a + a + 1) := Nat.mul_le_mul_right _ ql
      omega)
    have szs : SzL (11 * a + 5) (scl wq.1 (mul wq.2 wq.2)) := (szm.scl sw).mono (by omega)
    have hmul : wq.2.length * (a + a + 1) ≤ 5 * (a + a + 1) := Nat.mul_le_mul_right _ ql
    have hi20 : i * (11 * a + 10) ≤ 20 * (11 * a + 10) := Nat.mul_le_mul_right _ (by omega)
    refine ⟨_, rfl, _, rfl, _, rfl, _, _, wq.2, wq.2, rfl, hb2, hb2, by omega, by omega, ⟨a, a, sq, sq, by omega, by omega, by omega⟩, by omega, fun H3 v3 s3 hv3 => ?_⟩
    refine ⟨_, rfl, _, _, _, wq.1, rfl, hv3, dp_mono (s2.trans s3) ha, by omega, fun c hc => (szm c hc).sm (by omega), sw.sm (by omega), fun H4 v4 s4 hv4 => ?_⟩
    have sl := scl_len (show wq.1 ≠ 0 by grind) (Norm_mul wq.2 wq.2)
    refine ⟨_, _, t, _, rfl, dp_mono ((s2.trans s3).trans s4) ht, hv4, by omega, by omega, fun c hc => (st c hc).sm (by omega), fun c hc => (szs c hc).sm (by omega), fun H5 v5 s5 hv5 => ?_⟩
    refine ⟨v5, _, _, _, rfl, ((((s1.trans s2).trans s3).trans s4).trans s5), hv5, Norm_add _ _, hi, ?_, ?_, hf⟩
    · refine (st.add szs).mono ?_
      have : (i + 1) * (11 * a + 10) = i * (11 * a + 10) + (11 * a + 10) := Nat.succ_mul i (11 * a + 10)
      omega
    · have := add_len t (scl wq.1 (mul wq.2 wq.2))
      omega
  · obtain ⟨vt, t, y3, y4, rfl, s1, ht, hNt, hiL, st, lt, hf⟩ := h
    rw [List.drop_of_length_le (by omega)] at hf
    have et : t = P0 := by
      have h1 : t = totS L [] := hf
      rw [h1]
      exact ident (Norm_totS _ _ Norm_nil) hN fun x => by rw [ev_totS, ev_nil, hev]; grind
    subst et
    refine ⟨_, rfl, _, rfl, cD t, cD t, ht, dp_mono s1 hx, cD_shaped _, cD_shaped _, ?_⟩
    rw [cD_eqv, decide_eq_true rfl]
    exact q _ s1
end
end NB

set_option Elab.async false
set_option linter.all false
set_option maxRecDepth 100000
set_option maxHeartbeats 4000000
namespace NB
open PySem PySem.Spec PyProof.Rows L2
/-! ### curves of degree two above nought -/
def qP (c b m : Rat) : Pl := scl c (qd b m)
def qS (c b m : Rat) : Sh := ⟨c, none, none, some (b, m), 0, 0, 0⟩
def lS (c a : Rat) : Sh := ⟨c, some a, none, none, 0, 0, 0⟩
structure QIn (c b m : Rat) : Prop where
  c0 : 0 < c
  m0 : 0 < m
  sc : Sz 19 c
  sb : Sz 11 b
  sm : Sz 65 m
theorem qS_P (c b m : Rat) : (qS c b m).P = qP c b m := Sh.P_none rfl rfl rfl
theorem ev_qP (c b m x : Rat) : ev (qP c b m) x = ((x + b) * (x + b) + m) * c := by rw [qP, ev_scl, ev_qd]
theorem qP_len {c b m : Rat} (h : c ≠ 0) : (qP c b m).length = 3 := by rw [qP, scl_len h (Mo.qd b m).nm]; rfl
theorem qP_Norm (c b m : Rat) : Norm (qP c b m) := Norm_scl _ _
theorem qP_sz {c b m : Rat} (q : QIn c b m) : SzL 108 (qP c b m) := (SzL.scl (SzL.qd q.sb q.sm) q.sc).mono (by omega)
theorem lS_ok {c a : Rat} (h : c ≠ 0) : (lS c a).Ok := by
  refine ⟨h, fun _ _ _ h => (by cases h), fun _ h => (by cases h), fun _ _ _ h => (by cases h), ?_⟩
  rw [Sh.len_P (S := lS c a) h]
  show (mul (pw (lin a) 1) (mul (pw [1] 1) (pw [1] 1))).length ≤ 5
  rw [pw_one, mul_one' Norm_1, mul_one' ((Mo.lin a).pw 1).nm, len_pwLin]; decide
theorem lS_pos (c a : Rat) : (lS c a).Pos := fun _ h => by cases h
theorem lS_small {c a : Rat} (h : Sz 20 c) (k : Sz 11 a) : (lS c a).Small :=
  ⟨h, fun _ e => (by cases e; exact k), fun _ e => (by cases e), fun _ e => (by cases e), fun _ => rfl, rfl, by show 0 + 1 + 0 + 0 ≤ 4; decide⟩
theorem lS_val (c a x : Rat) : (lS c a).val x = c * (x - a) := by
  show c * (ev (Lf (some a)) x ^ 1 * (ev (Lf none) x ^ 1 * ev (Qf none) x ^ 1)) = _
  simp only [Lf, Qf, ev_lin, ev]
  rw [Rat.pow_succ, Rat.pow_succ, Rat.pow_zero]; grind
theorem lS_F (c a : Rat) : (lS c a).F = lin a := ident (lS c a).MoF.nm (Mo.lin a).nm fun x => by
  rw [Sh.ev_F]
  show ev (Lf (some a)) x * (ev (Lf none) x * ev (Qf none) x) = _
  simp only [Lf, Qf, ev]; grind
theorem ev_slp_qP (c b m x : Rat) : ev (slp (qP c b m)) x = 2 * (x + b) * c := by
  rw [ev_slp_congr (q := sclR c (qd b m)) (fun x => by rw [ev_qP, ev_sclR, ev_qd]) x, ev_slp_sclR, ev_slp_qd]
theorem slp_qP {c b m : Rat} : slp (qP c b m) = (lS (2 * c) (-b)).P := ident (Norm_slp (qP_Norm _ _ _)) (Sh.Norm_P _) fun x => by
  rw [ev_slp_qP, Sh.ev_P, lS_val]; grind
theorem slp_lin (a : Rat) : slp (lin a) = [1] := by
  show [1 * ((1 : Nat) : Rat)] = [1]
  have : ((1 : Nat) : Rat) = 1 := rfl
  rw [this]; congr 1; grind
/-- the map of a line over its far places -/
theorem line_row {c a : Rat} (hc : c ≠ 0) : ∃ ns, rowOn (lS c a).P (lS c a).F (-(bnd (lS c a).P)) (bnd (lS c a).P) = some ⟨true, -(bnd (lS c a).P), bnd (lS c a).P, ns⟩ ∧ endRow (lS c a).F (-(bnd (lS c a).P)) = [] ∧ endRow (lS c a).F (bnd (lS c a).P) = [] := by
  have hN := Sh.Norm_P (lS c a)
  have hne := Sh.P_ne (S := lS c a) hc
  have h0 : ev (lS c a).P a = 0 := by rw [Sh.ev_P, lS_val]; grind
  have a1 : ¬ bnd (lS c a).P ≤ a := fun h => by
    have := far_right hN hne h
    rw [h0] at this; grind
  have a2 : ¬ a ≤ -(bnd (lS c a).P) := fun h => by
    have := far_left hN hne h h
    rw [h0] at this; grind
  have hok := lS_ok (a := a) hc
  have c0 : clr (lS c a).P (-(bnd (lS c a).P)) (bnd (lS c a).P) = 0 := by
    apply Classical.byContradiction
    intro h
    obtain ⟨σ, _, hs⟩ := clr_sign hN hne hok.len far_le h
    have := hs a (by grind) (by grind)
    rw [h0] at this; grind
  have u0 : unl (lS c a).F (-(bnd (lS c a).P)) (bnd (lS c a).P) := by
    unfold unl
    rw [lS_F, ev_lin, ev_lin]
    have := Rat.mul_pos (show (0 : Rat) < -(-(bnd (lS c a).P) - a) by grind) (show (0 : Rat) < bnd (lS c a).P - a by grind)
    grind
  have s0 : clr (slp (lS c a).F) (-(bnd (lS c a).P)) (bnd (lS c a).P) ≠ 0 := by
    rw [lS_F, slp_lin]
    exact OB.one.clr Norm_1 (by simp) (by decide) far_le
  refine ⟨mixd (slp (lS c a).F) (-(bnd (lS c a).P)) (bnd (lS c a).P) ((slp (lS c a).F).length - 1), ?_, ?_, ?_⟩
  · unfold rowOn
    rw [if_neg (fun z => z c0), if_neg (fun z => z u0), if_neg s0]
  · unfold endRow
    rw [if_neg]
    rw [lS_F, ev_lin]; grind
  · unfold endRow
    rw [if_neg]
    rw [lS_F, ev_lin]; grind
/-- the tangent square's curve, and what is left -/
def tanL (p : Pl) (t : Rat) : Rat := ev (slp p) t / (2 * ev p t)
def tanP (p : Pl) (t : Rat) : Pl := norm [1 - tanL p t * t, tanL p t]
def lefK (c b m t : Rat) : Rat := c * m / ((t + b) * (t + b) + m)
section
variable {c b m t : Rat}
theorem qd_pos (h : 0 < m) (t : Rat) : 0 < (t + b) * (t + b) + m := by have := sq_nn (t + b); grind
theorem ev_tanP (p : Pl) (t x : Rat) : ev (tanP p t) x = 1 + tanL p t * (x - t) := by
  unfold tanP; rw [ev_norm]; simp only [ev]; grind
theorem tan_id (hc : c ≠ 0) (hm : 0 < m) (x : Rat) : ev (qP c b m) x - ev (qP c b m) t * (ev (tanP (qP c b m) t) x * ev (tanP (qP c b m) t) x) = lefK c b m t * ((x - t) * (x - t)) := by
  have hd := qd_pos (b := b) hm t
  rw [ev_tanP]
  unfold tanL lefK
  rw [ev_slp_qP, ev_qP, ev_qP]
  have e1 : 2 * (t + b) * c / (2 * (((t + b) * (t + b) + m) * c)) = (t + b) / ((t + b) * (t + b) + m) := by
    generalize (t + b) * (t + b) + m = d at *
    grind
  rw [e1]
  have e2 : (x + b) * (x + b) + m = (x - t) * (x - t) + 2 * (x - t) * (t + b) + ((t + b) * (t + b) + m) := by grind
  rw [e2]
  generalize hy : x - t = y
  generalize hu : t + b = u at *
  generalize hD : u * u + m = d at *
  have e3 : m = d - u * u := by grind
  rw [e3]
  grind
theorem lefK_pos (hc : 0 < c) (hm : 0 < m) : 0 < lefK c b m t := rat_div_pos (Rat.mul_pos hc hm) (qd_pos hm t)
theorem lefK_sz (q : QIn c b m) (ht : Sz 65 t) : Sz 305 (lefK c b m t) := by
  have hu := ht.add q.sb
  exact ((q.sc.mul q.sm).div ((hu.mul hu).add q.sm)).mono (by omega)
theorem qP_at_pos (q : QIn c b m) : 0 < ev (qP c b m) t := by rw [ev_qP]; exact Rat.mul_pos (qd_pos q.m0 t) q.c0
theorem qP_at_sz (q : QIn c b m) (ht : Sz 65 t) : Sz 525 (ev (qP c b m) t) := (Sz.ev ht (qP_sz q)).mono (by rw [qP_len (by have := q.c0; grind)]; decide)
theorem tanL_sz (q : QIn c b m) (ht : Sz 65 t) : Sz 890 (tanL (qP c b m) t) := by
  have h3 := qP_len (b := b) (m := m) (show c ≠ 0 by have := q.c0; grind)
  have h1 : SzL 111 (slp (qP c b m)) := SzL.slp (qP_sz q) (by omega)
  have h2 : Sz 354 (ev (slp (qP c b m)) t) := (Sz.ev ht h1).mono (by rw [slp_len, h3]; decide)
  exact (h2.div ((Sz.int (n := 1) (k := 2) (by decide)).mul (qP_at_sz q ht))).mono (by omega)
theorem tanP_sz (q : QIn c b m) (ht : Sz 65 t) : SzL 960 (tanP (qP c b m) t) :=
  SzL.norm (.cons (((Sz.one 0).sub ((tanL_sz q ht).mul ht)).mono (by omega)) (.cons ((tanL_sz q ht).mono (by omega)) (.nil _)))
theorem tanP_ne (p : Pl) (t : Rat) : tanP p t ≠ [] := fun z => by
  have := ev_tanP p t t
  rw [z, ev_nil] at this
  grind
theorem tanP_len (p : Pl) (t : Rat) : (tanP p t).length ≤ 2 := norm_len _
theorem tanP_Norm (p : Pl) (t : Rat) : Norm (tanP p t) := Norm_norm _
end
section
variable {P : Program} {w : World} {K : PySem.W.Frag} {mg : Str → Option Value} {base : Heap}
/-! ### lowered -/
def spLowered (K : PySem.W.Frag) : Sp := fun vs H Q _ => ∃ x y c b m t, vs = [x, y] ∧ Dp K H x (cD (qP c b m)) ∧ Num K H y t ∧ QIn c b m ∧ Sz 65 t ∧ Gives K H (.tuple [cD (tanP (qP c b m) t), cD [lefK c b m t]]) Q
theorem sc76 : FnScope ["rest", "t", "height", "lean", "tangent", "line", "left"] ["rest", "t"] (defScope (top 76)) := ⟨rfl, rfl, rfl, by decide +kernel, rfl, by decide +kernel, by decide +kernel⟩
theorem ok_lowered (F : Df K mg "lowered" 76) (k0 : KN K mg "NOUGHT_squares" 0) (k1 : KN K mg "ONE_squares" 1) (cW : Cal P w K mg base 36 "worth" (spWorth K)) (cO : Cal P w K mg base 35 "over" (spOver K)) (cSl : Cal P w K mg base 36 "slope" (spSlope K)) (cT : Cal P w K mg base 35 "times" (spTimes K)) (cC : Cal P w K mg base 34 "curve_of" (spCurveOf K)) (cMi : Cal P w K mg base 35 "minus" (spMinus K))
    (cTk : Cal P w K mg base 37 "taken" (spTaken K)) (cSc : Cal P w K mg base 36 "scaled" (spScaled K)) (cM : Cal P w K mg base 37 "multiplied" (spMultiplied K)) (cD' : Cal P w K mg base 38 "divided" (spDivided K)) : Cal P w K mg base 39 "lowered" (spLowered K) := by
  refine F.cal sc76 (fun _ _ _ _ _ _ us hl => match us, hl with | [_, _], _ => rfl) (fun vs H Q E h => ?_) (fun f cdv A outer s H vs Q E hr h => ?_)
  · obtain ⟨_, _, _, _, _, _, rfl, _⟩ := h; rfl
  obtain ⟨x, y, c, b, m, t, rfl, hx, hy, hq, ht, q⟩ := h
  have hL := LIM_eq
  have hc0 : c ≠ 0 := by have := hq.c0; grind
  have h3 := qP_len (b := b) (m := m) hc0
  have sp := qP_sz hq
  have sh := qP_at_sz (t := t) hq ht
  have hp := qP_at_pos (t := t) hq
  have sl := tanL_sz hq ht
  have sT := tanP_sz hq ht
  have hTn := tanP_ne (qP c b m) t
  have lT := tanP_len (qP c b m) t
  have l1T : 1 ≤ (tanP (qP c b m) t).length := List.length_pos_iff.mpr hTn
  have ssl : SzL 111 (slp (qP c b m)) := SzL.slp sp (by omega)
  obtain ⟨a0, hm0, h0⟩ := k0
  obtain ⟨a1, hm1, h1⟩ := k1
  refine ⟨_, (pss_cons (ps_set (i := 2) sc76.nd rfl (.inl rfl) (pe_c cW hr (by decide) (by rfl) (pa_cons (pv 0) (pa_cons (pv 1) pa_nil))))
    (pss_cons (ps_set (i := 3) sc76.nd rfl (.inl rfl) (pe_c cO hr (by decide) (by rfl) (pa_cons (pe_c cW hr (by decide) (by rfl) (pa_cons (pe_c cSl hr (by decide) (by rfl) (pa_cons (pv 0) pa_nil)) (pa_cons (pv 1) pa_nil))) (pa_cons (pe_c cT hr (by decide) (by rfl) (pa_cons (pe_tup (pa_cons (pe_int) (pa_cons (pe_int) pa_nil))) (pa_cons (pv 2) pa_nil))) pa_nil))))
    (pss_cons (ps_set (i := 4) sc76.nd rfl (.inl rfl) (pe_c cC hr (by decide) (by rfl) (pa_cons (pe_lst (pa_cons (pe_c cMi hr (by decide) (by rfl) (pa_cons (pe_gc (v := .ref a1) (by rfl) ⟨_, hm1, rfl⟩) (pa_cons (pe_c cT hr (by decide) (by rfl) (pa_cons (pv 3) (pa_cons (pv 1) pa_nil))) pa_nil))) (pa_cons (pv 3) pa_nil))) pa_nil)))
    (pss_cons (ps_set (i := 5) sc76.nd rfl (.inl rfl) (pe_tup (pa_cons (pe_c cMi hr (by decide) (by rfl) (pa_cons (pe_gc (v := .ref a0) (by rfl) ⟨_, hm0, rfl⟩) (pa_cons (pv 1) pa_nil))) (pa_cons (pe_gc (v := .ref a1) (by rfl) ⟨_, hm1, rfl⟩) pa_nil))))
    (pss_cons (ps_set (i := 6) sc76.nd rfl (.inl rfl) (pe_c cTk hr (by decide) (by rfl) (pa_cons (pv 0) (pa_cons (pe_c cSc hr (by decide) (by rfl) (pa_cons (pe_c cM hr (by decide) (by rfl) (pa_cons (pv 4) (pa_cons (pv 4) pa_nil))) (pa_cons (pv 2) pa_nil))) pa_nil))))
    (pss_one (ps_ret (pe_tup (pa_cons (pv 4) (pa_cons (pe_ix ix_tup (pe_c cD' hr (by decide) (by rfl) (pa_cons (pv 6) (pa_cons (pe_c cM hr (by decide) (by rfl) (pa_cons (pv 5) (pa_cons (pv 5) pa_nil))) pa_nil))) pe_int (fun _ _ => rfl)) pa_nil)))))))))), ?_⟩
  have wP : WSz (qP c b m) t := wsz_of (sp.mono (by omega)) (by omega) ht (by omega)
  refine ⟨_, rfl, _, rfl, _, _, qP c b m, t, rfl, hx, hy, wP, fun H1 vh s1 hvh => ?_⟩
  -- lean
  refine ⟨_, rfl, _, qP c b m, rfl, dp_mono s1 hx, by omega, fun a ha => (sp a ha).sm (by omega), fun H2 v2 s2 hv2 => ?_⟩
  have s12 := s1.trans s2
  refine ⟨_, rfl, _, _, slp (qP c b m), t, rfl, hv2, dp_mono s12 hy, wsz_of (ssl.mono (by omega)) (by rw [slp_len]; omega) ht (by omega), fun H3 v3 s3 hv3 => ?_⟩
  have s13 := s12.trans s3
  refine ⟨by show 2 ≤ sizeLine; decide, fun t4 nt4 => ?_⟩
  have s4 := same_upd (o := .tup [.int 2, .int 1]) nt4
  have s14 := s13.trans s4
  refine ⟨_, rfl, _, _, 2, ev (qP c b m) t, rfl, num_of (SqT.of upd_same), dp_mono ((s2.trans s3).trans s4) hvh, ⟨sm_two, sh.sm (by omega)⟩, fun H5 v5 s5 hv5 => ?_⟩
  have s15 := s14.trans s5
  have s2h : Sz 526 (2 * ev (qP c b m) t) := ((Sz.int (n := 1) (k := 2) (by decide)).mul sh).mono (by omega)
  have ssh : Sz 354 (ev (slp (qP c b m)) t) := (Sz.ev ht ssl).mono (by rw [slp_len, h3]; decide)
  refine ⟨_, _, _, _, rfl, dp_mono (s4.trans s5) hv3, hv5, ⟨⟨ssh.sm (by omega), s2h.sm (by omega)⟩, by grind⟩, fun H6 vl s6 hvl => ?_⟩
  have hvl : Num K H6 vl (tanL (qP c b m) t) := hvl
  have s16 := s15.trans s6
  -- tangent
  refine ⟨_, rfl, _, rfl, _, _, tanL (qP c b m) t, t, rfl, hvl, dp_mono s16 hy, ⟨sl.sm (by omega), ht.sm (by omega)⟩, fun H7 v7 s7 hv7 => ?_⟩
  refine ⟨_, _, 1, tanL (qP c b m) t * t, rfl, h1 _, hv7, ⟨sm_one, (sl.mul ht).sm (by omega)⟩, fun H8 v8 s8 hv8 => ?_⟩
  have s78 := s7.trans s8
  refine ⟨_, rfl, by show 2 ≤ sizeLine; decide, fun l9 nl9 => ?_⟩
  have s9 := same_upd (o := .lst [v8, vl]) nl9
  refine ⟨_, [1 - tanL (qP c b m) t * t, tanL (qP c b m) t], rfl, .lst (SqL.of upd_same) (.cons (dp_mono s9 hv8) (.cons (dp_mono (s78.trans s9) hvl) .nil)), Nat.le_trans lT (by decide), fun H10 vT s10 hvT => ?_⟩
  have hvT : Dp K H10 vT (cD (tanP (qP c b m) t)) := hvT
  have s1A := s16.trans ((s78.trans s9).trans s10)
  -- line
  refine ⟨_, rfl, _, _, 0, t, rfl, h0 _, dp_mono s1A hy, ⟨sm_zero, ht.sm (by omega)⟩, fun H11 v11 s11 hv11 => ?_⟩
  have hv11 : Num K H11 v11 (0 - t) := hv11
  rw [show (0 : Rat) - t = -t by grind] at hv11
  refine ⟨by show 2 ≤ sizeLine; decide, fun t12 nt12 => ?_⟩
  have s12' := same_upd (o := .tup [v11, .ref a1]) nt12
  have hline : Dp K (upd H11 t12 (.tup [v11, .ref a1])) (.ref t12) (cD (lin t)) := .tup (SqT.of upd_same) (.cons (dp_mono s12' hv11) (.cons (h1 _) .nil))
  have sB := s11.trans s12'
  have s1B := s1A.trans sB
  -- left
  have hmT := mul_len (tanP_Norm (qP c b m) t) (tanP_Norm (qP c b m) t) hTn hTn
  have szTT : SzL 3842 (mul (tanP (qP c b m) t) (tanP (qP c b m) t)) := (sT.mulm (m := 2) sT (.inl lT)).mono (by omega)
  have hsh : (tanP (qP c b m) t).length * (960 + 960 + 1) ≤ 2 * (960 + 960 + 1) := Nat.mul_le_mul_right _ lT
  refine ⟨_, rfl, _, rfl, _, rfl, _, _, tanP (qP c b m) t, tanP (qP c b m) t, rfl, dp_mono sB hvT, dp_mono sB hvT, by omega, by omega, ⟨960, 960, sT, sT, by omega, by omega, by omega⟩, by omega, fun H13 v13 s13' hv13 => ?_⟩
  have szS : SzL 4367 (scl (ev (qP c b m) t) (mul (tanP (qP c b m) t) (tanP (qP c b m) t))) := (szTT.scl sh).mono (by omega)
  have hsl := scl_len (show ev (qP c b m) t ≠ 0 by grind) (Norm_mul (tanP (qP c b m) t) (tanP (qP c b m) t))
  refine ⟨_, rfl, _, _, _, ev (qP c b m) t, rfl, hv13, dp_mono ((((((s2.trans s3).trans s4).trans s5).trans s6).trans ((s78.trans s9).trans s10)).trans (sB.trans s13')) hvh, by omega, fun a ha => (szTT a ha).sm (by omega), sh.sm (by omega), fun H14 v14 s14' hv14 => ?_⟩
  have sC := s13'.trans s14'
  refine ⟨_, _, qP c b m, _, rfl, dp_mono (s1B.trans sC) hx, hv14, by omega, by omega, fun a ha => (sp a ha).sm (by omega), fun a ha => (szS a ha).sm (by omega), fun H15 v15 s15' hv15 => ?_⟩
  -- divided
  refine ⟨_, rfl, _, rfl, _, rfl, _, rfl, _, _, lin t, lin t, rfl, dp_mono (sC.trans s15') hline, dp_mono (sC.trans s15') hline, (show 2 ≤ 50 by decide), (show 2 ≤ 50 by decide), ⟨65, 65, SzL.lin ht, SzL.lin ht, ?_, by omega, by omega⟩, ?_, fun H16 v16 s16' hv16 => ?_⟩
  · show 2 * (65 + 65 + 1) ≤ LIM
    omega
  · rw [(Mo.lin t).mul_len (Mo.lin t)]; show 2 + 2 - 1 ≤ 13; decide
  have hdl : (mul (lin t) (lin t)).length = 3 := (Mo.lin t).mul_len (Mo.lin t)
  have szd : SzL 262 (mul (lin t) (lin t)) := (SzL.lin ht).mulm (m := 2) (SzL.lin ht) (.inl (Nat.le_refl _))
  generalize hu : tak (qP c b m) (scl (ev (qP c b m) t) (mul (tanP (qP c b m) t) (tanP (qP c b m) t))) = u at *
  have hun : Norm u := by rw [← hu]; exact Norm_tak _ _
  have hul : u.length ≤ 3 := by
    rw [← hu]
    have := tak_len (qP c b m) (scl (ev (qP c b m) t) (mul (tanP (qP c b m) t) (tanP (qP c b m) t)))
    omega
  have szu : SzL 4476 u := by rw [← hu]; exact (sp.tak szS).mono (by omega)
  have hue : ∀ x : Rat, ev u x = ev [lefK c b m t] x * ev (mul (lin t) (lin t)) x := fun x => by
    rw [← hu, ev_tak, ev_scl, ev_mul, ev_mul, ev_lin]
    have := tan_id (b := b) (t := t) hc0 hq.m0 x
    simp only [ev]
    grind
  have hkp := lefK_pos (b := b) (t := t) hq.c0 hq.m0
  have hu0 : u ≠ [] := fun z => by
    have h5 := hue (t + 1)
    rw [z, ev_nil, ev_mul, ev_lin] at h5
    simp only [ev] at h5
    grind
  have hdF : dvF 4476 262 (u.length + 1 - (mul (lin t) (lin t)).length) ≤ dvF 4476 262 1 := dvF_mono _ _ (by omega)
  have hdF2 : dvF 4476 262 1 ≤ 33554432 := by decide
  refine ⟨_, _, u, mul (lin t) (lin t), rfl, dp_mono s16' hv15, hv16, hun, Norm_mul _ _, fun z => (by rw [z] at hdl; cases hdl), by omega, by omega, 4476, 262, szu, szd, by omega, by omega, fun F r hdiv _ _ H17 z s17 hz => ?_⟩
  obtain ⟨eF, _⟩ := hdiv.exact (Norm_mul _ _) hun hu0 (Norm_one (by grind)) hue
  subst eF
  obtain ⟨at', x1, y1, rfl, hs, hF, _⟩ := tup2_inv hz
  refine ⟨at', _, 0, _, rfl, rfl, hs, it2_0, by show 2 ≤ sizeLine; decide, fun t18 nt18 => ?_⟩
  have s18 := same_upd (o := .tup [vT, x1]) nt18
  have sD := ((sB.trans sC).trans s15').trans (s16'.trans s17)
  exact q _ _ ((s1A.trans sD).trans s18) (.tup (SqT.of upd_same) (.cons (dp_mono (sD.trans s18) hvT) (.cons (dp_mono s18 hF) .nil)))
end
end NB

set_option Elab.async false
set_option linter.all false
set_option maxRecDepth 100000
set_option maxHeartbeats 4000000
namespace NB
open PySem PySem.Spec PyProof.Rows L2
/-! ### constant curves -/
def kS (c : Rat) : Sh := ⟨c, none, none, none, 0, 0, 0⟩
theorem kS_P {c : Rat} (h : c ≠ 0) : (kS c).P = [c] := by
  rw [Sh.P_none rfl rfl rfl]
  show scl c [1] = [c]
  rw [scl_eq h Norm_1]
  show [1 * c] = [c]
  congr 1; grind
theorem kS_ok {c : Rat} (h : c ≠ 0) : (kS c).Ok := by
  refine ⟨h, fun _ _ h => (by cases h), fun _ h => (by cases h), fun _ _ _ h => (by cases h), ?_⟩
  rw [kS_P h]; show 1 ≤ 5; decide
theorem kS_pos (c : Rat) : (kS c).Pos := fun _ h => by cases h
theorem kS_F (c : Rat) : (kS c).F = [1] := ident (kS c).MoF.nm Norm_1 fun x => by
  rw [Sh.ev_F]
  show ev (Lf none) x * (ev (Lf none) x * ev (Qf none) x) = _
  simp only [Lf, Qf, ev]; grind
/-- constants of any moderate size may be mapped -/
theorem const_onIn {c : Rat} (h : c ≠ 0) (sc : Sz 1000 c) : OnIn [c] [1] := by
  have hok := kS_ok h
  have hp := kS_pos c
  have hk := Sh.kit hok hp
  rw [kS_P h, kS_F] at hk
  have hg := hok.gcd
  rw [kS_P h, kS_F] at hg
  have hG : (kS c).G = [1] := by
    show mul (pw [1] 0) (mul (pw [1] 0) (pw (Qf none) 0)) = [1]
    simp only [pw]
    rw [mul_one' Norm_1, mul_one' Norm_1]
  rw [hG] at hg
  obtain ⟨hg1, D, e, h1, h2, h3, h4⟩ := hg
  have := h1.unique hg1
  subst this
  have hN : Norm [c] := Norm_one h
  have hsz : SzL 1000 [c] := .cons sc (.nil _)
  refine ⟨⟨⟨hN, by simp, (by show 1 ≤ 5; decide), hsz.mono (by omega)⟩, hk, ⟨e, ⟨_, h1, SzL.one.mono (by omega), (by show 1 ≤ 5; decide), h2, h3⟩, h4⟩, SzL.one.mono (by omega), ⟨[], by simp, ?_⟩, ?_⟩, hsz.mono (by omega)⟩
  · intro s e h _
    have := Sh.spec hok hp s e h (fun a ha => by simp [Sh.spots, kS] at ha)
    rw [kS_P ‹c ≠ 0›, kS_F] at this
    exact this
  · intro s e h _ _ _
    have := Sh.spec hok hp s e h (fun a ha => by simp [Sh.spots, kS] at ha)
    rw [kS_P ‹c ≠ 0›, kS_F] at this
    exact this
def abD (ab : Rat × Rat) : PyData := .tuple [nD ab.1, nD ab.2]
section
variable {P : Program} {w : World} {K : PySem.W.Frag} {mg : Str → Option Value} {base : Heap}
/-! ### is_left_good -/
def spLeftGood (K : PySem.W.Frag) : Sp := fun vs H Q _ => ∃ x y c, ∃ L : List (Rat × Rat), vs = [x, y] ∧ Dp K H x (cD [c]) ∧ Dp K H y (.list (L.map abD)) ∧ 0 < c ∧ Sz 1000 c ∧ (∀ ab ∈ L, Sz 1000 ab.1) ∧ Says H (.bl true) Q
theorem sc77 : FnScope ["left", "spots", "start", "end"] ["left", "spots"] (defScope (top 77)) := ⟨rfl, rfl, rfl, by decide +kernel, rfl, by decide +kernel, by decide +kernel⟩
theorem ok_is_left_good (F : Df K mg "is_left_good" 77) (cS : Cal P w K mg base 33 "sign" (spSign K)) (cW : Cal P w K mg base 36 "worth" (spWorth K)) (cN : Cal P w K mg base 45 "is_never_below" (spNeverBelow K)) : Cal P w K mg base 46 "is_left_good" (spLeftGood K) := by
  refine F.cal sc77 (fun _ _ _ _ _ _ us hl => match us, hl with | [_, _], _ => rfl) (fun vs H Q E h => ?_) (fun f cdv A outer s H vs Q E hr h => ?_)
  · obtain ⟨_, _, _, _, rfl, _⟩ := h; rfl
  obtain ⟨x, y, c, L, rfl, hx, hy, c0, sc, sL, q⟩ := h
  cases hy with
  | @lst yd vs _ hys hyn =>
  have hvl := dpa_len hyn
  rw [List.length_map] at hvl
  have ec : ∀ t, ev [c] t = c := fun t => by simp only [ev]; grind
  refine ⟨_, (pss_cons (ps_for PassesOwn.never rfl (pi_list (pv 1)) (pg_tup (by rfl) (pgs_cons (pg_name (i := 2) sc77.nd rfl (.inl rfl)) (pgs_cons (pg_name (i := 3) sc77.nd rfl (.inl rfl)) pgs_nil))) (pss_one (ps_if (pt_cmpR op_lt (pe_c cS hr (by decide) (by rfl) (pa_cons (pe_c cW hr (by decide) (by rfl) (pa_cons (pv 0) (pa_cons (pv 2) pa_nil))) pa_nil)) pe_int (nomark _)) pss_never pss_nil)))
    (pss_one (ps_ret (pe_c cN hr (by decide) (by rfl) (pa_cons (pv 0) pa_nil))))), ?_⟩
  refine ⟨_, rfl, yd, rfl, ⟨_, hys⟩, for_list (K := K) (a := yd) (xs := vs) (fun i σ H1 => ∃ y2 y3, σ = [some x, some (.ref yd), y2, y3] ∧ Same H H1) ⟨none, none, rfl, .refl _⟩ (fun i σ H1 _ h => ?_) (fun i z σ H1 hz h => ?_) (fun σ H1 h => ?_)⟩
  · obtain ⟨_, _, rfl, s1⟩ := h
    exact s1.seq hys
  · obtain ⟨y2, y3, rfl, s1⟩ := h
    obtain ⟨d, hd1, hd2⟩ := dpa_get' hyn hz
    have hi : i < (L.map abD).length := (List.getElem?_eq_some_iff.mp hd1).1
    rw [List.length_map] at hi
    rw [List.getElem?_map, List.getElem?_eq_getElem hi] at hd1
    cases hd1
    have s1' := sL _ (List.getElem_mem hi)
    obtain ⟨ta, va, vb, rfl, hs, ha, hb⟩ := tup2_inv (dp_mono s1 hd2)
    refine ⟨_, _, rfl, hs, rfl, _, _, rfl, _, _, rfl, rfl, ?_⟩
    refine ⟨_, rfl, _, rfl, _, _, [c], _, rfl, dp_mono s1 hx, ha, wsz_of (SzL.cons (sc.mono (by omega)) (.nil _)) (by show 1 ≤ 5; decide) s1' (by omega), fun H2 v2 s2 hv2 => ?_⟩
    refine ⟨_, _, rfl, hv2, _, _, rfl, rfl, _, rfl, ite2 (fun e => ?_) (fun _ => ⟨_, _, rfl, s1.trans s2⟩)⟩
    have e : sgn (ev [c] L[i].1) < 0 := of_decide_eq_true e
    have e := (sgn_neg _).mp e
    rw [ec] at e
    exact absurd e (by grind)
  · obtain ⟨_, _, rfl, s1⟩ := h
    exact ⟨_, rfl, _, [c], rfl, dp_mono s1 hx, .inr ⟨_, const_onIn (by grind) sc⟩, fun _ H2 s2 => q _ (s1.trans s2), fun z => absurd (fun t => by rw [ec]; exact Rat.le_of_lt c0) z⟩
/-! ### good_place -/
def gpT (c b m : Rat) : Rat := -(bnd (slp (qP c b m)))
def spGoodPlace (K : PySem.W.Frag) : Sp := fun vs H Q _ => ∃ x c b m, vs = [x] ∧ Dp K H x (cD (qP c b m)) ∧ QIn c b m ∧ Gives K H (nD (gpT c b m)) Q
theorem lean_szP {c b m : Rat} (h : QIn c b m) : SzL 31 (slp (qP c b m)) := by
  have e : slp (qP c b m) = scl (2 * c) (lin (-b)) := ident (Norm_slp (qP_Norm _ _ _)) (Norm_scl _ _) fun x => by rw [ev_slp_qP, ev_scl, ev_lin]; grind
  rw [e]
  exact (SzL.scl (SzL.lin h.sb.neg) ((Sz.int (n := 1) (k := 2) (by decide)).mul h.sc)).mono (by omega)
theorem gpT_sz {c b m : Rat} (h : QIn c b m) : Sz 65 (gpT c b m) := (sz_bnd (lean_szP h)).neg.mono (by omega)
theorem sc79 : FnScope ["rest", "lean", "far", "rows", "start", "end", "spots", "word", "numbers"] ["rest"] (defScope (top 79)) := ⟨rfl, rfl, rfl, by decide +kernel, rfl, by decide +kernel, by decide +kernel⟩
theorem ok_good_place (F : Df K mg "good_place" 79) (k0 : KN K mg "NOUGHT_squares" 0) (cSl : Cal P w K mg base 36 "slope" (spSlope K)) (cB : Cal P w K mg base 37 "bound" (spBound K)) (cMo : Cal P w K mg base 42 "map_of" (spMapOf K)) (cMi : Cal P w K mg base 35 "minus" (spMinus K)) (cG : Cal P w K mg base 46 "is_left_good" (spLeftGood K)) (cLo : Cal P w K mg base 39 "lowered" (spLowered K)) : Cal P w K mg base 47 "good_place" (spGoodPlace K) := by
  refine F.cal sc79 (fun _ _ _ _ _ _ us hl => match us, hl with | [_], _ => rfl) (fun vs H Q E h => ?_) (fun f cdv A outer s H vs Q E hr h => ?_)
  · obtain ⟨_, _, _, _, rfl, _⟩ := h; rfl
  obtain ⟨x, c, b, m, rfl, hx, hq, q⟩ := h
  have hL := LIM_eq
  have hR := RHO_eq
  have hc0 : c ≠ 0 := by have := hq.c0; grind
  have h2c : 2 * c ≠ 0 := by grind
  have h3 := qP_len (b := b) (m := m) hc0
  have sp := qP_sz hq
  have sL := lean_szP hq
  have hlen := slp_len (qP c b m)
  have hlN : Norm (slp (qP c b m)) := Norm_slp (qP_Norm _ _ _)
  have hln : slp (qP c b m) ≠ [] := fun z => by rw [z] at hlen; simp at hlen; omega
  have sbd : Sz 63 (bnd (slp (qP c b m))) := sz_bnd sL
  have hmi : MapIn (slp (qP c b m)) (lS (2 * c) (-b)).F := by
    rw [slp_qP]
    exact Sh.mapIn (lS_ok h2c) (lS_pos _ _) (lS_small (((Sz.int (n := 1) (k := 2) (by decide)).mul hq.sc).mono (by omega)) hq.sb.neg)
  obtain ⟨ns, hrow, he1, he2⟩ := line_row (c := 2 * c) (a := -b) h2c
  rw [← slp_qP (m := m)] at hrow he1 he2
  obtain ⟨a0, hm0, h0⟩ := k0
  refine ⟨_, (pss_cons (ps_set (i := 1) sc79.nd rfl (.inr rfl) (pe_c cSl hr (by decide) (by rfl) (pa_cons (pv 0) pa_nil)))
    (pss_cons (ps_set (i := 2) sc79.nd rfl (.inl rfl) (pe_c cB hr (by decide) (by rfl) (pa_cons (pv 1) pa_nil)))
    (pss_cons (ps_set (i := 3) sc79.nd rfl (.inl rfl) (pe_c cMo hr (by decide) (by rfl) (pa_cons (pv 1) (pa_cons (pe_c cMi hr (by decide) (by rfl) (pa_cons (pe_gc (v := .ref a0) (by rfl) ⟨_, hm0, rfl⟩) (pa_cons (pv 2) pa_nil))) (pa_cons (pv 2) pa_nil)))))
    (pss_cons (ps_setLc (i := 6) (own := [("word", 7), ("start", 4), ("end", 5), ("numbers", 8)]) (g := gTup K 4 (gCons (gName 7) (gCons (gName 4) (gCons (gName 5) (gCons (gName 8) gNil))))) (tt := tTest (tOp rEq (tVar 7) (tC (.str "place")))) rfl sc79.nd rfl rfl (sw_true rfl rfl rfl (by decide +kernel)) (pi_list (pv 3)) (blkOk_by (N := ["rest", "lean", "far", "rows", "start", "end", "spots", "word", "numbers"]) (sc := defScope (top 79)) (by decide +kernel))
      (fun _ _ _ _ _ => pg_tup (by rfl) (pgs_cons (pg_name (i := 7) sc79.nd rfl (.inl rfl)) (pgs_cons (pg_name (i := 4) sc79.nd rfl (.inl rfl)) (pgs_cons (pg_name (i := 5) sc79.nd rfl (.inl rfl)) (pgs_cons (pg_name (i := 8) sc79.nd rfl (.inl rfl)) pgs_nil))))) (fun _ _ _ _ _ => pts_one (pt_cmpR op_eq (pv 7) pe_str (nomark _))) (fun _ _ _ _ _ => pe_tup (pa_cons (pv 4) (pa_cons (pv 5) pa_nil))))
    (pss_one (ps_while PassesOwn.never (pt_val pe_bl) (pss_cons (ps_for PassesOwn.never rfl (pi_list (pv 6)) (pg_tup (by rfl) (pgs_cons (pg_name (i := 4) sc79.nd rfl (.inl rfl)) (pgs_cons (pg_name (i := 5) sc79.nd rfl (.inl rfl)) pgs_nil))) (pss_one (ps_if (pt_val (pe_c cG hr (by decide) (by rfl) (pa_cons (pe_ix ix_tup (pe_c cLo hr (by decide) (by rfl) (pa_cons (pv 0) (pa_cons (pv 4) pa_nil))) pe_int (fun _ _ => rfl)) (pa_cons (pv 6) pa_nil)))) (pss_one (ps_ret (pv 4))) pss_nil)))
    (pss_one (ps_never))))))))), ?_⟩
  refine ⟨_, rfl, _, qP c b m, rfl, hx, by omega, fun a ha => (sp a ha).sm (by omega), fun H1 v1 s1 hv1 => ?_⟩
  refine ⟨_, rfl, _, slp (qP c b m), 31, rfl, hv1, hlN, hln, by omega, sL, by omega, fun H2 v2 s2 hv2 => ?_⟩
  refine ⟨_, rfl, _, rfl, _, _, 0, bnd (slp (qP c b m)), rfl, h0 _, hv2, ⟨sm_zero, sbd.sm (by omega)⟩, fun H3 v3 s3 hv3 => ?_⟩
  have hv3 : Num K H3 v3 (0 - bnd (slp (qP c b m))) := hv3
  rw [show (0 : Rat) - bnd (slp (qP c b m)) = gpT c b m by unfold gpT; grind] at hv3
  have st := gpT_sz hq
  refine ⟨_, rfl, _, _, _, slp (qP c b m), (lS (2 * c) (-b)).F, gpT c b m, bnd (slp (qP c b m)), 65, rfl, dp_mono (s2.trans s3) hv1, hv3, dp_mono s3 hv2, far_le, hmi, st, sbd.mono (by omega), by omega, bd_pow st (by omega), bd_pow sbd (by omega), fun rows _ _ _ hfst H4 v4 s4 hv4 => ?_⟩
  have erows := hfst _ hrow
  have erows : rows = [⟨true, gpT c b m, bnd (slp (qP c b m)), ns⟩] := by
    rw [erows]
    show endRow _ (-(bnd (slp (qP c b m)))) ++ _ = _
    rw [he1, he2]; rfl
  subst erows
  have s14 := ((s1.trans s2).trans s3).trans s4
  cases hv4 with
  | @lst yd vs _ hys hyn =>
  have hvl := dpa_len hyn
  have hvl : vs.length = 1 := hvl
  refine ⟨_, rfl, yd, rfl, ⟨_, hys⟩, fun D dn => lc_list (K := K) (a := yd) (xs := vs) (fun i H5 => Same H4 H5 ∧ ∃ acc, H5 D = some (.lst acc) ∧ DpAll K H5 acc ((([(gpT c b m, bnd (slp (qP c b m)))] : List (Rat × Rat)).take i).map abD)) ⟨same_upd dn, [], upd_same, .nil⟩ (fun i H5 _ h => h.1.seq hys) (fun i z H5 hz h => ?_) (fun H5 h => ?_)⟩
  · obtain ⟨s5, acc, e1, hacc⟩ := h
    have hi := (List.getElem?_eq_some_iff.mp hz).1
    have hi0 : i = 0 := by omega
    subst hi0
    cases hacc
    obtain ⟨hi2, hz2⟩ := rowD_get hyn hz
    obtain ⟨t, a, b', l, rfl, hs, ha, hb⟩ := rowD_inv (dp_mono s5 hz2)
    refine ⟨_, _, rfl, hs, rfl, _, _, rfl, _, _, rfl, _, _, rfl, _, _, rfl, rfl, ?_⟩
    refine ⟨rfl, _, rfl, rfl, _, rfl, ?_⟩
    refine (show (if (decide (V.str "place" = V.str "place")) = true then _ else _) from ?_)
    rw [if_pos (decide_eq_true rfl)]
    refine ⟨_, rfl, _, rfl, by show 2 ≤ sizeLine; decide, fun t6 nt6 => ?_⟩
    have s6 := same_upd (o := .tup [a, b']) nt6
    refine ⟨[], s6 _ _ e1, by show 0 < sizeLine; decide, ?_⟩
    have hd : Dp K (upd H5 t6 (.tup [a, b'])) (.ref t6) (abD (gpT c b m, bnd (slp (qP c b m)))) := .tup (SqT.of upd_same) (.cons (dp_mono s6 ha) (.cons (dp_mono s6 hb) .nil))
    exact ⟨same_set (s5.trans s6) dn, _, upd_same, .cons (dp_keep (s6 _ _ e1) hd (by simp only [abD, nl, nls, nl_nD, Bool.and_self])) .nil⟩
  obtain ⟨s5, acc, e1, hacc⟩ := h
  rw [hvl] at hacc
  have hacc : DpAll K H5 acc ([(gpT c b m, bnd (slp (qP c b m)))].map abD) := hacc
  have s15 := s14.trans s5
  have hsp : Dp K H5 (.ref D) (.list ([(gpT c b m, bnd (slp (qP c b m)))].map abD)) := .lst (SqL.of e1) hacc
  have hal : acc.length = 1 := dpa_len hacc
  refine ⟨fun n σ' H' => n = 0 ∧ σ' = [some x, some v1, some v2, some (.ref yd), none, none, some (.ref D), none, none] ∧ H' = H5, ⟨0, rfl, rfl, rfl⟩, fun n σ' H' hW => ?_⟩
  obtain ⟨rfl, rfl, rfl⟩ := hW
  refine ⟨_, rfl, iteT ?_⟩
  refine ⟨fun _ _ => False, fun _ _ h => h.elim, ?_⟩
  refine ⟨_, rfl, D, rfl, ⟨_, SqL.of e1⟩, for_list (K := K) (a := D) (xs := acc) (fun i σ H6 => i = 0 ∧ σ = [some x, some v1, some v2, some (.ref yd), none, none, some (.ref D), none, none] ∧ H6 = H') ⟨rfl, rfl, rfl⟩ (fun i σ H6 _ h => ?_) (fun i z σ H6 hz h => ?_) (fun σ H6 h => ?_)⟩
  · obtain ⟨_, _, rfl⟩ := h
    exact SqL.of e1
  · obtain ⟨rfl, rfl, rfl⟩ := h
    obtain ⟨d, hd1, hd2⟩ := dpa_get' hacc hz
    cases hd1
    obtain ⟨ta, va, vb, rfl, hs, ha, hb⟩ := tup2_inv hd2
    refine ⟨_, _, rfl, hs, rfl, _, _, rfl, _, _, rfl, rfl, ?_⟩
    refine ⟨_, rfl, _, rfl, _, _, c, b, m, gpT c b m, rfl, dp_mono s15 hx, ha, hq, st, fun H7 v7 s7 hv7 => ?_⟩
    obtain ⟨at', x1, y1, rfl, hs7, _, hF⟩ := tup2_inv hv7
    refine ⟨at', _, 1, _, rfl, rfl, hs7, it1, _, rfl, ?_⟩
    refine ⟨_, _, lefK c b m (gpT c b m), _, rfl, hF, dp_mono s7 hsp, lefK_pos hq.c0 hq.m0, (lefK_sz hq st).mono (by omega), fun ab hab => ?_, fun H8 s8 => ⟨_, rfl, iteT ?_⟩⟩
    · have : ab = (gpT c b m, bnd (slp (qP c b m))) := by simpa using hab
      rw [this]; exact st.mono (by omega)
    · exact ⟨_, rfl, q _ _ ((s15.trans s7).trans s8) (dp_mono (s7.trans s8) ha)⟩
  · obtain ⟨h, _⟩ := h
    omega
end
end NB

set_option Elab.async false
set_option linter.all false
set_option maxRecDepth 100000
set_option maxHeartbeats 4000000
namespace NB
open PySem PySem.Spec PyProof.Rows L2
theorem mul_len_le (p q : Pl) : (mul p q).length ≤ p.length + q.length := by
  by_cases hp : p = []
  · rw [hp, mul_nil_left]; simp
  · by_cases hq : q = []
    · rw [hq, mul_nil_right]; simp
    · have h1 := norm_len (mulR p q)
      have h2 := mulR_len p q hq hp
      unfold mul; omega
theorem nl_wqD (wq : Rat × Pl) : nl (wqD wq) = true := by simp only [wqD, nl, nls, nl_nD, nl_cD, Bool.and_self]
theorem nls_wq (L : List (Rat × Pl)) : nls (L.map wqD) = true := nls_all fun d hd => by
  obtain ⟨i, _, rfl⟩ := List.mem_map.mp hd
  exact nl_wqD _
theorem wq_get {K : PySem.W.Frag} {H : Hp} {vs : List V} {L : List (Rat × Pl)} {i : Nat} {z : V} (h : DpAll K H vs (L.map wqD)) (hz : vs[i]? = some z) : ∃ hi : i < L.length, Dp K H z (wqD L[i]) := by
  obtain ⟨d, h1, h2⟩ := dpa_get' h hz
  have hi : i < (L.map wqD).length := (List.getElem?_eq_some_iff.mp h1).1
  rw [List.length_map] at hi
  refine ⟨hi, ?_⟩
  rw [List.getElem?_map, List.getElem?_eq_getElem hi] at h1
  cases h1
  exact h2
/-- with a factor -/
def byF (r : Pl) (L : List (Rat × Pl)) : List (Rat × Pl) := L.map fun wq => (wq.1, mul r wq.2)
theorem byF_take (r : Pl) (L : List (Rat × Pl)) {i : Nat} (h : i < L.length) : (byF r L).take (i + 1) = (byF r L).take i ++ [(L[i].1, mul r L[i].2)] := by
  have hl : (byF r L).length = L.length := by simp [byF]
  rw [List.take_add_one, List.getElem?_eq_getElem (by rw [hl]; exact h)]
  simp [byF]
structure SmL (L : List (Rat × Pl)) : Prop where
  q : ∀ wq ∈ L, SzL 1000 wq.2 ∧ wq.2.length ≤ 3
  l : L.length ≤ 3
section
variable {P : Program} {w : World} {K : PySem.W.Frag} {mg : Str → Option Value} {base : Heap}
def spSqRest (K : PySem.W.Frag) (C : Pl → List (Rat × Pl) → Prop) : Sp := fun vs H Q _ => ∃ x p L, vs = [x] ∧ Dp K H x (cD p) ∧ C p L ∧ Gives K H (.list (L.map wqD)) Q
def spSqOf (K : PySem.W.Frag) (C : Pl → List (Rat × Pl) → Prop) : Sp := fun vs H Q _ => ∃ x p, vs = [x] ∧ Dp K H x (cD p) ∧
  ((p = [] ∧ Gives K H (.list []) Q) ∨ ∃ n r p' L, SplitRun n [1] p r p' ∧ C p' L ∧ SmL L ∧ SzL 80 r ∧ r.length ≤ 3 ∧ Gives K H (.list ((byF r L).map wqD)) Q)
theorem sc81 : FnScope ["curve", "root", "rest", "weight", "other"] ["curve"] (defScope (top 81)) := ⟨rfl, rfl, rfl, by decide +kernel, rfl, by decide +kernel, by decide +kernel⟩
theorem ok_squares_of {C : Pl → List (Rat × Pl) → Prop} {j k : Nat} (hk : 41 ≤ k) (hj : j ≤ k) (F : Df K mg "squares_of" 81) (cSp : Cal P w K mg base 41 "split" (spSplit K)) (cR : Cal P w K mg base j "squares_of_rest" (spSqRest K C)) (cM : Cal P w K mg base 37 "multiplied" (spMultiplied K)) : Cal P w K mg base (k + 1) "squares_of" (spSqOf K C) := by
  refine F.cal sc81 (fun _ _ _ _ _ _ us hl => match us, hl with | [_], _ => rfl) (fun vs H Q E h => ?_) (fun f cdv A outer s H vs Q E hr h => ?_)
  · obtain ⟨_, _, rfl, _⟩ := h; rfl
  obtain ⟨x, p, rfl, hx, hh⟩ := h
  have hL := LIM_eq
  have hu := hr.mono (show 1 ≤ k by omega)
  refine ⟨_, (pss_cons (ps_if (pt_cmpR (op_eqD hr.units) (pv 0) (pe_tup pa_nil) (nomark _)) (pss_one (ps_ret (pe_lst pa_nil))) pss_nil)
    (pss_cons (ps_asg (pe_c cSp hr hk (by rfl) (pa_cons (pv 0) pa_nil)) (pg_tup (by rfl) (pgs_cons (pg_name (i := 1) sc81.nd rfl (.inr rfl)) (pgs_cons (pg_name (i := 2) sc81.nd rfl (.inl rfl)) pgs_nil))))
    (pss_one (ps_ret (pe_lc (own := [("weight", 3), ("other", 4)]) (g := gTup K 2 (gCons (gName 3) (gCons (gName 4) gNil))) (tt := tYes) rfl sc81.nd (pi_list (pe_c cR hr hj (by rfl) (pa_cons (pv 2) pa_nil))) (blkOk_by (N := ["curve", "root", "rest", "weight", "other"]) (sc := defScope (top 81)) (by decide +kernel))
      (fun _ _ _ _ _ => pg_tup (by rfl) (pgs_cons (pg_name (i := 3) sc81.nd rfl (.inl rfl)) (pgs_cons (pg_name (i := 4) sc81.nd rfl (.inl rfl)) pgs_nil))) (fun _ _ _ _ _ => pts_nil) (fun _ _ _ _ _ => pe_tup (pa_cons (pv 3) (pa_cons (pe_c cM hr (by omega) (by rfl) (pa_cons (pv 1) (pa_cons (pv 4) pa_nil))) pa_nil)))))))), ?_⟩
  refine ⟨_, rfl, Nat.zero_le _, fun t0 nt0 => ⟨cD p, cD [], dp_mono (same_upd nt0) hx, .tup (SqT.of upd_same) .nil, cD_shaped p, cD_shaped [], _, rfl, ?_⟩⟩
  have s0 := same_upd (o := .tup []) nt0
  rw [cD_eqv]
  refine ite2 (fun e => ?_) (fun e => ?_)
  · have e : p = [] := of_decide_eq_true e
    rcases hh with ⟨_, q⟩ | ⟨n, r, p', L, hrun, _⟩
    · exact ⟨Nat.zero_le _, fun l nl => q _ _ (s0.trans (same_upd nl)) (.lst (SqL.of upd_same) .nil)⟩
    · exact absurd e hrun.goods.2.ne
  · have e : p ≠ [] := fun z => e (decide_eq_true z)
    rcases hh with ⟨z, _⟩ | ⟨n, r, p', L, hrun, hC, hsm, sr, lr, q⟩
    · exact absurd z e
    · refine ⟨_, rfl, _, p, n, r, p', rfl, dp_mono s0 hx, hrun, fun H1 v1 s1 hv1 => ?_⟩
      obtain ⟨a1, vr, vp, rfl, hs1, hvr, hvp⟩ := tup2_inv hv1
      refine ⟨_, _, rfl, hs1, rfl, _, _, rfl, _, _, rfl, rfl, ?_⟩
      have s01 := s0.trans s1
      refine ⟨_, rfl, _, p', L, rfl, hvp, hC, fun H2 v2 s2 hv2 => ?_⟩
      have s02 := s01.trans s2
      cases hv2 with
      | @lst yd vs _ hys hyn =>
      have hvl := dpa_len hyn
      rw [List.length_map] at hvl
      have hl3 := hsm.l
      refine ⟨yd, rfl, ⟨_, hys⟩, fun D dn => lc_list (K := K) (a := yd) (xs := vs) (fun i H3 => Acc K H2 D H3 (((byF r L).take i).map wqD)) (.start dn) (fun i H3 _ h => h.sm.seq hys) (fun i z H3 hz h => ?_) (fun H3 h => ?_)⟩
      · obtain ⟨hi, hz2⟩ := wq_get hyn hz
        obtain ⟨sq, lq⟩ := hsm.q _ (List.getElem_mem hi)
        obtain ⟨ta, va, vb, rfl, hs, ha, hb⟩ := tup2_inv (dp_mono h.sm hz2)
        refine ⟨_, _, rfl, hs, rfl, _, _, rfl, _, _, rfl, rfl, ?_⟩
        refine ⟨rfl, tYes_of ?_⟩
        have hml := mul_len_le r L[i].2
        have hmul : r.length * (80 + 1000 + 1) ≤ 3 * (80 + 1000 + 1) := Nat.mul_le_mul_right _ lr
        refine ⟨_, rfl, _, rfl, _, rfl, _, _, r, L[i].2, rfl, dp_mono (s2.trans h.sm) hvr, hb, by omega, by omega, ⟨80, 1000, sr, sq, by omega, by omega, by omega⟩, by omega, fun H4 v4 s4 hv4 => ?_⟩
        refine ⟨by show 2 ≤ sizeLine; decide, fun t5 nt5 => ?_⟩
        have s5 := same_upd (o := .tup [va, v4]) nt5
        obtain ⟨acc, e1, e2, h2⟩ := h.push (s4.trans s5) dn (y := .ref t5) (d := wqD (L[i].1, mul r L[i].2)) (.tup (SqT.of upd_same) (.cons (dp_mono (s4.trans s5) ha) (.cons (dp_mono s5 hv4) .nil))) (nl_wqD _) (nls_wq _)
        refine ⟨acc, e1, line_ok (by rw [e2, List.length_map, List.length_take]; omega), ?_⟩
        rw [byF_take r L hi, List.map_append]
        exact h2
      · rw [List.take_of_length_le (by simp [byF]; omega)] at h
        obtain ⟨acc, e1, n1⟩ := h.ex
        exact q _ _ (s02.trans h.sm) (.lst (SqL.of e1) n1)
/-! ### squares_of_rest -/
def CC (p : Pl) (L : List (Rat × Pl)) : Prop := ∃ k, p = [k] ∧ 0 < k ∧ L = [(k, [1])]
def CQ (p : Pl) (L : List (Rat × Pl)) : Prop := ∃ c b m, p = qP c b m ∧ QIn c b m ∧ L = [(ev (qP c b m) (gpT c b m), tanP (qP c b m) (gpT c b m)), (lefK c b m (gpT c b m), lin (gpT c b m))]
def CB (p : Pl) (L : List (Rat × Pl)) : Prop := CC p L ∨ CQ p L
theorem sc80 : FnScope ["rest", "t", "tangent", "left", "line", "weight", "other"] ["rest"] (defScope (top 80)) := ⟨rfl, rfl, rfl, by decide +kernel, rfl, by decide +kernel, by decide +kernel⟩
theorem ok_squares_rest_const (F : Df K mg "squares_of_rest" 80) (B : Bl mg) (k1 : KN K mg "ONE_squares" 1) : Cal P w K mg base 33 "squares_of_rest" (spSqRest K CC) := by
  refine F.cal sc80 (fun _ _ _ _ _ _ us hl => match us, hl with | [_], _ => rfl) (fun vs H Q E h => ?_) (fun f cdv A outer s H vs Q E hr h => ?_)
  · obtain ⟨_, _, _, rfl, _⟩ := h; rfl
  obtain ⟨x, p, L, rfl, hx, ⟨c, rfl, c0, rfl⟩, q⟩ := h
  obtain ⟨a1, hm1, h1⟩ := k1
  obtain ⟨ad, vs, rfl, hs, hn⟩ := cur_inv hx
  have hl := nums_len hn
  obtain ⟨v0, hv0, hvn⟩ := nums_get hn (i := 0) (by show 0 < 1; decide)
  refine ⟨_, pss_cons (ps_if (pt_cmpR op_eq (pe_callB call_len_seq (by rfl) B.len PySem.boot_len (pa_cons (pv 0) pa_nil)) pe_int (nomark _)) (pss_one (ps_ret (pe_lst (pa_cons (pe_tup (pa_cons (pe_ix ix_tup (pv 0) pe_int (fun _ _ => rfl)) (pa_cons (pe_tup (pa_cons (pe_gc (v := .ref a1) (by rfl) ⟨_, hm1, rfl⟩) pa_nil)) pa_nil))) pa_nil)))) pss_nil) pss_never, ?_⟩
  refine ⟨_, rfl, ad, vs, rfl, .inr hs, rfl, _, rfl, ite2 (fun _ => ?_) (fun e => ?_)⟩
  · refine ⟨_, rfl, ad, vs, 0, v0, rfl, rfl, hs, atI_nat (j := 0) hv0, by show 1 ≤ sizeLine; decide, fun t1 nt1 => ?_⟩
    have s1 := same_upd (o := .tup [.ref a1]) nt1
    refine ⟨by show 2 ≤ sizeLine; decide, fun t2 nt2 => ?_⟩
    have s2 := same_upd (o := .tup [v0, .ref t1]) nt2
    refine ⟨by show 1 ≤ sizeLine; decide, fun l nl => ?_⟩
    have s3 := same_upd (o := .lst [.ref t2]) nl
    refine q _ _ ((s1.trans s2).trans s3) (.lst (SqL.of upd_same) (.cons (.tup (sqT_mono s3 (SqT.of upd_same)) (.cons (dp_mono ((s1.trans s2).trans s3) hvn) (.cons (dp_mono (s2.trans s3) (.tup (SqT.of upd_same) (.cons (h1 _) .nil))) .nil))) .nil))
  · exfalso
    apply e
    have hl1 : vs.length = 1 := hl
    rw [hl1]; rfl
theorem ok_squares_of_rest (F : Df K mg "squares_of_rest" 80) (B : Bl mg) (k0 : KN K mg "NOUGHT_squares" 0) (k1 : KN K mg "ONE_squares" 1) (cG : Cal P w K mg base 47 "good_place" (spGoodPlace K)) (cLo : Cal P w K mg base 39 "lowered" (spLowered K)) (cMi : Cal P w K mg base 35 "minus" (spMinus K)) (cW : Cal P w K mg base 36 "worth" (spWorth K)) (cM : Cal P w K mg base 37 "multiplied" (spMultiplied K)) (cSq : Cal P w K mg base 43 "squares_of" (spSqOf K CC)) : Cal P w K mg base 48 "squares_of_rest" (spSqRest K CB) := by
  refine F.cal sc80 (fun _ _ _ _ _ _ us hl => match us, hl with | [_], _ => rfl) (fun vs H Q E h => ?_) (fun f cdv A outer s H vs Q E hr h => ?_)
  · obtain ⟨_, _, _, rfl, _⟩ := h; rfl
  obtain ⟨x, p, L, rfl, hx, hC, q⟩ := h
  have hL := LIM_eq
  obtain ⟨a0, hm0, h0⟩ := k0
  obtain ⟨a1, hm1, h1⟩ := k1
  obtain ⟨ad, vs, rfl, hs, hn⟩ := cur_inv hx
  have hl := nums_len hn
  refine ⟨_, (pss_cons (ps_if (pt_cmpR op_eq (pe_callB call_len_seq (by rfl) B.len PySem.boot_len (pa_cons (pv 0) pa_nil)) pe_int (nomark _)) (pss_one (ps_ret (pe_lst (pa_cons (pe_tup (pa_cons (pe_ix ix_tup (pv 0) pe_int (fun _ _ => rfl)) (pa_cons (pe_tup (pa_cons (pe_gc (v := .ref a1) (by rfl) ⟨_, hm1, rfl⟩) pa_nil)) pa_nil))) pa_nil)))) pss_nil)
    (pss_cons (ps_set (i := 1) sc80.nd rfl (.inl rfl) (pe_c cG hr (by decide) (by rfl) (pa_cons (pv 0) pa_nil)))
    (pss_cons (ps_asg (pe_c cLo hr (by decide) (by rfl) (pa_cons (pv 0) (pa_cons (pv 1) pa_nil))) (pg_tup (by rfl) (pgs_cons (pg_name (i := 2) sc80.nd rfl (.inl rfl)) (pgs_cons (pg_name (i := 3) sc80.nd rfl (.inl rfl)) pgs_nil))))
    (pss_cons (ps_set (i := 4) sc80.nd rfl (.inr rfl) (pe_tup (pa_cons (pe_c cMi hr (by decide) (by rfl) (pa_cons (pe_gc (v := .ref a0) (by rfl) ⟨_, hm0, rfl⟩) (pa_cons (pv 1) pa_nil))) (pa_cons (pe_gc (v := .ref a1) (by rfl) ⟨_, hm1, rfl⟩) pa_nil))))
    (pss_one (ps_ret (pe_op op_cat (pe_lst (pa_cons (pe_tup (pa_cons (pe_c cW hr (by decide) (by rfl) (pa_cons (pv 0) (pa_cons (pv 1) pa_nil))) (pa_cons (pv 2) pa_nil))) pa_nil))
      (pe_lc (own := [("weight", 5), ("other", 6)]) (g := gTup K 2 (gCons (gName 5) (gCons (gName 6) gNil))) (tt := tYes) rfl sc80.nd (pi_list (pe_c cSq hr (by decide) (by rfl) (pa_cons (pv 3) pa_nil))) (blkOk_by (N := ["rest", "t", "tangent", "left", "line", "weight", "other"]) (sc := defScope (top 80)) (by decide +kernel))
      (fun _ _ _ _ _ => pg_tup (by rfl) (pgs_cons (pg_name (i := 5) sc80.nd rfl (.inl rfl)) (pgs_cons (pg_name (i := 6) sc80.nd rfl (.inl rfl)) pgs_nil))) (fun _ _ _ _ _ => pts_nil) (fun _ _ _ _ _ => pe_tup (pa_cons (pv 5) (pa_cons (pe_c cM hr (by decide) (by rfl) (pa_cons (pv 4) (pa_cons (pv 6) pa_nil))) pa_nil))))))))))), ?_⟩
  refine ⟨_, rfl, ad, vs, rfl, .inr hs, rfl, _, rfl, ?_⟩
  rcases hC with ⟨c, rfl, c0, rfl⟩ | ⟨c, b, m, rfl, hq, rfl⟩
  · have hl1 : vs.length = 1 := hl
    obtain ⟨v0, hv0, hvn⟩ := nums_get hn (i := 0) (by show 0 < 1; decide)
    refine ite2 (fun _ => ?_) (fun e => ?_)
    · refine ⟨_, rfl, ad, vs, 0, v0, rfl, rfl, hs, atI_nat (j := 0) hv0, by show 1 ≤ sizeLine; decide, fun t1 nt1 => ?_⟩
      have s1 := same_upd (o := .tup [.ref a1]) nt1
      refine ⟨by show 2 ≤ sizeLine; decide, fun t2 nt2 => ?_⟩
      have s2 := same_upd (o := .tup [v0, .ref t1]) nt2
      refine ⟨by show 1 ≤ sizeLine; decide, fun l nl => ?_⟩
      have s3 := same_upd (o := .lst [.ref t2]) nl
      refine q _ _ ((s1.trans s2).trans s3) (.lst (SqL.of upd_same) (.cons (.tup (sqT_mono s3 (SqT.of upd_same)) (.cons (dp_mono ((s1.trans s2).trans s3) hvn) (.cons (dp_mono (s2.trans s3) (.tup (SqT.of upd_same) (.cons (h1 _) .nil))) .nil))) .nil))
    · exfalso
      apply e
      rw [hl1]; rfl
  · have hc0 : c ≠ 0 := by have := hq.c0; grind
    have h3 := qP_len (b := b) (m := m) hc0
    have sp := qP_sz hq
    have st := gpT_sz hq
    refine ite2 (fun e => ?_) (fun _ => ?_)
    · exfalso
      have e : V.int (vs.length : Int) = V.int 1 := of_decide_eq_true e
      have := V.int.inj e
      omega
    refine ⟨_, rfl, _, c, b, m, rfl, hx, hq, fun H1 v1 s1 hv1 => ?_⟩
    refine ⟨_, rfl, _, rfl, _, _, c, b, m, gpT c b m, rfl, dp_mono s1 hx, hv1, hq, st, fun H2 v2 s2 hv2 => ?_⟩
    have s12 := s1.trans s2
    obtain ⟨at2, vT, vK, rfl, hs2, hvT, hvK⟩ := tup2_inv hv2
    refine ⟨_, _, rfl, hs2, rfl, _, _, rfl, _, _, rfl, rfl, ?_⟩
    refine ⟨_, rfl, _, _, 0, gpT c b m, rfl, h0 _, dp_mono s2 hv1, ⟨sm_zero, st.sm (by omega)⟩, fun H3 v3 s3 hv3 => ?_⟩
    have hv3 : Num K H3 v3 (0 - gpT c b m) := hv3
    rw [show (0 : Rat) - gpT c b m = -(gpT c b m) by grind] at hv3
    refine ⟨by show 2 ≤ sizeLine; decide, fun t4 nt4 => ?_⟩
    have s4 := same_upd (o := .tup [v3, .ref a1]) nt4
    have hline : Dp K (upd H3 t4 (.tup [v3, .ref a1])) (.ref t4) (cD (lin (gpT c b m))) := .tup (SqT.of upd_same) (.cons (dp_mono s4 hv3) (.cons (h1 _) .nil))
    have s34 := s3.trans s4
    have s14 := s12.trans s34
    refine ⟨_, rfl, _, rfl, _, _, qP c b m, gpT c b m, rfl, dp_mono s14 hx, dp_mono (s2.trans s34) hv1, wsz_of (sp.mono (by omega)) (by omega) st (by omega), fun H5 v5 s5 hv5 => ?_⟩
    refine ⟨_, rfl, by show 2 ≤ sizeLine; decide, fun t6 nt6 => ?_⟩
    have s6 := same_upd (o := .tup [v5, vT]) nt6
    refine ⟨by show 1 ≤ sizeLine; decide, fun l7 nl7 => ?_⟩
    have s7 := same_upd (o := .lst [.ref t6]) nl7
    have s57 := (s5.trans s6).trans s7
    have hfst : Dp K (upd (upd H5 t6 (.tup [v5, vT])) l7 (.lst [.ref t6])) (.ref t6) (wqD (ev (qP c b m) (gpT c b m), tanP (qP c b m) (gpT c b m))) := .tup (sqT_mono s7 (SqT.of upd_same)) (.cons (dp_mono (s6.trans s7) hv5) (.cons (dp_mono (s34.trans s57) hvT) .nil))
    have el7 : (upd (upd H5 t6 (.tup [v5, vT])) l7 (.lst [.ref t6])) l7 = some (.lst [.ref t6]) := upd_same
    generalize upd (upd H5 t6 (.tup [v5, vT])) l7 (.lst [.ref t6]) = H7 at *
    -- squares of what is left
    have hk0 := lefK_pos (b := b) (t := gpT c b m) hq.c0 hq.m0
    have hks := lefK_sz hq st
    have hon := const_onIn (c := lefK c b m (gpT c b m)) (by grind) (hks.mono (by omega))
    have hrun : SplitRun 0 [1] [lefK c b m (gpT c b m)] [1] [lefK c b m (gpT c b m)] := by
      obtain ⟨e, ⟨D, hD, _, hDl, _⟩, _⟩ := hon.mi.pw
      refine .done ⟨Norm_1, by simp, (by show 1 ≤ 5; decide), SzL.one.mono (by omega)⟩ hon.mi.good hD ?_
      have := (kS_ok (c := lefK c b m (gpT c b m)) (by grind)).gcd.1
      rw [kS_P (by grind)] at this
      have e2 := hD.unique this
      rw [e2]
      show (mul (pw [1] 0) (mul (pw [1] 0) (pw (Qf none) 0))).length ≤ 1
      simp only [pw, mul_one' Norm_1]
      decide
    refine ⟨_, rfl, _, _, rfl, dp_mono (s34.trans s57) hvK, .inr ⟨0, [1], _, [(lefK c b m (gpT c b m), [1])], hrun, ⟨_, rfl, hk0, rfl⟩, ⟨fun wq hwq => ?_, by show 1 ≤ 3; decide⟩, SzL.one.mono (by omega), by show 1 ≤ 3; decide, fun H8 v8 s8 hv8 => ?_⟩⟩
    · have : wq = (lefK c b m (gpT c b m), [1]) := by simpa using hwq
      rw [this]
      exact ⟨SzL.one.mono (by omega), by show 1 ≤ 3; decide⟩
    cases hv8 with
    | @lst yd ws _ hys hyn =>
    have hyn : DpAll K H8 ws ((byF [1] [(lefK c b m (gpT c b m), [1])]).map wqD) := hyn
    have ebf : byF [1] [(lefK c b m (gpT c b m), [1])] = [(lefK c b m (gpT c b m), [1])] := by
      show [(lefK c b m (gpT c b m), mul [1] [1])] = _
      rw [mul_one' Norm_1]
    rw [ebf] at hyn
    have hwl : ws.length = 1 := dpa_len hyn
    have hl8 := s8 _ _ el7
    refine ⟨yd, rfl, ⟨_, hys⟩, fun D dn => lc_list (K := K) (a := yd) (xs := ws) (fun i H9 => Acc K H8 D H9 (((byF (lin (gpT c b m)) [(lefK c b m (gpT c b m), [1])]).take i).map wqD)) (.start dn) (fun i H9 _ h => h.sm.seq hys) (fun i z H9 hz h => ?_) (fun H9 h => ?_)⟩
    · obtain ⟨hi, hz2⟩ := wq_get hyn hz
      have hi1 : i < 1 := hi
      have hi0 : i = 0 := by omega
      subst hi0
      obtain ⟨ta, va, vb, rfl, hs, ha, hb⟩ := tup2_inv (dp_mono h.sm hz2)
      refine ⟨_, _, rfl, hs, rfl, _, _, rfl, _, _, rfl, rfl, ?_⟩
      refine ⟨rfl, tYes_of ?_⟩
      have hml := mul_len_le (lin (gpT c b m)) [1]
      refine ⟨_, rfl, _, rfl, _, rfl, _, _, lin (gpT c b m), [1], rfl, dp_mono ((s57.trans s8).trans h.sm) hline, hb, (by show 2 ≤ 50; decide), (by show 1 ≤ 50; decide), ⟨65, 0, SzL.lin st, SzL.one, by show 2 * (65 + 0 + 1) ≤ LIM; omega, by omega, by omega⟩, Nat.le_trans hml (by show 2 + 1 ≤ 13; decide), fun H4 v4 s4 hv4 => ?_⟩
      refine ⟨by show 2 ≤ sizeLine; decide, fun t5 nt5 => ?_⟩
      have s5 := same_upd (o := .tup [va, v4]) nt5
      obtain ⟨acc, e1, e2, h2⟩ := h.push (s4.trans s5) dn (y := .ref t5) (d := wqD (lefK c b m (gpT c b m), mul (lin (gpT c b m)) [1])) (.tup (SqT.of upd_same) (.cons (dp_mono (s4.trans s5) ha) (.cons (dp_mono s5 hv4) .nil))) (nl_wqD _) (nls_wq _)
      exact ⟨acc, e1, line_ok (by rw [e2]; show 0 ≤ 100; decide), h2⟩
    · rw [hwl] at h
      obtain ⟨acc, e1, n1⟩ := h.ex
      have e9 := h.sm _ _ hl8
      have n1 : DpAll K H9 acc [wqD (lefK c b m (gpT c b m), mul (lin (gpT c b m)) [1])] := n1
      rw [mul_one' (Mo.lin _).nm] at n1
      have hal : acc.length = 1 := dpa_len n1
      refine ⟨_, _, [.ref t6], acc, rfl, rfl, e9, e1, line_le (by rw [hal]; show 1 + 1 ≤ 100; decide), fun pd hpd => ?_⟩
      have s10 := same_upd (o := .lst ([.ref t6] ++ acc)) hpd
      have sAll := ((s14.trans s57).trans s8).trans (h.sm.trans s10)
      exact q _ _ sAll (.lst (SqL.of upd_same) (.cons (dp_mono ((s8.trans h.sm).trans s10) hfst) (dpa_mono s10 n1)))
end
end NB

set_option Elab.async false
set_option linter.all false
set_option maxRecDepth 100000
set_option maxHeartbeats 4000000
namespace NB
/-- squares of a curve, of moderate size -/
structure SqFine (L : List (Rat × Pl)) (p : Pl) : Prop where
  ok : SqOk 4000 L
  l3 : ∀ wq ∈ L, wq.2.length ≤ 3
  ev : ∀ x, evS L x = NB.ev p x
theorem goodF {S : Sh} (o : S.Ok) (s : S.Small) : Good S.F := ⟨S.MoF.nm, S.MoF.ne, Sh.F_le o, (Sh.szF s).mono (by omega)⟩
theorem ev_G (S : Sh) (x : Rat) : ev S.G x = ev S.f x ^ S.i * (ev S.g x ^ S.j * ev S.h x ^ S.k) := ev_gG x
theorem MoG (S : Sh) : Mo S.G := .mul (.pw (.Lf _) _) (.mul (.pw (.Lf _) _) (.pw (.Qf _) _))
theorem split_step {n : Nat} {r r' p' : Pl} {S T S3 : Sh} (oS : S.Ok) (sS : S.Small) (gr : Good r) (eT : ∀ x, T.val x = ev S.G x) (oT : T.Ok) (sT : T.Small) (hT : 1 < T.P.length) (g3 : Good S3.P) (hv : ∀ x, S.val x = S3.val x * (ev T.F x * ev T.F x)) (next : SplitRun n (mul r T.F) S3.P r' p') : SplitRun (n + 1) r S.P r' p' := by
  have e : T.P = S.G := ident (Sh.Norm_P _) (MoG S).nm fun x => by rw [Sh.ev_P, eT]
  obtain ⟨ee, hpw, hF⟩ := Sh.pwOf oT sT
  have hg := oS.gcd.1
  rw [← e] at hg
  refine .step gr (Sh.good oS sS) hg hT (Sh.good oT sT) hpw (by rw [← hF]; exact goodF oT sT) g3 (fun x => ?_) (by rw [← hF]; exact next)
  rw [← hF, ev_mul, Sh.ev_P, Sh.ev_P, hv]
theorem good_one : Good [1] := ⟨Norm_1, by simp, by show 1 ≤ 5; decide, SzL.one.mono (by omega)⟩
theorem split_end {r : Pl} {S : Sh} (o : S.Ok) (s : S.Small) (gr : Good r) (ha : S.oa = none) : SplitRun 0 r S.P r S.P := by
  refine .done gr (Sh.good o s) o.gcd.1 ?_
  have e : S.G = [1] := by
    show mul (pw (Lf S.oa) S.i) (mul (pw (Lf S.ob) S.j) (pw S.h S.k)) = [1]
    rw [ha, s.nb ha, s.k0, Lf, pw_one, pw_one]
    simp only [pw, mul_one' Norm_1]
  rw [e]; decide
/-! ### never below: all places twofold -/
section
variable {S : Sh}
theorem val_odd {a y z : Rat} (hc : S.c ≠ 0) (p : S.Pos) (ha : S.oa = some a) (hy : y < a) (hz : a < z) (hg : 0 < ev S.g y * ev S.g z) (hnn : ∀ x, 0 ≤ S.val x) : S.i % 2 = 1 := by
  have ef : ∀ x, ev S.f x = x - a := fun x => by unfold Sh.f; rw [ha]; exact ev_lin a x
  have e : S.val y * S.val z = (S.c * S.c) * ((ev S.f y * ev S.f z) ^ (S.i + 1) * ((ev S.g y * ev S.g z) ^ (S.j + 1) * (ev S.h y * ev S.h z) ^ (S.k + 1))) := by
    unfold Sh.val
    rw [rpow_mul, rpow_mul, rpow_mul]
    generalize ev S.f y ^ (S.i + 1) = a1
    generalize ev S.f z ^ (S.i + 1) = b1
    generalize ev S.g y ^ (S.j + 1) = a2
    generalize ev S.g z ^ (S.j + 1) = b2
    generalize ev S.h y ^ (S.k + 1) = a3
    generalize ev S.h z ^ (S.k + 1) = b3
    grind
  have h0 := Rat.mul_nonneg (hnn y) (hnn z)
  rw [e] at h0
  have h1 := Rat.mul_pos (sq_pos hc) (Rat.mul_pos (pow_pos' hg (S.j + 1)) (pow_pos' (Rat.mul_pos (p.h_pos y) (p.h_pos z)) (S.k + 1)))
  have hu : ev S.f y * ev S.f z < 0 := by
    rw [ef, ef]
    have := Rat.mul_pos (show (0 : Rat) < a - y by grind) (show (0 : Rat) < z - a by grind)
    grind
  have odd : ∀ (u : Rat), u < 0 → ∀ n : Nat, u ^ (2 * n + 1) < 0 := fun u hu n => by
    induction n with
    | zero => rw [Nat.mul_zero, Rat.pow_succ, Rat.pow_zero]; grind
    | succ n ih =>
      rw [show 2 * (n + 1) + 1 = 2 * n + 1 + 1 + 1 by omega, Rat.pow_succ, Rat.pow_succ]
      have := sq_pos (show u ≠ 0 by grind)
      have := Rat.mul_pos (show (0 : Rat) < -(u ^ (2 * n + 1)) by grind) this
      grind
  rcases Nat.mod_two_eq_zero_or_one S.i with h | h
  · exfalso
    have h2 := odd _ hu (S.i / 2)
    rw [show 2 * (S.i / 2) + 1 = S.i + 1 by omega] at h2
    generalize (ev S.f y * ev S.f z) ^ (S.i + 1) = A at *
    generalize (ev S.g y * ev S.g z) ^ (S.j + 1) = B at *
    generalize (ev S.h y * ev S.h z) ^ (S.k + 1) = C at *
    have := Rat.mul_pos (show (0 : Rat) < -A by grind) h1
    grind
  · exact h
theorem even_a (o : S.Ok) (p : S.Pos) {a : Rat} (ha : S.oa = some a) (hnn : ∀ x, 0 ≤ S.val x) : S.i % 2 = 1 := by
  cases hb : S.ob with
  | none => exact val_odd o.c0 p ha (y := a - 1) (z := a + 1) (by grind) (by grind) (by unfold Sh.g; rw [hb]; simp only [Lf, ev]; grind) hnn
  | some b =>
    have hne := o.ab a b ha hb
    have eg : ∀ x, ev S.g x = x - b := fun x => by unfold Sh.g; rw [hb]; exact ev_lin b x
    by_cases h : b < a
    · exact val_odd o.c0 p ha (y := (a + b) / 2) (z := a + 1) (by grind) (by grind) (by rw [eg, eg]; exact Rat.mul_pos (by grind) (by grind)) hnn
    · refine val_odd o.c0 p ha (y := a - 1) (z := (a + b) / 2) (by grind) (by grind) ?_ hnn
      rw [eg, eg]
      have := Rat.mul_pos (show (0 : Rat) < -(a - 1 - b) by grind) (show (0 : Rat) < -((a + b) / 2 - b) by grind)
      grind
theorem even_b (o : S.Ok) (p : S.Pos) {b : Rat} (hb : S.ob = some b) (hnn : ∀ x, 0 ≤ S.val x) : S.j % 2 = 1 :=
  even_a (S := S.sw) o.sw p hb fun x => by rw [Sh.sw_val]; exact hnn x
theorem lf_big {o : Option Rat} {x : Rat} (h : ∀ a, o = some a → a < x) : 0 < ev (Lf o) x := by
  cases o with
  | none => simp only [Lf, ev]; grind
  | some a => have := h a rfl; simp only [Lf, ev_lin]; grind
theorem c_pos (o : S.Ok) (p : S.Pos) (hnn : ∀ x, 0 ≤ S.val x) : 0 < S.c := by
  obtain ⟨x, hx⟩ : ∃ x : Rat, (∀ a, S.oa = some a → a < x) ∧ ∀ b, S.ob = some b → b < x := by
    cases ha : S.oa with
    | none =>
      cases hb : S.ob with
      | none => exact ⟨0, fun _ h => (by cases h), fun _ h => (by cases h)⟩
      | some b => exact ⟨b + 1, fun _ h => (by cases h), fun _ h => (by cases h; grind)⟩
    | some a =>
      cases hb : S.ob with
      | none => exact ⟨a + 1, fun _ h => (by cases h; grind), fun _ h => (by cases h)⟩
      | some b =>
        by_cases h : a < b
        · exact ⟨b + 1, fun _ h => (by cases h; grind), fun _ h => (by cases h; grind)⟩
        · exact ⟨a + 1, fun _ h => (by cases h; grind), fun _ h => (by cases h; grind)⟩
  have h1 : 0 < ev S.f x ^ (S.i + 1) * (ev S.g x ^ (S.j + 1) * ev S.h x ^ (S.k + 1)) := Rat.mul_pos (pow_pos' (lf_big hx.1) _) (Rat.mul_pos (pow_pos' (lf_big hx.2) _) (pow_pos' (p.h_pos x) _))
  have h2 := hnn x
  unfold Sh.val at h2
  have h0 := o.c0
  by_cases h : 0 < S.c
  · exact h
  · have := Rat.mul_pos (show (0 : Rat) < -S.c by grind) h1
    grind
end
/-! ### the squares that squares_of finds -/
theorem SmL_CB {p : Pl} {L : List (Rat × Pl)} (h : CB p L) : SmL L := by
  rcases h with ⟨k, _, _, rfl⟩ | ⟨c, b, m, _, hq, rfl⟩
  · refine ⟨fun wq hwq => ?_, by show 1 ≤ 3; decide⟩
    have : wq = (k, [1]) := by simpa using hwq
    rw [this]
    exact ⟨SzL.one.mono (by omega), by show 1 ≤ 3; decide⟩
  · have st := gpT_sz hq
    refine ⟨fun wq hwq => ?_, by show 2 ≤ 3; decide⟩
    simp only [List.mem_cons, List.not_mem_nil, or_false] at hwq
    rcases hwq with rfl | rfl
    · exact ⟨(tanP_sz hq st).mono (by omega), Nat.le_trans (tanP_len _ _) (by decide)⟩
    · exact ⟨(SzL.lin st).mono (by omega), by show 2 ≤ 3; decide⟩
theorem sqFine_of {P p' r : Pl} {L : List (Rat × Pl)} (hC : CB p' L) (hk : ∀ k, p' = [k] → Sz 1000 k) (hr : Norm r) (hrn : r ≠ []) (sr : SzL 80 r) (l3 : r.length ≤ 3) (l2 : p'.length = 3 → r.length ≤ 2) (hv : ∀ x, ev P x = ev r x * ev r x * ev p' x) : SqFine (byF r L) P := by
  rcases hC with ⟨k, rfl, k0, rfl⟩ | ⟨c, b, m, rfl, hq, rfl⟩
  · have e : byF r [(k, [1])] = [(k, r)] := by
      show [(k, mul r [1])] = _
      rw [mul_one' hr]
    rw [e]
    have hk := hk k rfl
    refine ⟨⟨fun wq h => ?_, fun wq h => ?_, by show 1 ≤ 20; decide⟩, fun wq h => ?_, fun x => ?_⟩
    · have : wq = (k, r) := by simpa using h
      rw [this]; exact ⟨k0, hk.mono (by omega)⟩
    · have : wq = (k, r) := by simpa using h
      rw [this]; exact ⟨hrn, hr, Nat.le_trans l3 (by decide), sr.mono (by omega)⟩
    · have : wq = (k, r) := by simpa using h
      rw [this]; exact l3
    · rw [hv]; simp only [evS, ev]; grind
  · have hc0 : c ≠ 0 := by have := hq.c0; grind
    have hl2 := l2 (qP_len hc0)
    have h1r : 1 ≤ r.length := List.length_pos_iff.mpr hrn
    have st := gpT_sz hq
    have e : byF r [(ev (qP c b m) (gpT c b m), tanP (qP c b m) (gpT c b m)), (lefK c b m (gpT c b m), lin (gpT c b m))] = [(ev (qP c b m) (gpT c b m), mul r (tanP (qP c b m) (gpT c b m))), (lefK c b m (gpT c b m), mul r (lin (gpT c b m)))] := rfl
    rw [e]
    have hTn := tanP_ne (qP c b m) (gpT c b m)
    have lT := tanP_len (qP c b m) (gpT c b m)
    have h1T : 1 ≤ (tanP (qP c b m) (gpT c b m)).length := List.length_pos_iff.mpr hTn
    have m1 := mul_len hr (tanP_Norm (qP c b m) (gpT c b m)) hrn hTn
    have m2 := mul_len hr (Mo.lin (gpT c b m)).nm hrn (Mo.lin (gpT c b m)).ne
    have m2' : (lin (gpT c b m)).length = 2 := rfl
    have mem : ∀ wq, wq ∈ [(ev (qP c b m) (gpT c b m), mul r (tanP (qP c b m) (gpT c b m))), (lefK c b m (gpT c b m), mul r (lin (gpT c b m)))] → wq = (ev (qP c b m) (gpT c b m), mul r (tanP (qP c b m) (gpT c b m))) ∨ wq = (lefK c b m (gpT c b m), mul r (lin (gpT c b m))) := fun wq h => by simpa using h
    refine ⟨⟨fun wq h => ?_, fun wq h => ?_, by show 2 ≤ 20; decide⟩, fun wq h => ?_, fun x => ?_⟩
    · rcases mem wq h with rfl | rfl
      · exact ⟨qP_at_pos hq, (qP_at_sz hq st).mono (by omega)⟩
      · exact ⟨lefK_pos hq.c0 hq.m0, (lefK_sz hq st).mono (by omega)⟩
    · rcases mem wq h with rfl | rfl
      · exact ⟨mul_ne_nil hr (tanP_Norm _ _) hrn hTn, Norm_mul _ _, by show (mul r (tanP (qP c b m) (gpT c b m))).length ≤ 5; omega, (sr.mulm (m := 2) (tanP_sz hq st) (.inl hl2)).mono (by omega)⟩
      · exact ⟨mul_ne_nil hr (Mo.lin _).nm hrn (Mo.lin _).ne, Norm_mul _ _, by show (mul r (lin (gpT c b m))).length ≤ 5; omega, (sr.mulm (m := 2) (SzL.lin st) (.inl hl2)).mono (by omega)⟩
    · rcases mem wq h with rfl | rfl
      · show (mul r (tanP (qP c b m) (gpT c b m))).length ≤ 3; omega
      · show (mul r (lin (gpT c b m))).length ≤ 3; omega
    · have hid := tan_id (b := b) (t := gpT c b m) hc0 hq.m0 x
      rw [hv]
      simp only [evS]
      rw [ev_mul, ev_mul, ev_lin]
      generalize ev (tanP (qP c b m) (gpT c b m)) x = T at *
      generalize ev (qP c b m) (gpT c b m) = hh at *
      generalize lefK c b m (gpT c b m) = kk at *
      have e2 : ev (qP c b m) x = hh * (T * T) + kk * ((x - gpT c b m) * (x - gpT c b m)) := by grind
      rw [e2]
      grind
/-- what squares_of does with a curve -/
def SqIn (P : Pl) : Prop := ∃ n r p' L, SplitRun n [1] P r p' ∧ CB p' L ∧ SmL L ∧ SzL 80 r ∧ r.length ≤ 3 ∧ SqFine (byF r L) P
theorem val_h {S : Sh} (ha : S.oa = none) (hb : S.ob = none) (hk : S.k = 0) (x : Rat) : S.val x = ev (scl S.c S.h) x := by rw [← Sh.ev_P, Sh.P_none ha hb hk]
theorem cb_of {S : Sh} (o : S.Ok) (p : S.Pos) (s : S.Small) (hc : 0 < S.c) (sc : Sz 19 S.c) (ha : S.oa = none) : ∃ L, CB S.P L ∧ (∀ k, S.P = [k] → Sz 1000 k) ∧ (S.oq = none → S.P.length = 1) := by
  have e := Sh.P_none ha (s.nb ha) s.k0
  cases hq : S.oq with
  | none =>
    have e2 : S.P = [S.c] := by
      rw [e]; unfold Sh.h; rw [hq]
      show scl S.c [1] = _
      rw [scl_eq o.c0 Norm_1]
      show [1 * S.c] = _
      congr 1; grind
    rw [e2]
    exact ⟨_, .inl ⟨_, rfl, hc, rfl⟩, fun k hk => (by cases hk; exact sc.mono (by omega)), fun _ => rfl⟩
  | some q =>
    have e2 : S.P = qP S.c q.1 q.2 := by rw [e]; unfold Sh.h; rw [hq]; rfl
    obtain ⟨s1, s2, _⟩ := s.q q hq
    rw [e2]
    exact ⟨_, .inr ⟨_, _, _, rfl, ⟨hc, p q hq, sc, s1, s2⟩, rfl⟩, fun k hk => (by
      have := qP_len (b := q.1) (m := q.2) o.c0
      rw [hk] at this; cases this), fun h => (by cases h)⟩
theorem Lf_len (o : Option Rat) : (Lf o).length ≤ 2 := by cases o <;> simp [Lf, lin]
theorem one_mulL {p : Pl} (h : Norm p) : mul [1] p = p := one_mul' h
theorem F_a {S : Sh} {a : Rat} (ha : S.oa = some a) (hb : S.ob = none) (hq : S.oq = none) : S.F = lin a := ident S.MoF.nm (Mo.lin a).nm fun x => by
  rw [Sh.ev_F]; unfold Sh.f Sh.g Sh.h; rw [ha, hb, hq]; simp only [Lf, Qf, ev]; grind
theorem F_ab {S : Sh} {a b : Rat} (ha : S.oa = some a) (hb : S.ob = some b) (hq : S.oq = none) : S.F = mul (lin a) (lin b) := ident S.MoF.nm (Norm_mul _ _) fun x => by
  rw [Sh.ev_F, ev_mul]; unfold Sh.f Sh.g Sh.h; rw [ha, hb, hq]; simp only [Lf, Qf, ev]; grind
theorem ev_one_pow (n : Nat) (x : Rat) : ev (Lf none) x ^ n = 1 := by
  have : ev (Lf none) x = 1 := by simp only [Lf, ev]; grind
  rw [this]
  induction n with
  | zero => rw [Rat.pow_zero]
  | succ n ih => rw [Rat.pow_succ, ih]; grind
theorem ev_qone_pow (n : Nat) (x : Rat) : ev (Qf none) x ^ n = 1 := by
  have : ev (Qf none) x = 1 := by simp only [Qf, ev]; grind
  rw [this]
  induction n with
  | zero => rw [Rat.pow_zero]
  | succ n ih => rw [Rat.pow_succ, ih]; grind
theorem rp2 (x : Rat) : x ^ 2 = x * x := by rw [Rat.pow_succ, Rat.pow_succ, Rat.pow_zero]; grind
theorem rp1 (x : Rat) : x ^ 1 = x := by rw [Rat.pow_succ, Rat.pow_zero]; grind
theorem rp4 (x : Rat) : x ^ 4 = x * x * (x * x) := by rw [Rat.pow_succ, Rat.pow_succ, Rat.pow_succ, Rat.pow_succ, Rat.pow_zero]; grind
/-- twofold at a -/
theorem sqIn_a {S : Sh} {a : Rat} (o : S.Ok) (p : S.Pos) (s : S.Small) (hc : 0 < S.c) (sc : Sz 19 S.c) (ha : S.oa = some a) (hb : S.ob = none) (hi : S.i = 1) {r : Pl} (gr : Good r) (g2 : Good (mul r (lin a))) :
    ∃ p' L, SplitRun 1 r S.P (mul r (lin a)) p' ∧ CB p' L ∧ (∀ k, p' = [k] → Sz 1000 k) ∧ (p'.length = 3 → S.oq ≠ none) ∧ ∀ x, ev S.P x = (x - a) * (x - a) * ev p' x := by
  have s3 : (⟨S.c, none, none, S.oq, 0, 0, 0⟩ : Sh).Small := ⟨s.c, fun _ h => (by cases h), fun _ h => (by cases h), fun q hq => ⟨(s.q q hq).1, (s.q q hq).2.1, .inl rfl⟩, fun _ => rfl, rfl, by
    have := s.deg
    rw [ha, hb] at this
    show 0 + 0 + (if S.oq = none then 0 else 2) ≤ 4
    split <;> omega⟩
  have o3 : (⟨S.c, none, none, S.oq, 0, 0, 0⟩ : Sh).Ok := by
    refine ⟨o.c0, fun _ _ h => (by cases h), o.m0, fun _ _ h => (by rcases h with h | h <;> cases h), ?_⟩
    have e := Sh.P_none (S := ⟨S.c, none, none, S.oq, 0, 0, 0⟩) rfl rfl rfl
    rw [e]
    refine Nat.le_trans (norm_len _) ?_
    rw [sclR_len]
    show (Qf S.oq).length ≤ 5
    cases S.oq <;> simp [Qf, qd]
  have p3 : (⟨S.c, none, none, S.oq, 0, 0, 0⟩ : Sh).Pos := fun q hq => p q hq
  have hval : ∀ x, S.val x = (⟨S.c, none, none, S.oq, 0, 0, 0⟩ : Sh).val x * ((x - a) * (x - a)) := fun x => by
    show S.c * (ev (Lf S.oa) x ^ (S.i + 1) * (ev (Lf S.ob) x ^ (S.j + 1) * ev S.h x ^ (S.k + 1))) = S.c * (ev (Lf none) x ^ (0 + 1) * (ev (Lf none) x ^ (0 + 1) * ev (Qf S.oq) x ^ (0 + 1))) * _
    rw [ha, hb, hi, s.k0, ev_one_pow, ev_one_pow]
    show S.c * (ev (lin a) x ^ 2 * (1 * ev (Qf S.oq) x ^ 1)) = _
    rw [rp2, ev_lin]
    grind
  obtain ⟨L, hC, hk, hl⟩ := cb_of o3 p3 s3 hc sc rfl
  have eF : (lS 1 a).F = lin a := lS_F 1 a
  have sa := s.a a ha
  refine ⟨_, L, split_step (T := lS 1 a) (S3 := ⟨S.c, none, none, S.oq, 0, 0, 0⟩) o s gr (fun x => ?_) (lS_ok (by grind)) (lS_small (.one _) sa) ?_ (Sh.good o3 s3) (fun x => by rw [eF, ev_lin, hval]) ?_, hC, hk, fun h z => (by rw [hl z] at h; cases h), fun x => by rw [Sh.ev_P, hval, Sh.ev_P]; grind⟩
  · rw [lS_val, ev_G]
    show _ = ev (Lf S.oa) x ^ S.i * (ev (Lf S.ob) x ^ S.j * ev S.h x ^ S.k)
    rw [ha, hb, hi, s.k0, ev_one_pow, Rat.pow_zero, rp1]
    show _ = ev (lin a) x * _
    rw [ev_lin]; grind
  · rw [Sh.len_P (S := lS 1 a) (show (1 : Rat) ≠ 0 by grind)]
    show 1 < (mul (pw (lin a) 1) (mul (pw [1] 1) (pw [1] 1))).length
    rw [pw_one, mul_one' Norm_1, mul_one' ((Mo.lin a).pw 1).nm, len_pwLin]; decide
  · rw [eF]
    exact split_end o3 s3 g2 rfl
theorem lin_good {a : Rat} (h : Sz 11 a) : Good (lin a) := ⟨(Mo.lin a).nm, (Mo.lin a).ne, (by show 2 ≤ 5; decide), (SzL.lin h).mono (by omega)⟩
theorem lin2_good {a b : Rat} (h : Sz 11 a) (k : Sz 11 b) : Good (mul (lin a) (lin b)) ∧ SzL 80 (mul (lin a) (lin b)) ∧ (mul (lin a) (lin b)).length = 3 := by
  have hl : (mul (lin a) (lin b)).length = 3 := (Mo.lin a).mul_len (Mo.lin b)
  have hs : SzL 46 (mul (lin a) (lin b)) := (SzL.lin h).mulm (m := 2) (SzL.lin k) (.inl (Nat.le_refl _))
  exact ⟨⟨Norm_mul _ _, ((Mo.lin a).mul (Mo.lin b)).ne, by omega, hs.mono (by omega)⟩, hs.mono (by omega), hl⟩
/-- a curve by factors that is never below nought -/
theorem sqIn_of {S : Sh} (o : S.Ok) (p : S.Pos) (s : S.Small) (sc : Sz 19 S.c) (hnn : ∀ x, 0 ≤ S.val x) : SqIn S.P := by
  have hc := c_pos o p hnn
  have hdeg := s.deg
  cases ha : S.oa with
  | none =>
    obtain ⟨L, hC, hk, _⟩ := cb_of o p s hc sc ha
    refine ⟨0, [1], S.P, L, split_end o s good_one ha, hC, SmL_CB hC, SzL.one.mono (by omega), by show 1 ≤ 3; decide, sqFine_of hC hk Norm_1 (by simp) (SzL.one.mono (by omega)) (by show 1 ≤ 3; decide) (fun _ => by show 1 ≤ 2; decide) fun x => ?_⟩
    simp only [ev]; grind
  | some a =>
    have sa := s.a a ha
    have hi := even_a o p ha hnn
    rw [ha] at hdeg
    rw [if_neg (by simp)] at hdeg
    have e1 : mul [1] (lin a) = lin a := one_mul' (Mo.lin a).nm
    cases hb : S.ob with
    | none =>
      rw [hb, if_pos rfl] at hdeg
      have hi2 : S.i = 1 ∨ S.i = 3 := by omega
      rcases hi2 with hi2 | hi2
      · obtain ⟨p', L, hrun, hC, hk, hlen, hv⟩ := sqIn_a o p s hc sc ha hb hi2 (r := [1]) good_one (by rw [e1]; exact lin_good sa)
        rw [e1] at hrun
        refine ⟨1, lin a, p', L, hrun, hC, SmL_CB hC, (SzL.lin sa).mono (by omega), by show 2 ≤ 3; decide, sqFine_of hC hk (Mo.lin a).nm (Mo.lin a).ne ((SzL.lin sa).mono (by omega)) (by show 2 ≤ 3; decide) (fun _ => Nat.le_refl 2) fun x => ?_⟩
        rw [hv, ev_lin]
      · have hq : S.oq = none := by
          cases hq : S.oq with
          | none => rfl
          | some q => rw [hq, if_neg (by simp)] at hdeg; omega
        -- the curve that is left: c (x - a)^2
        have o3 : (⟨S.c, some a, none, none, 1, 0, 0⟩ : Sh).Ok := by
          refine ⟨o.c0, fun _ _ _ h => (by cases h), fun _ h => (by cases h), fun _ _ _ h => (by cases h), ?_⟩
          rw [Sh.len_P (S := ⟨S.c, some a, none, none, 1, 0, 0⟩) o.c0]
          show (mul (pw (lin a) 2) (mul (pw [1] 1) (pw [1] 1))).length ≤ 5
          rw [pw_one, mul_one' Norm_1, mul_one' ((Mo.lin a).pw 2).nm, len_pwLin]; decide
        have s3 : (⟨S.c, some a, none, none, 1, 0, 0⟩ : Sh).Small := ⟨s.c, fun _ h => (by cases h; exact sa), fun _ h => (by cases h), fun _ h => (by cases h), fun _ => rfl, rfl, by show 1 + 1 + 0 + 0 ≤ 4; decide⟩
        have p3 : (⟨S.c, some a, none, none, 1, 0, 0⟩ : Sh).Pos := fun _ h => (by cases h)
        have oT : (⟨1, some a, none, none, 2, 0, 0⟩ : Sh).Ok := by
          refine ⟨by show (1 : Rat) ≠ 0; grind, fun _ _ _ h => (by cases h), fun _ h => (by cases h), fun _ _ _ h => (by cases h), ?_⟩
          rw [Sh.len_P (S := ⟨1, some a, none, none, 2, 0, 0⟩) (show (1 : Rat) ≠ 0 by grind)]
          show (mul (pw (lin a) 3) (mul (pw [1] 1) (pw [1] 1))).length ≤ 5
          rw [pw_one, mul_one' Norm_1, mul_one' ((Mo.lin a).pw 3).nm, len_pwLin]; decide
        have sT : (⟨1, some a, none, none, 2, 0, 0⟩ : Sh).Small := ⟨.one _, fun _ h => (by cases h; exact sa), fun _ h => (by cases h), fun _ h => (by cases h), fun _ => rfl, rfl, by show 2 + 1 + 0 + 0 ≤ 4; decide⟩
        have eTF : (⟨1, some a, none, none, 2, 0, 0⟩ : Sh).F = lin a := F_a rfl rfl rfl
        have v3 : ∀ x, (⟨S.c, some a, none, none, 1, 0, 0⟩ : Sh).val x = S.c * ((x - a) * (x - a)) := fun x => by
          show S.c * (ev (lin a) x ^ 2 * (ev (Lf none) x ^ 1 * ev (Qf none) x ^ 1)) = _
          rw [ev_one_pow, ev_qone_pow, rp2, ev_lin]; grind
        have vS : ∀ x, S.val x = S.c * ((x - a) * (x - a)) * ((x - a) * (x - a)) := fun x => by
          show S.c * (ev (Lf S.oa) x ^ (S.i + 1) * (ev (Lf S.ob) x ^ (S.j + 1) * ev (Qf S.oq) x ^ (S.k + 1))) = _
          rw [ha, hb, hq, hi2, ev_one_pow, ev_qone_pow]
          show S.c * (ev (lin a) x ^ 4 * _) = _
          rw [rp4, ev_lin]; grind
        obtain ⟨p', L, hrun, hC, hk, hlen, hv⟩ := sqIn_a o3 p3 s3 hc sc rfl rfl rfl (r := lin a) (lin_good sa) (lin2_good sa sa).1
        have hlen3 : p'.length = 3 → False := fun h => hlen h rfl
        obtain ⟨g2, z2, l2⟩ := lin2_good sa sa
        refine ⟨2, mul (lin a) (lin a), p', L, ?_, hC, SmL_CB hC, z2, by omega, sqFine_of hC hk (Norm_mul _ _) g2.ne z2 (by omega) (fun h => (hlen3 h).elim) fun x => ?_⟩
        · refine split_step (T := ⟨1, some a, none, none, 2, 0, 0⟩) (S3 := ⟨S.c, some a, none, none, 1, 0, 0⟩) o s good_one (fun x => ?_) oT sT ?_ (Sh.good o3 s3) (fun x => by rw [eTF, ev_lin, vS, v3]) (by rw [eTF, e1]; exact hrun)
          · rw [ev_G]
            show 1 * (ev (lin a) x ^ 3 * (ev (Lf none) x ^ 1 * ev (Qf none) x ^ 1)) = ev (Lf S.oa) x ^ S.i * (ev (Lf S.ob) x ^ S.j * ev (Qf S.oq) x ^ S.k)
            rw [ha, hb, hq, hi2, ev_one_pow, ev_qone_pow, ev_one_pow, ev_qone_pow]
            show _ = ev (lin a) x ^ 3 * _
            grind
          · rw [Sh.len_P (S := ⟨1, some a, none, none, 2, 0, 0⟩) (show (1 : Rat) ≠ 0 by grind)]
            show 1 < (mul (pw (lin a) 3) (mul (pw [1] 1) (pw [1] 1))).length
            rw [pw_one, mul_one' Norm_1, mul_one' ((Mo.lin a).pw 3).nm, len_pwLin]; decide
        · rw [Sh.ev_P, vS, ev_mul, ev_lin]
          have := hv x
          rw [Sh.ev_P, v3] at this
          grind
    | some b =>
      have sb := s.b b hb
      have hj := even_b o p hb hnn
      have hab := o.ab a b ha hb
      rw [hb, if_neg (by simp)] at hdeg
      have hi2 : S.i = 1 := by omega
      have hj2 : S.j = 1 := by omega
      have hq : S.oq = none := by
        cases hq : S.oq with
        | none => rfl
        | some q => rw [hq, if_neg (by simp)] at hdeg; omega
      have oT : (⟨1, some a, some b, none, 0, 0, 0⟩ : Sh).Ok := by
        refine ⟨by show (1 : Rat) ≠ 0; grind, fun _ _ h h' => (by cases h; cases h'; exact hab), fun _ h => (by cases h), fun _ _ _ h => (by cases h), ?_⟩
        rw [Sh.len_P (S := ⟨1, some a, some b, none, 0, 0, 0⟩) (show (1 : Rat) ≠ 0 by grind)]
        show (mul (pw (lin a) 1) (mul (pw (lin b) 1) (pw [1] 1))).length ≤ 5
        rw [pw_one, mul_one' ((Mo.lin b).pw 1).nm, ((Mo.lin a).pw 1).mul_len ((Mo.lin b).pw 1), len_pwLin, len_pwLin]; decide
      have sT : (⟨1, some a, some b, none, 0, 0, 0⟩ : Sh).Small := ⟨.one _, fun _ h => (by cases h; exact sa), fun _ h => (by cases h; exact sb), fun _ h => (by cases h), fun h => (by cases h), rfl, by show 0 + 1 + (0 + 1) + 0 ≤ 4; decide⟩
      have eTF : (⟨1, some a, some b, none, 0, 0, 0⟩ : Sh).F = mul (lin a) (lin b) := F_ab rfl rfl rfl
      have vS : ∀ x, S.val x = S.c * ((x - a) * (x - b)) * ((x - a) * (x - b)) := fun x => by
        show S.c * (ev (Lf S.oa) x ^ (S.i + 1) * (ev (Lf S.ob) x ^ (S.j + 1) * ev (Qf S.oq) x ^ (S.k + 1))) = _
        rw [ha, hb, hq, hi2, hj2, ev_qone_pow]
        show S.c * (ev (lin a) x ^ 2 * (ev (lin b) x ^ 2 * 1)) = _
        rw [rp2, rp2, ev_lin, ev_lin]; grind
      have hkc : ∀ x, (kS S.c).val x = S.c := fun x => by
        rw [← Sh.ev_P, kS_P o.c0]; simp only [ev]; grind
      have s3 : (kS S.c).Small := ⟨s.c, fun _ h => (by cases h), fun _ h => (by cases h), fun _ h => (by cases h), fun _ => rfl, rfl, by show 0 + 0 + 0 ≤ 4; decide⟩
      have hC : CB (kS S.c).P [(S.c, [1])] := .inl ⟨S.c, kS_P o.c0, hc, rfl⟩
      have hk : ∀ k, (kS S.c).P = [k] → Sz 1000 k := fun k hk => by
        rw [kS_P o.c0] at hk; cases hk; exact sc.mono (by omega)
      obtain ⟨g2, z2, l2⟩ := lin2_good sa sb
      have e2 : mul [1] (mul (lin a) (lin b)) = mul (lin a) (lin b) := one_mul' (Norm_mul _ _)
      refine ⟨1, mul (lin a) (lin b), (kS S.c).P, [(S.c, [1])], ?_, hC, SmL_CB hC, z2, by omega, sqFine_of hC hk (Norm_mul _ _) g2.ne z2 (by omega) (fun h => ?_) fun x => ?_⟩
      · refine split_step (T := ⟨1, some a, some b, none, 0, 0, 0⟩) (S3 := kS S.c) o s good_one (fun x => ?_) oT sT ?_ (Sh.good (kS_ok o.c0) s3) (fun x => by rw [eTF, ev_mul, ev_lin, ev_lin, vS, hkc]; grind) (by rw [eTF, e2]; exact split_end (kS_ok o.c0) s3 g2 rfl)
        · rw [ev_G]
          show 1 * (ev (lin a) x ^ 1 * (ev (lin b) x ^ 1 * ev (Qf none) x ^ 1)) = ev (Lf S.oa) x ^ S.i * (ev (Lf S.ob) x ^ S.j * ev (Qf S.oq) x ^ S.k)
          rw [ha, hb, hq, hi2, hj2, ev_qone_pow, ev_qone_pow]
          show _ = ev (lin a) x ^ 1 * (ev (lin b) x ^ 1 * 1)
          grind
        · rw [Sh.len_P (S := ⟨1, some a, some b, none, 0, 0, 0⟩) (show (1 : Rat) ≠ 0 by grind)]
          show 1 < (mul (pw (lin a) 1) (mul (pw (lin b) 1) (pw [1] 1))).length
          rw [pw_one, mul_one' ((Mo.lin b).pw 1).nm, ((Mo.lin a).pw 1).mul_len ((Mo.lin b).pw 1), len_pwLin, len_pwLin]; decide
      · rw [kS_P o.c0] at h; cases h
      · rw [Sh.ev_P, vS, ev_mul, ev_lin, ev_lin, Sh.ev_P, hkc]; grind
end NB

set_option Elab.async false
set_option linter.all false
set_option maxRecDepth 100000
set_option maxHeartbeats 4000000
namespace NB
open PySem PySem.Spec PyProof.Rows L2
/-! ### a curve above nought, lowered -/
def LessIn (P : Pl) : Prop := (∃ c, P = [c] ∧ 0 < c ∧ Sz 18 c) ∨ ∃ c b m, P = qP c b m ∧ 0 < c ∧ 0 < m ∧ Sz 18 c ∧ Sz 11 b ∧ Sz 14 m
theorem tak_const (c l : Rat) : (c = l ∧ tak [c] [l] = []) ∨ (c ≠ l ∧ tak [c] [l] = [c - l]) := by
  by_cases h : c = l
  · refine .inl ⟨h, ev_zero_of (Norm_tak _ _) fun x => ?_⟩
    rw [ev_tak, h]; grind
  · refine .inr ⟨h, ident (Norm_tak _ _) (Norm_one (by grind)) fun x => ?_⟩
    rw [ev_tak]; simp only [ev]; grind
theorem tak_qP {c b m l : Rat} (h : c ≠ 0) : tak (qP c b m) [l] = qP c b (m - l / c) := ident (Norm_tak _ _) (qP_Norm _ _ _) fun x => by
  rw [ev_tak, ev_qP, ev_qP]; simp only [ev]
  have : l / c * c = l := by grind
  grind
def twS (c a : Rat) : Sh := ⟨c, some a, none, none, 1, 0, 0⟩
theorem twS_ok {c a : Rat} (h : c ≠ 0) : (twS c a).Ok := by
  refine ⟨h, fun _ _ _ h => (by cases h), fun _ h => (by cases h), fun _ _ _ h => (by cases h), ?_⟩
  rw [Sh.len_P (S := twS c a) h]
  show (mul (pw (lin a) 2) (mul (pw [1] 1) (pw [1] 1))).length ≤ 5
  rw [pw_one, mul_one' Norm_1, mul_one' ((Mo.lin a).pw 2).nm, len_pwLin]; decide
theorem twS_small {c a : Rat} (h : Sz 20 c) (k : Sz 11 a) : (twS c a).Small :=
  ⟨h, fun _ e => (by cases e; exact k), fun _ e => (by cases e), fun _ e => (by cases e), fun _ => rfl, rfl, by show 1 + 1 + 0 + 0 ≤ 4; decide⟩
theorem twS_P {c b : Rat} : (twS c (-b)).P = qP c b 0 := ident (Sh.Norm_P _) (qP_Norm _ _ _) fun x => by
  rw [Sh.ev_P, ev_qP]
  show c * (ev (lin (-b)) x ^ 2 * (ev (Lf none) x ^ 1 * ev (Qf none) x ^ 1)) = _
  rw [ev_one_pow, ev_qone_pow, rp2, ev_lin]; grind
theorem qS_ok {c b m : Rat} (h : c ≠ 0) (hm : m ≠ 0) : (qS c b m).Ok := by
  refine ⟨h, fun _ _ h => (by cases h), fun q hq => (by cases hq; exact hm), fun _ _ h => (by rcases h with h | h <;> cases h), ?_⟩
  rw [qS_P, qP_len h]; decide
theorem qS_small {c b m : Rat} (sc : Sz 20 c) (sb : Sz 11 b) (sm : Sz 65 m) : (qS c b m).Small :=
  ⟨sc, fun _ h => (by cases h), fun _ h => (by cases h), fun q hq => (by cases hq; exact ⟨sb, sm, .inl rfl⟩), fun _ => rfl, rfl, by show 0 + 0 + 2 ≤ 4; decide⟩
theorem qP_onIn {c b m : Rat} (h : c ≠ 0) (sc : Sz 20 c) (sb : Sz 11 b) (sm : Sz 65 m) : ∃ F, OnIn (qP c b m) F := by
  by_cases hm : m = 0
  · subst hm
    rw [← twS_P]
    exact ⟨_, Sh.onIn (twS_ok h) (fun _ h => by cases h) (twS_small sc sb.neg)⟩
  · rw [← qS_P]
    by_cases hp : 0 < m
    · exact ⟨_, Sh.onIn (qS_ok h hm) (fun q hq => by cases hq; exact hp) (qS_small sc sb sm)⟩
    · exact ⟨_, Sh.Neg.onIn (b := b) (m := m) ⟨rfl, rfl, rfl, rfl, by grind⟩ (qS_ok h hm) (qS_small sc sb sm)⟩
theorem qP_sqIn {c b m : Rat} (h : 0 < c) (sc : Sz 19 c) (sb : Sz 11 b) (sm : Sz 65 m) (hnn : ∀ x, 0 ≤ ev (qP c b m) x) : SqIn (qP c b m) := by
  have hm0 : 0 ≤ m := by
    have := hnn (-b)
    rw [ev_qP] at this
    by_cases hm : 0 ≤ m
    · exact hm
    · have := Rat.mul_pos (show (0 : Rat) < -m by grind) h
      grind
  by_cases hm : m = 0
  · subst hm
    rw [← twS_P] at hnn ⊢
    exact sqIn_of (S := twS c (-b)) (twS_ok (by grind)) (fun _ h => by cases h) (twS_small (sc.mono (by omega)) sb.neg) sc fun x => by rw [← Sh.ev_P]; exact hnn x
  · rw [← qS_P] at hnn ⊢
    exact sqIn_of (S := qS c b m) (qS_ok (by grind) hm) (fun q hq => by cases hq; show 0 < m; grind) (qS_small (sc.mono (by omega)) sb sm) sc fun x => by rw [← Sh.ev_P]; exact hnn x
theorem const_sqIn {c : Rat} (h : 0 < c) (sc : Sz 1000 c) : SqIn [c] := by
  have hon := const_onIn (show c ≠ 0 by grind) sc
  obtain ⟨e, ⟨D, hD, _⟩, _⟩ := hon.mi.pw
  have hg := (kS_ok (show c ≠ 0 by grind)).gcd.1
  rw [kS_P (by grind)] at hg
  have e2 := hD.unique hg
  have hC : CB [c] [(c, [1])] := .inl ⟨c, rfl, h, rfl⟩
  refine ⟨0, [1], [c], [(c, [1])], .done good_one hon.mi.good hD ?_, hC, SmL_CB hC, SzL.one.mono (by omega), by show 1 ≤ 3; decide, sqFine_of hC (fun k hk => by cases hk; exact sc) Norm_1 (by simp) (SzL.one.mono (by omega)) (by show 1 ≤ 3; decide) (fun _ => by show 1 ≤ 2; decide) fun x => ?_⟩
  · rw [e2]
    show (mul (pw [1] 0) (mul (pw [1] 0) (pw (Qf none) 0))).length ≤ 1
    simp only [pw, mul_one' Norm_1]
    decide
  · simp only [ev]; grind
theorem less_onIn {P : Pl} {l : Rat} (h : LessIn P) (sl : Sz 32 l) : tak P [l] = [] ∨ ∃ F, OnIn (tak P [l]) F := by
  rcases h with ⟨c, rfl, c0, sc⟩ | ⟨c, b, m, rfl, c0, m0, sc, sb, sm⟩
  · rcases tak_const c l with ⟨_, e⟩ | ⟨hne, e⟩
    · exact .inl e
    · rw [e]; exact .inr ⟨_, const_onIn (by grind) ((sc.sub sl).mono (by omega))⟩
  · rw [tak_qP (by grind)]
    exact .inr (qP_onIn (by grind) (sc.mono (by omega)) sb ((sm.sub (sl.div sc)).mono (by omega)))
theorem less_sqIn {P : Pl} {l : Rat} (h : LessIn P) (sl : Sz 32 l) (hl : ∀ x, l ≤ ev P x) : tak P [l] = [] ∨ SqIn (tak P [l]) := by
  have hnn : ∀ x, 0 ≤ ev (tak P [l]) x := fun x => by
    have := hl x
    rw [ev_tak]; simp only [ev]; grind
  rcases h with ⟨c, rfl, c0, sc⟩ | ⟨c, b, m, rfl, c0, m0, sc, sb, sm⟩
  · rcases tak_const c l with ⟨_, e⟩ | ⟨hne, e⟩
    · exact .inl e
    · rw [e]
      have := hl 0
      simp only [ev] at this
      exact .inr (const_sqIn (by grind) ((sc.sub sl).mono (by omega)))
  · rw [tak_qP (by grind)] at hnn ⊢
    exact .inr (qP_sqIn c0 (sc.mono (by omega)) sb ((sm.sub (sl.div sc)).mono (by omega)) hnn)
def l16 (t : Nat) : Rat := (1 / 16 : Rat) ^ t
theorem l16_pos (t : Nat) : 0 < l16 t := pow_pos' (by grind) t
theorem l16_sz {t : Nat} (h : t ≤ 8) : Sz 32 (l16 t) := by
  have key : ∀ t : Nat, Sz (4 * t) (l16 t) := fun t => by
    induction t with
    | zero => unfold l16; rw [Rat.pow_zero]; exact .one _
    | succ t ih =>
      unfold l16 at *
      rw [Rat.pow_succ]
      have h16 : Sz 4 ((1 : Rat) / 16) := ((Sz.one 0).div (Sz.int (n := 4) (k := 16) (by decide))).mono (by omega)
      exact (ih.mul h16).mono (by omega)
  exact (key t).mono (by omega)
theorem l16_8 : l16 8 * (2 : Rat) ^ 32 = 1 := by unfold l16; decide +kernel
theorem less_low {P : Pl} (h : LessIn P) (x : Rat) : l16 8 ≤ ev P x := by
  have key : ∀ q : Rat, 0 < q → Sz 32 q → l16 8 ≤ q := fun q h0 hq => by
    have h1 := hq.ge h0
    have h2 := l16_8
    have h3 := Sh.two_pos 32
    generalize (2 : Rat) ^ 32 = T at *
    by_cases h : l16 8 ≤ q
    · exact h
    · have := Rat.mul_pos (show (0 : Rat) < l16 8 - q by grind) h3
      grind
  rcases h with ⟨c, rfl, c0, sc⟩ | ⟨c, b, m, rfl, c0, m0, sc, sb, sm⟩
  · have := key c c0 (sc.mono (by omega))
    simp only [ev]; grind
  · have h1 := key (m * c) (Rat.mul_pos m0 c0) ((sm.mul sc).mono (by omega))
    have h2 := Rat.mul_nonneg (sq_nn (x + b)) (Rat.le_of_lt c0)
    rw [ev_qP]; grind
theorem less_szs {P : Pl} (h : LessIn P) : SzL 2048 P ∧ P.length ≤ 3 := by
  rcases h with ⟨c, rfl, c0, sc⟩ | ⟨c, b, m, rfl, c0, m0, sc, sb, sm⟩
  · exact ⟨.cons (sc.mono (by omega)) (.nil _), by show 1 ≤ 3; decide⟩
  · exact ⟨(qP_sz ⟨c0, m0, sc.mono (by omega), sb, sm.mono (by omega)⟩).mono (by omega), by rw [qP_len (by grind)]; decide⟩
section
variable {P : Program} {w : World} {K : PySem.W.Frag} {mg : Str → Option Value} {base : Heap}
/-! ### some_less -/
def spSomeLess (K : PySem.W.Frag) : Sp := fun vs H Q _ => ∃ x P, vs = [x] ∧ Dp K H x (cD P) ∧ LessIn P ∧ ∀ t, t ≤ 8 → (∀ x, l16 t ≤ ev P x) → Gives K H (nD (l16 t)) Q
theorem sc82 : FnScope ["curve", "least"] ["curve"] (defScope (top 82)) := ⟨rfl, rfl, rfl, by decide +kernel, rfl, by decide +kernel, by decide +kernel⟩
theorem ok_some_less (F : Df K mg "some_less" 82) (k1 : KN K mg "ONE_squares" 1) (cN : Cal P w K mg base 45 "is_never_below" (spNeverBelow K)) (cTk : Cal P w K mg base 37 "taken" (spTaken K)) (cO : Cal P w K mg base 35 "over" (spOver K)) : Cal P w K mg base 46 "some_less" (spSomeLess K) := by
  refine F.cal sc82 (fun _ _ _ _ _ _ us hl => match us, hl with | [_], _ => rfl) (fun vs H Q E h => ?_) (fun f cdv A outer s H vs Q E hr h => ?_)
  · obtain ⟨_, _, rfl, _⟩ := h; rfl
  obtain ⟨x, p, rfl, hx, hin, q⟩ := h
  have hL := LIM_eq
  obtain ⟨szp, lp⟩ := less_szs hin
  obtain ⟨a1, hm1, h1⟩ := k1
  refine ⟨_, (pss_cons (ps_set (i := 1) sc82.nd rfl (.inl rfl) (pe_gc (v := .ref a1) (by rfl) ⟨_, hm1, rfl⟩))
    (pss_cons (ps_while PassesOwn.never (pt_not (pt_val (pe_c cN hr (by decide) (by rfl) (pa_cons (pe_c cTk hr (by decide) (by rfl) (pa_cons (pv 0) (pa_cons (pe_tup (pa_cons (pv 1) pa_nil)) pa_nil))) pa_nil)))) (pss_one (ps_set (i := 1) sc82.nd rfl (.inl rfl) (pe_c cO hr (by decide) (by rfl) (pa_cons (pv 1) (pa_cons (pe_tup (pa_cons (pe_int) (pa_cons (pe_int) pa_nil))) pa_nil))))))
    (pss_one (ps_ret (pv 1))))), ?_⟩
  refine ⟨fun n σ H1 => ∃ t vl, t ≤ 8 ∧ n = 8 - t ∧ σ = [some x, some vl] ∧ Same H H1 ∧ Num K H1 vl (l16 t), ⟨8, 0, _, by omega, by omega, rfl, .refl _, by unfold l16; rw [Rat.pow_zero]; exact h1 _⟩, fun n σ H1 hW => ?_⟩
  obtain ⟨t, vl, ht, rfl, rfl, s1, hvl⟩ := hW
  have slt := l16_sz ht
  refine ⟨_, rfl, _, rfl, by show 1 ≤ sizeLine; decide, fun t2 nt2 => ?_⟩
  have s2 := same_upd (o := .tup [vl]) nt2
  refine ⟨_, _, p, [l16 t], rfl, dp_mono (s1.trans s2) hx, .tup (SqT.of upd_same) (.cons (dp_mono s2 hvl) .nil), by omega, by show 1 ≤ 100; decide, fun a ha => (szp a ha).sm (by omega), fun a ha => ?_, fun H3 v3 s3 hv3 => ?_⟩
  · have : a = l16 t := by simpa using ha
    rw [this]; exact slt.sm (by omega)
  have hev : ∀ y, ev (tak p [l16 t]) y = ev p y - l16 t := fun y => by rw [ev_tak]; simp only [ev]; grind
  refine ⟨_, tak p [l16 t], rfl, hv3, less_onIn hin slt, fun hnn H4 s4 => ⟨_, rfl, iteF ?_⟩, fun hno H4 s4 => ⟨_, rfl, iteT ?_⟩⟩
  · exact ⟨_, rfl, q t ht (fun y => by have := hnn y; rw [hev] at this; grind) _ _ ((s1.trans s2).trans (s3.trans s4)) (dp_mono (s2.trans (s3.trans s4)) hvl)⟩
  · have ht8 : t < 8 := by
      rcases Nat.lt_or_ge t 8 with h | h
      · exact h
      · exfalso
        have e8 : t = 8 := by omega
        apply hno
        intro y
        have := less_low hin y
        rw [hev, e8]; grind
    have s14 := (s1.trans s2).trans (s3.trans s4)
    refine ⟨fun σ' H' => ∃ m', m' < 8 - t ∧ ∃ t' vl, t' ≤ 8 ∧ m' = 8 - t' ∧ σ' = [some x, some vl] ∧ Same H H' ∧ Num K H' vl (l16 t'), fun _ _ h => h, ?_⟩
    refine ⟨_, rfl, by show 2 ≤ sizeLine; decide, fun t5 nt5 => ?_⟩
    have s5 := same_upd (o := .tup [.int 16, .int 1]) nt5
    refine ⟨_, _, l16 t, 16, rfl, dp_mono ((s2.trans (s3.trans s4)).trans s5) hvl, num_of (SqT.of upd_same), ⟨⟨slt.sm (by omega), (Sz.int (n := 5) (k := 16) (by decide)).sm (by omega)⟩, by grind⟩, fun H6 v6 s6 hv6 => ?_⟩
    refine ⟨8 - (t + 1), by omega, t + 1, v6, by omega, rfl, rfl, (s14.trans s5).trans s6, ?_⟩
    have e : l16 (t + 1) = l16 t / 16 := by unfold l16; rw [Rat.pow_succ]; grind
    rw [e]; exact hv6
end
end NB

set_option Elab.async false
set_option linter.all false
set_option maxRecDepth 100000
set_option maxHeartbeats 4000000
namespace NB
open PySem PySem.Spec PyProof.Rows L2
/-- the curves that always is asked about -/
structure AlIn (S : Sh) : Prop where
  o : S.Ok
  p : S.Pos
  s : S.Small
  c : Sz 18 S.c
  q : ∀ q, S.oq = some q → Sz 14 q.2
theorem al_less {S : Sh} (h : AlIn S) (hp : ∀ x, 0 < ev S.P x) : LessIn S.P := by
  have ha : S.oa = none := by
    cases ha : S.oa with
    | none => rfl
    | some a =>
      exfalso
      have := hp a
      rw [Sh.ev_P, (Sh.val_zero h.o.c0 a).mpr (.inl (by unfold Sh.f; rw [ha]; simp only [Lf, ev_lin]; grind))] at this
      grind
  have hc := c_pos h.o h.p fun x => by rw [← Sh.ev_P]; exact Rat.le_of_lt (hp x)
  have e := Sh.P_none ha (h.s.nb ha) h.s.k0
  cases hq : S.oq with
  | none =>
    refine .inl ⟨S.c, ?_, hc, h.c⟩
    rw [e]; unfold Sh.h; rw [hq]
    show scl S.c [1] = _
    rw [scl_eq h.o.c0 Norm_1]
    show [1 * S.c] = _
    congr 1; grind
  | some q =>
    obtain ⟨s1, _, _⟩ := h.s.q q hq
    exact .inr ⟨S.c, q.1, q.2, by rw [e]; unfold Sh.h; rw [hq]; rfl, hc, h.p q hq, h.c, s1, h.q q hq⟩
theorem atI_0 {a : V} {vs : List V} : atI (a :: vs) 0 = some a := atI_nat (j := 0) rfl
section
variable {P : Program} {w : World} {K : PySem.W.Frag} {mg : Str → Option Value} {base : Heap}
def spAlways (K : PySem.W.Frag) : Sp := fun vs H Q _ => ∃ x S, vs = [x] ∧ Dp K H x (cD S.P) ∧ AlIn S ∧
  (∀ t, -(bnd S.P) ≤ t → t ≤ bnd S.P → ev S.P t < 0 → Sz 18446 t → Gives K H (.tuple [.str "below", nD t]) Q) ∧
  (∀ (L : List (Rat × Pl)) (s e : Rat), (∀ x, 0 ≤ ev S.P x) → SqFine L S.P → (∃ r, s ≤ r ∧ r ≤ e ∧ ev S.P r = 0) → -(bnd S.P) ≤ s → e ≤ bnd S.P → Sz 18446 s → Sz 18446 e → Gives K H (.tuple [.str "touches", .list (L.map wqD), nD s, nD e]) Q) ∧
  (∀ (l : Rat) (L : List (Rat × Pl)), 0 < l → (∀ x, l ≤ ev S.P x) → Sz 32 l → SqFine L (tak S.P [l]) → Gives K H (.tuple [.str "above", nD l, .list (L.map wqD)]) Q)
theorem sqFine_nil : SqFine [] [] := ⟨⟨fun _ h => (by simp at h), fun _ h => (by simp at h), by decide⟩, fun _ h => (by simp at h), fun x => rfl⟩
theorem sc83 : FnScope ["curve", "told", "least", "start", "end", "row"] ["curve"] (defScope (top 83)) := ⟨rfl, rfl, rfl, by decide +kernel, rfl, by decide +kernel, by decide +kernel⟩
theorem ok_always (F : Df K mg "always" 83) (cLk : Cal P w K mg base 33 "look_at" (spLookAt K)) (cO : Cal P w K mg base 44 "on_all" (spOnAll K)) (cSL : Cal P w K mg base 46 "some_less" (spSomeLess K)) (cSq : Cal P w K mg base 49 "squares_of" (spSqOf K CB)) (cTk : Cal P w K mg base 37 "taken" (spTaken K)) : Cal P w K mg base 50 "always" (spAlways K) := by
  refine F.cal sc83 (fun _ _ _ _ _ _ us hl => match us, hl with | [_], _ => rfl) (fun vs H Q E h => ?_) (fun f cdv A outer s H vs Q E hr h => ?_)
  · obtain ⟨_, _, rfl, _⟩ := h; rfl
  obtain ⟨x, S, rfl, hx, hin, q1, q2, q3⟩ := h
  have hL := LIM_eq
  have hon := Sh.onIn hin.o hin.p hin.s
  have g := hon.mi.good
  have h5 := g.l5
  refine ⟨_, (pss_cons (ps_expr (pe_c cLk hr (by decide) (by rfl) (pa_cons (pv 0) pa_nil)))
    (pss_cons (ps_if (pt_cmpR (op_eqD hr.units) (pv 0) (pe_tup pa_nil) (nomark _)) pss_never pss_nil)
    (pss_cons (ps_set (i := 1) sc83.nd rfl (.inl rfl) (pe_c cO hr (by decide) (by rfl) (pa_cons (pv 0) pa_nil)))
    (pss_cons (ps_if (pt_cmpR op_eq (pe_ix ix_tup (pv 1) pe_int (fun _ _ => rfl)) pe_str (nomark _)) (pss_one (ps_ret (pv 1))) pss_nil)
    (pss_cons (ps_if (pt_cmpR op_eq (pe_ix ix_tup (pv 1) pe_int (fun _ _ => rfl)) pe_str (nomark _)) (pss_cons (ps_set (i := 2) sc83.nd rfl (.inl rfl) (pe_c cSL hr (by decide) (by rfl) (pa_cons (pv 0) pa_nil)))
    (pss_one (ps_ret (pe_tup (pa_cons (pe_str) (pa_cons (pv 2) (pa_cons (pe_c cSq hr (by decide) (by rfl) (pa_cons (pe_c cTk hr (by decide) (by rfl) (pa_cons (pv 0) (pa_cons (pe_tup (pa_cons (pv 2) pa_nil)) pa_nil))) pa_nil)) pa_nil))))))) pss_nil)
    (pss_cons (ps_asg (pe_ix ix_list (pe_lc (own := [("row", 5)]) (g := gName 5) (tt := tTest (tOp rEq (tOp (rIxT K) (tVar 5) (tC (.int 0))) (tC (.str "place")))) rfl sc83.nd (pi_list (pe_ix (r := rIxT K) ix_tup (pv 1) pe_int (fun _ _ => rfl))) (blkOk_by (N := ["curve", "told", "least", "start", "end", "row"]) (sc := defScope (top 83)) (by decide +kernel))
      (fun _ _ _ _ _ => pg_name (i := 5) sc83.nd rfl (.inl rfl)) (fun _ _ _ _ _ => pts_one (pt_cmpR op_eq (pe_ix (r := rIxT K) ix_tup (pv 5) pe_int (fun _ _ => rfl)) pe_str (nomark _))) (fun _ _ _ _ _ => pe_tup (pa_cons (pe_ix (r := rIxT K) ix_tup (pv 5) pe_int (fun _ _ => rfl)) (pa_cons (pe_ix (r := rIxT K) ix_tup (pv 5) pe_int (fun _ _ => rfl)) pa_nil)))) pe_int (fun _ _ => rfl))
      (pg_tup (by rfl) (pgs_cons (pg_name (i := 3) sc83.nd rfl (.inl rfl)) (pgs_cons (pg_name (i := 4) sc83.nd rfl (.inl rfl)) pgs_nil))))
    (pss_one (ps_ret (pe_tup (pa_cons (pe_str) (pa_cons (pe_c cSq hr (by decide) (by rfl) (pa_cons (pv 0) pa_nil)) (pa_cons (pv 3) (pa_cons (pv 4) pa_nil))))))))))))), ?_⟩
  refine ⟨_, rfl, _, _, rfl, hx, h5, ?_⟩
  refine ⟨_, rfl, Nat.zero_le _, fun t0 nt0 => ⟨cD S.P, cD [], dp_mono (same_upd nt0) hx, .tup (SqT.of upd_same) .nil, cD_shaped _, cD_shaped [], _, rfl, ?_⟩⟩
  have s0 := same_upd (o := .tup []) nt0
  rw [cD_eqv]
  refine ite2 (fun e => absurd (of_decide_eq_true e) g.ne) (fun _ => ?_)
  refine ⟨_, rfl, _, S.P, S.F, rfl, dp_mono s0 hx, hon, fun t t1 t2 hneg st H1 v1 s1 hv1 => ?_, fun rows hcov hrs hrl hnn hbn hpl H1 v1 s1 hv1 => ?_, fun hpos rows H1 v1 s1 hv1 => ?_⟩
  · -- below
    have hv1' := hv1
    obtain ⟨a1, x1, y1, rfl, hs1, h1, _⟩ := tup2_inv hv1
    cases str_inv h1
    refine ⟨_, rfl, a1, _, 0, _, rfl, rfl, hs1, it2_0, rfl, _, rfl, ite2 (fun _ => ?_) (fun e => absurd (decide_eq_true rfl) e)⟩
    exact ⟨_, rfl, q1 t t1 t2 hneg st _ _ (s0.trans s1) hv1'⟩
  · -- touches
    obtain ⟨a1, x1, y1, rfl, hs1, h1, hy1⟩ := tup2_inv hv1
    cases str_inv h1
    have s01 := s0.trans s1
    refine ⟨_, rfl, a1, _, 0, _, rfl, rfl, hs1, it2_0, rfl, _, rfl, ite2 (fun e => absurd (V.str.inj (of_decide_eq_true e)) (by decide)) (fun _ => ?_)⟩
    refine ⟨_, rfl, a1, _, 0, _, rfl, rfl, hs1, it2_0, rfl, _, rfl, ite2 (fun e => absurd (V.str.inj (of_decide_eq_true e)) (by decide)) (fun _ => ?_)⟩
    cases hy1 with
    | @lst yd vs _ hys hyn =>
    have hvl := dpa_len hyn
    rw [List.length_map] at hvl
    refine ⟨_, rfl, a1, _, 1, _, rfl, rfl, hs1, it1, yd, rfl, ⟨_, hys⟩, fun D dn => lc_list (K := K) (a := yd) (xs := vs) (fun i H2 => Same H1 H2 ∧ ∃ acc, H2 D = some (.lst acc) ∧ DpAll K H2 acc (((rows.take i).filter fun r => r.place).map fun r => abD (r.s, r.e))) ⟨same_upd dn, [], upd_same, .nil⟩ (fun i H2 _ h => h.1.seq hys) (fun i z H2 hz h => ?_) (fun H2 h => ?_)⟩
    · obtain ⟨s2, acc, e1, hacc⟩ := h
      obtain ⟨hi, hz2⟩ := rowD_get hyn hz
      obtain ⟨t, a, b, l, rfl, hs, ha, hb⟩ := rowD_inv (dp_mono s2 hz2)
      have hal := dpa_len hacc
      have hlt : acc.length ≤ 150000 := by
        rw [hal, List.length_map]
        refine Nat.le_trans (List.length_filter_le _ _) ?_
        rw [List.length_take]; omega
      refine ⟨rfl, _, rfl, t, _, 0, _, rfl, rfl, hs, it4_0, rfl, _, rfl, ?_⟩
      rw [List.take_add_one, List.getElem?_eq_getElem hi]
      simp only [Option.toList, List.filter_append]
      cases hp : rows[i].place with
      | true =>
        have e : decide (V.str (rowW rows[i]) = V.str "place") = true := decide_eq_true (by unfold rowW; rw [if_pos hp])
        refine (show (if (decide (V.str (rowW rows[i]) = V.str "place")) = true then _ else _) from ?_)
        rw [if_pos e]
        refine ⟨_, rfl, t, _, 1, a, rfl, rfl, hs, rfl, _, rfl, t, _, 2, b, rfl, rfl, hs, rfl, by show 2 ≤ sizeLine; decide, fun t3 nt3 => ?_⟩
        have s3 := same_upd (o := .tup [a, b]) nt3
        have e3 := s3 _ _ e1
        have hd : Dp K (upd H2 t3 (.tup [a, b])) (.ref t3) (abD (rows[i].s, rows[i].e)) := .tup (SqT.of upd_same) (.cons (dp_mono s3 ha) (.cons (dp_mono s3 hb) .nil))
        have hnab : ∀ r : Row, nl (abD (r.s, r.e)) = true := fun r => by simp only [abD, nl, nls, nl_nD, Bool.and_self]
        refine ⟨acc, e3, line_mid (by omega), same_set (s2.trans s3) dn, _, upd_same, ?_⟩
        rw [List.map_append, List.filter_cons, if_pos hp]
        refine dpa_app (dpa_keep e3 (dpa_mono s3 hacc) (nls_all fun d hd => ?_)) (.cons (dp_keep e3 hd (hnab _)) .nil)
        obtain ⟨r, _, rfl⟩ := List.mem_map.mp hd
        exact hnab r
      | false =>
        have e : ¬ decide (V.str (rowW rows[i]) = V.str "place") = true := fun z => by
          have z := of_decide_eq_true z
          unfold rowW at z
          rw [hp] at z
          exact absurd (V.str.inj z) (by decide)
        refine (show (if (decide (V.str (rowW rows[i]) = V.str "place")) = true then _ else _) from ?_)
        rw [if_neg e]
        refine ⟨s2, acc, e1, ?_⟩
        rw [List.filter_cons, if_neg (by rw [hp]; decide), List.filter_nil, List.append_nil]
        exact hacc
    · obtain ⟨s2, acc, e1, hacc⟩ := h
      rw [List.take_of_length_le (by omega)] at hacc
      cases hfl : rows.filter fun r => r.place with
      | nil =>
        exfalso
        obtain ⟨r, h1, h2⟩ := hpl
        have : r ∈ rows.filter fun r => r.place := List.mem_filter.mpr ⟨h1, h2⟩
        rw [hfl] at this; simp at this
      | cons r0 rest =>
        rw [hfl] at hacc
        have hmem : r0 ∈ rows.filter fun r => r.place := by rw [hfl]; exact List.mem_cons_self
        obtain ⟨hr1, hr2⟩ := List.mem_filter.mp hmem
        have hacc : DpAll K H2 acc (abD (r0.s, r0.e) :: rest.map fun r => abD (r.s, r.e)) := hacc
        cases hacc with
        | @cons v0 _ vs0 _ hv0 _ =>
        obtain ⟨t3, a, b, rfl, hs3, ha, hb⟩ := tup2_inv hv0
        refine ⟨D, _, 0, _, rfl, rfl, SqL.of e1, atI_0, ?_⟩
        refine ⟨_, _, rfl, hs3, rfl, _, _, rfl, _, _, rfl, rfl, ?_⟩
        have s02 := s01.trans s2
        obtain ⟨n, r, p', L, hrun, hC, hsm, sr, lr, hfine⟩ := sqIn_of hin.o hin.p hin.s (hin.c.mono (by omega)) fun x => by rw [← Sh.ev_P]; exact hnn x
        refine ⟨_, rfl, _, S.P, rfl, dp_mono s02 hx, .inr ⟨n, r, p', L, hrun, hC, hsm, sr, lr, fun H3 v3 s3 hv3 => ?_⟩⟩
        refine ⟨_, rfl, _, rfl, by show 4 ≤ sizeLine; decide, fun t4 nt4 => ?_⟩
        have s4 := same_upd (o := .tup [.str "touches", v3, a, b]) nt4
        obtain ⟨x0, hx1, hx2, hx3⟩ := hcov.row_root hon.mi.kit hbn hr1 hr2
        have hrg := hcov.rg r0 hr1
        have hrz := hrs r0 hr1
        exact q2 _ r0.s r0.e hnn hfine ⟨x0, hx1, hx2, hx3⟩ hrg.1 hrg.2.2 hrz.1 hrz.2.1 _ _ ((s02.trans s3).trans s4) (.tup (SqT.of upd_same) (.cons (.str _) (.cons (dp_mono s4 hv3) (.cons (dp_mono (s3.trans s4) ha) (.cons (dp_mono (s3.trans s4) hb) .nil)))))
  · -- above
    obtain ⟨a1, x1, y1, rfl, hs1, h1, _⟩ := tup2_inv hv1
    cases str_inv h1
    have s01 := s0.trans s1
    have hless := al_less hin hpos
    refine ⟨_, rfl, a1, _, 0, _, rfl, rfl, hs1, it2_0, rfl, _, rfl, ite2 (fun e => absurd (V.str.inj (of_decide_eq_true e)) (by decide)) (fun _ => ?_)⟩
    refine ⟨_, rfl, a1, _, 0, _, rfl, rfl, hs1, it2_0, rfl, _, rfl, ite2 (fun _ => ?_) (fun e => absurd (decide_eq_true rfl) e)⟩
    refine ⟨_, rfl, _, S.P, rfl, dp_mono s01 hx, hless, fun t ht hlow H2 v2 s2 hv2 => ?_⟩
    have s02 := s01.trans s2
    have slt := l16_sz ht
    refine ⟨_, rfl, _, rfl, _, rfl, by show 1 ≤ sizeLine; decide, fun t3 nt3 => ?_⟩
    have s3 := same_upd (o := .tup [v2]) nt3
    obtain ⟨szp, lp⟩ := less_szs hless
    refine ⟨_, _, S.P, [l16 t], rfl, dp_mono (s02.trans s3) hx, .tup (SqT.of upd_same) (.cons (dp_mono s3 hv2) .nil), by omega, by show 1 ≤ 100; decide, fun a ha => (szp a ha).sm (by omega), fun a ha => ?_, fun H4 v4 s4 hv4 => ?_⟩
    · have : a = l16 t := by simpa using ha
      rw [this]; exact slt.sm (by omega)
    have s04 := (s02.trans s3).trans s4
    have fin : ∀ L, SqFine L (tak S.P [l16 t]) → ∀ H5 v5, Same H4 H5 → Dp K H5 v5 (.list (L.map wqD)) → _ := fun L hf H5 v5 s5 hv5 =>
      (⟨by show 3 ≤ sizeLine; decide, fun t6 nt6 => q3 (l16 t) L (l16_pos t) hlow slt hf _ _ ((s04.trans s5).trans (same_upd nt6)) (.tup (SqT.of upd_same) (.cons (.str _) (.cons (dp_mono ((s3.trans (s4.trans s5)).trans (same_upd nt6)) hv2) (.cons (dp_mono (same_upd nt6) hv5) .nil))))⟩ : (3 ≤ sizeLine ∧ ∀ t6, H5 t6 = none → Q (.ref t6) (upd H5 t6 (.tup [.str "above", v2, v5]))))
    refine ⟨_, tak S.P [l16 t], rfl, hv4, ?_⟩
    rcases less_sqIn hless slt hlow with e0 | ⟨n, r, p', L, hrun, hC, hsm, sr, lr, hfine⟩
    · exact .inl ⟨e0, fun H5 v5 s5 hv5 => fin [] (by rw [e0]; exact sqFine_nil) H5 v5 s5 hv5⟩
    · exact .inr ⟨n, r, p', L, hrun, hC, hsm, sr, lr, fun H5 v5 s5 hv5 => fin _ hfine H5 v5 s5 hv5⟩
end
end NB

set_option Elab.async false
set_option linter.all false
set_option maxRecDepth 100000
set_option maxHeartbeats 4000000
namespace NB
open PySem PySem.Spec PyProof.Rows L2
theorem cm_of {i j : Int} (h : i.natAbs ≤ 2 ^ 200) (k : j.natAbs ≤ 2 ^ 200) : CMulP i j := by
  have : (2 : Nat) ^ 200 ≤ 2 ^ LIM := Nat.pow_le_pow_right (by decide) (by rw [LIM_eq]; decide)
  exact ⟨Nat.le_trans h this, Nat.le_trans k this⟩
theorem fmod_rg {i j : Int} (h : 0 < j) : 0 ≤ i.fmod j ∧ i.fmod j < j := by
  rw [Int.fmod_eq_emod_of_nonneg _ (by omega)]
  exact ⟨Int.emod_nonneg _ (by omega), Int.emod_lt_of_pos _ h⟩
section
variable {P : Program} {w : World} {K : PySem.W.Frag} {mg : Str → Option Value} {base : Heap}
/-! ### the law's draws -/
def spDrawn (K : PySem.W.Frag) : Sp := fun vs H Q _ => ∃ (a : Addr) (ns : List Int) (k n : Nat), vs = [.ref a, .int k, .int n] ∧ SqL K H a (ns.map V.int) ∧ k ≤ 1000 ∧ 0 < n ∧ ∀ i : Nat, i < n → Q (.int i) H
theorem sc85 : FnScope ["_law_script", "_law_k", "_law_size", "_law_drawn_here"] ["_law_script", "_law_k", "_law_size"] (defScope (top 85)) := ⟨rfl, rfl, rfl, by decide +kernel, rfl, by decide +kernel, by decide +kernel⟩
theorem ok_law_drawn (F : Df K mg "_law_drawn" 85) (B : Bl mg) : Cal P w K mg base 33 "_law_drawn" (spDrawn K) := by
  refine F.cal sc85 (fun _ _ _ _ _ _ us hl => match us, hl with | [_, _, _], _ => rfl) (fun vs H Q E h => ?_) (fun f cdv A outer s H vs Q E hr h => ?_)
  · obtain ⟨_, _, _, _, rfl, _⟩ := h; rfl
  obtain ⟨a, ns, k, n, rfl, hs, hk, hn, q⟩ := h
  refine ⟨_, (pss_cons (ps_set (i := 3) sc85.nd rfl (.inl rfl) (pe_op op_add (pe_op op_mulP (pe_op op_mulP pe_int (pv 1)) (pv 1)) pe_int))
    (C8.pss_cut (ps_if (pt_cmpR op_gt (pe_callB call_len_seq (by rfl) B.len PySem.boot_len (pa_cons (pv 0) pa_nil)) pe_int (nomark _)) (pss_one (ps_set (i := 3) sc85.nd rfl (.inl rfl) (pe_op op_add (pv 3) (pe_op op_mulP (pe_op op_modN (pe_ix ix_list (pv 0) (pe_op op_modN (pv 1) (pe_callB call_len_seq (by rfl) B.len PySem.boot_len (pa_cons (pv 0) pa_nil))) (fun _ _ => rfl)) (pe_op op_pow pe_int pe_int)) (pe_op op_add (pe_op op_mulP pe_int (pv 1)) pe_int))))) pss_nil)
    (pss_one (ps_ret (pe_op op_modN (pe_op op_fdivN (pe_op op_modN (pv 3) pe_int) pe_int) (pv 2)))))), ?_⟩
  have hk2 : ((k : Int)).natAbs ≤ 2 ^ 200 := Nat.le_trans (by omega : ((k : Int)).natAbs ≤ 1000) (by decide)
  refine ⟨_, rfl, _, _, rfl, rfl, cm_of (by decide) hk2, _, rfl, _, _, rfl, rfl, cm_of ?_ hk2, _, _, rfl, rfl, ?_⟩
  · exact Nat.le_trans (by omega : (104729 * (k : Int)).natAbs ≤ 104729000) (by decide)
  refine ⟨fun σ' H' => H' = H ∧ ∃ z : Int, σ' = [some (.ref a), some (.int (k : Nat)), some (.int (n : Nat)), some (.int z)], ?_, fun σ' H' h => ?_⟩
  · refine ⟨_, rfl, a, _, rfl, .inl hs, _, _, rfl, rfl, _, rfl, ite2 (fun e => ?_) (fun _ => ⟨rfl, _, rfl⟩)⟩
    have e : (0 : Int) < (((ns.map V.int).length : Nat) : Int) := of_decide_eq_true e
    have hl : (ns.map V.int).length = ns.length := List.length_map _
    have hlt : k % ns.length < ns.length := Nat.mod_lt _ (by omega)
    have ei : ((k : Nat) : Int).fmod (((ns.map V.int).length : Nat) : Int) = ((k % ns.length : Nat) : Int) := by
      rw [hl, Int.fmod_eq_emod_of_nonneg _ (by omega)]
      rfl
    refine ⟨_, rfl, _, rfl, _, rfl, _, rfl, a, _, rfl, .inl hs, _, _, rfl, rfl, by omega, a, _, _, .int ns[k % ns.length], rfl, rfl, hs, ?_, ?_⟩
    · rw [ei]
      exact atI_nat (by rw [List.getElem?_map, List.getElem?_eq_getElem hlt]; rfl)
    refine ⟨_, _, rfl, rfl, ⟨by decide, by decide, by decide⟩, _, _, rfl, rfl, (show (10 : Int) ^ (40 : Int).toNat ≠ 0 by decide), _, rfl, _, _, rfl, rfl, cm_of (by decide) hk2, _, _, rfl, rfl, _, _, rfl, rfl, cm_of ?_ ?_, _, _, rfl, rfl, rfl, _, rfl⟩
    · have h1 := fmod_rg (i := ns[k % ns.length]) (j := (10 : Int) ^ (40 : Int).toNat) (by decide)
      have h2 : (10 : Int) ^ (40 : Int).toNat ≤ 2 ^ 200 := by decide
      have h3 : (2 : Int) ^ 200 = ((2 ^ 200 : Nat) : Int) := by decide
      omega
    · exact Nat.le_trans (by omega : (2 * (k : Int) + 69621).natAbs ≤ 80000) (by decide)
  · obtain ⟨rfl, z, rfl⟩ := h
    have h1 := fmod_rg (i := ((z.fmod 2147483647).fdiv 3)) (j := ((n : Nat) : Int)) (by omega)
    refine ⟨_, rfl, _, _, rfl, rfl, (show (2147483647 : Int) ≠ 0 by decide), _, _, rfl, rfl, ⟨(show (3 : Int) ≠ 0 by decide), (show (3 : Int).natAbs < 1073741824 by decide)⟩, _, rfl, _, _, rfl, rfl, (show ((n : Nat) : Int) ≠ 0 by omega), ?_⟩
    have e : ((z.fmod 2147483647).fdiv 3).fmod ((n : Nat) : Int) = ((((z.fmod 2147483647).fdiv 3).fmod ((n : Nat) : Int)).toNat : Int) := by omega
    show Q (.int (((z.fmod 2147483647).fdiv 3).fmod ((n : Nat) : Int))) H'
    rw [e]
    exact q _ (by omega)
/-! ### _law_number, _law_stretch, _law_about -/
def spLawNumber (K : PySem.W.Frag) : Sp := fun vs H Q _ => ∃ (a : Addr) (ns : List Int) (k : Nat), vs = [.ref a, .int k] ∧ SqL K H a (ns.map V.int) ∧ k ≤ 900 ∧ ∀ q, Sz 3 q → Gives K H (nD q) Q
theorem sc86 : FnScope ["_law_script", "_law_k", "_law_top"] ["_law_script", "_law_k"] (defScope (top 86)) := ⟨rfl, rfl, rfl, by decide +kernel, rfl, by decide +kernel, by decide +kernel⟩
theorem ok_law_number (F : Df K mg "_law_number" 86) (cD' : Cal P w K mg base 33 "_law_drawn" (spDrawn K)) (cN : Cal P w K mg base 34 "number" (spNumber K)) : Cal P w K mg base 35 "_law_number" (spLawNumber K) := by
  refine F.cal sc86 (fun _ _ _ _ _ _ us hl => match us, hl with | [_, _], _ => rfl) (fun vs H Q E h => ?_) (fun f cdv A outer s H vs Q E hr h => ?_)
  · obtain ⟨_, _, _, rfl, _⟩ := h; rfl
  obtain ⟨a, ns, k, rfl, hs, hk, q⟩ := h
  refine ⟨_, (pss_cons (ps_set (i := 2) sc86.nd rfl (.inl rfl) (pe_op op_sub (pe_c cD' hr (by decide) (by rfl) (pa_cons (pv 0) (pa_cons (pv 1) (pa_cons (pe_int) pa_nil)))) pe_int))
    (pss_one (ps_ret (pe_c cN hr (by decide) (by rfl) (pa_cons (pv 2) (pa_cons (pe_ix ix_list (pe_lst (pa_cons (pe_int) (pa_cons (pe_int) (pa_cons (pe_int) (pa_cons (pe_int) (pa_cons (pe_int) (pa_cons (pe_int) (pa_cons (pe_int) (pa_cons (pe_int) pa_nil))))))))) (pe_c cD' hr (by decide) (by rfl) (pa_cons (pv 0) (pa_cons (pe_op op_add (pv 1) pe_int) (pa_cons (pe_int) pa_nil)))) (fun _ _ => rfl)) pa_nil)))))), ?_⟩
  refine ⟨_, rfl, _, rfl, a, ns, k, 13, rfl, hs, by omega, by omega, fun i hi => ?_⟩
  refine ⟨_, _, rfl, rfl, ?_⟩
  refine ⟨_, rfl, by show 8 ≤ sizeLine; decide, fun l nl => ?_⟩
  have s1 := same_upd (o := .lst [.int 1, .int 1, .int 2, .int 3, .int 4, .int 6, .int 1, .int 5]) nl
  refine ⟨_, rfl, _, rfl, _, _, rfl, rfl, a, ns, k + 1, 8, ?_, s1.seq hs, by omega, by omega, fun j hj => ?_⟩
  · show [V.ref a, V.int ((k : Int) + 1), V.int 8] = _
    rw [show (k : Int) + 1 = ((k + 1 : Nat) : Int) by omega]; rfl
  obtain ⟨b, hb, hb1, hb2⟩ : ∃ b : Int, [V.int 1, V.int 1, V.int 2, V.int 3, V.int 4, V.int 6, V.int 1, V.int 5][j]? = some (V.int b) ∧ 1 ≤ b ∧ b ≤ 6 := by
    have : j = 0 ∨ j = 1 ∨ j = 2 ∨ j = 3 ∨ j = 4 ∨ j = 5 ∨ j = 6 ∨ j = 7 := by omega
    rcases this with rfl | rfl | rfl | rfl | rfl | rfl | rfl | rfl <;> exact ⟨_, rfl, by decide, by decide⟩
  refine ⟨l, _, _, _, rfl, rfl, SqL.of upd_same, atI_nat hb, _, b, rfl, by omega, fun H2 v2 s2 hv2 => q _ (.divInt ?_ ?_) _ _ (s1.trans s2) hv2⟩
  · show ((i : Int) - 6).natAbs ≤ 8
    omega
  · show b.natAbs ≤ 8
    omega
def spLawStretch (K : PySem.W.Frag) : Sp := fun vs H Q _ => ∃ (a : Addr) (ns : List Int) (k : Nat), vs = [.ref a, .int k] ∧ SqL K H a (ns.map V.int) ∧ k ≤ 800 ∧ ∀ lo hi, lo < hi → Sz 8 lo → Sz 8 hi → Gives K H (.tuple [nD lo, nD hi]) Q
theorem sc88 : FnScope ["_law_script", "_law_k", "_law_low"] ["_law_script", "_law_k"] (defScope (top 88)) := ⟨rfl, rfl, rfl, by decide +kernel, rfl, by decide +kernel, by decide +kernel⟩
theorem divInt_pos {t b : Int} (ht : 0 < t) (hb : 0 < b) : 0 < Rat.divInt t b := by
  rw [Rat.divInt_eq_div]
  exact rat_div_pos (by
    have : ((0 : Int) : Rat) < (t : Rat) := Rat.intCast_lt_intCast.mpr ht
    exact this) (by
    have : ((0 : Int) : Rat) < (b : Rat) := Rat.intCast_lt_intCast.mpr hb
    exact this)
theorem ok_law_stretch (F : Df K mg "_law_stretch" 88) (cLn : Cal P w K mg base 35 "_law_number" (spLawNumber K)) (cD' : Cal P w K mg base 33 "_law_drawn" (spDrawn K)) (cN : Cal P w K mg base 34 "number" (spNumber K)) (cP : Cal P w K mg base 35 "plus" (spPlus K)) : Cal P w K mg base 36 "_law_stretch" (spLawStretch K) := by
  refine F.cal sc88 (fun _ _ _ _ _ _ us hl => match us, hl with | [_, _], _ => rfl) (fun vs H Q E h => ?_) (fun f cdv A outer s H vs Q E hr h => ?_)
  · obtain ⟨_, _, _, rfl, _⟩ := h; rfl
  obtain ⟨a, ns, k, rfl, hs, hk, q⟩ := h
  have hL := LIM_eq
  refine ⟨_, (pss_cons (ps_set (i := 2) sc88.nd rfl (.inl rfl) (pe_c cLn hr (by decide) (by rfl) (pa_cons (pv 0) (pa_cons (pv 1) pa_nil))))
    (pss_one (ps_ret (pe_tup (pa_cons (pv 2) (pa_cons (pe_c cP hr (by decide) (by rfl) (pa_cons (pv 2) (pa_cons (pe_c cN hr (by decide) (by rfl) (pa_cons (pe_op op_add pe_int (pe_c cD' hr (by decide) (by rfl) (pa_cons (pv 0) (pa_cons (pe_op op_add (pv 1) pe_int) (pa_cons (pe_int) pa_nil))))) (pa_cons (pe_ix ix_list (pe_lst (pa_cons (pe_int) (pa_cons (pe_int) (pa_cons (pe_int) (pa_cons (pe_int) pa_nil))))) (pe_c cD' hr (by decide) (by rfl) (pa_cons (pv 0) (pa_cons (pe_op op_add (pv 1) pe_int) (pa_cons (pe_int) pa_nil)))) (fun _ _ => rfl)) pa_nil))) pa_nil))) pa_nil)))))), ?_⟩
  refine ⟨_, rfl, _, rfl, a, ns, k, rfl, hs, by omega, fun lo slo H1 v1 s1 hv1 => ?_⟩
  refine ⟨_, rfl, _, rfl, _, rfl, _, rfl, _, _, rfl, rfl, a, ns, k + 3, 12, ?_, s1.seq hs, by omega, by omega, fun i hi => ?_⟩
  · show [V.ref a, V.int ((k : Int) + 3), V.int 12] = _
    rw [show (k : Int) + 3 = ((k + 3 : Nat) : Int) by omega]; rfl
  refine ⟨_, _, rfl, rfl, by show 4 ≤ sizeLine; decide, fun l nl => ?_⟩
  have s2 := same_upd (o := .lst [.int 1, .int 1, .int 2, .int 5]) nl
  refine ⟨_, rfl, _, rfl, _, _, rfl, rfl, a, ns, k + 4, 4, ?_, (s1.trans s2).seq hs, by omega, by omega, fun j hj => ?_⟩
  · show [V.ref a, V.int ((k : Int) + 4), V.int 4] = _
    rw [show (k : Int) + 4 = ((k + 4 : Nat) : Int) by omega]; rfl
  obtain ⟨b, hb, hb1, hb2⟩ : ∃ b : Int, [V.int 1, V.int 1, V.int 2, V.int 5][j]? = some (V.int b) ∧ 1 ≤ b ∧ b ≤ 6 := by
    have : j = 0 ∨ j = 1 ∨ j = 2 ∨ j = 3 := by omega
    rcases this with rfl | rfl | rfl | rfl <;> exact ⟨_, rfl, by decide, by decide⟩
  refine ⟨l, _, _, _, rfl, rfl, SqL.of upd_same, atI_nat hb, 1 + (i : Int), b, rfl, by omega, fun H3 v3 s3 hv3 => ?_⟩
  have sd : Sz 4 (Rat.divInt (1 + (i : Int)) b) := .divInt (by show (1 + (i : Int)).natAbs ≤ 16; omega) (by show b.natAbs ≤ 16; omega)
  have hd0 := divInt_pos (show 0 < 1 + (i : Int) by omega) (show 0 < b by omega)
  refine ⟨_, _, lo, _, rfl, dp_mono (s2.trans s3) hv1, hv3, ⟨slo.sm (by omega), sd.sm (by omega)⟩, fun H4 v4 s4 hv4 => ?_⟩
  refine ⟨by show 2 ≤ sizeLine; decide, fun t5 nt5 => ?_⟩
  have s5 := same_upd (o := .tup [v1, v4]) nt5
  have s25 := ((s2.trans s3).trans s4).trans s5
  exact q lo (lo + Rat.divInt (1 + (i : Int)) b) (by grind) (slo.mono (by omega)) ((slo.add sd).mono (by omega)) _ _ (s1.trans s25) (.tup (SqT.of upd_same) (.cons (dp_mono s25 hv1) (.cons (dp_mono s5 hv4) .nil)))
def spLawAbout (K : PySem.W.Frag) : Sp := fun vs H Q _ => ∃ x y t d, vs = [x, y] ∧ Num K H x t ∧ Num K H y d ∧ Sm t ∧ Sm d ∧ Gives K H (.tuple [nD (t - d), nD (t + d)]) Q
theorem sc90 : FnScope ["_law_place", "_law_width"] ["_law_place", "_law_width"] (defScope (top 90)) := ⟨rfl, rfl, rfl, by decide +kernel, rfl, by decide +kernel, by decide +kernel⟩
theorem ok_law_about (F : Df K mg "_law_about" 90) (cMi : Cal P w K mg base 35 "minus" (spMinus K)) (cP : Cal P w K mg base 35 "plus" (spPlus K)) : Cal P w K mg base 36 "_law_about" (spLawAbout K) := by
  refine F.cal sc90 (fun _ _ _ _ _ _ us hl => match us, hl with | [_, _], _ => rfl) (fun vs H Q E h => ?_) (fun f cdv A outer s H vs Q E hr h => ?_)
  · obtain ⟨_, _, _, _, rfl, _⟩ := h; rfl
  obtain ⟨x, y, t, d, rfl, hx, hy, st, sd, q⟩ := h
  refine ⟨_, (pss_one (ps_ret (pe_tup (pa_cons (pe_c cMi hr (by decide) (by rfl) (pa_cons (pv 0) (pa_cons (pv 1) pa_nil))) (pa_cons (pe_c cP hr (by decide) (by rfl) (pa_cons (pv 0) (pa_cons (pv 1) pa_nil))) pa_nil))))), ?_⟩
  refine ⟨_, rfl, _, rfl, _, _, t, d, rfl, hx, hy, ⟨st, sd⟩, fun H1 v1 s1 hv1 => ?_⟩
  refine ⟨_, rfl, _, rfl, _, _, t, d, rfl, dp_mono s1 hx, dp_mono s1 hy, ⟨st, sd⟩, fun H2 v2 s2 hv2 => ?_⟩
  refine ⟨by show 2 ≤ sizeLine; decide, fun t3 nt3 => ?_⟩
  have s3 := same_upd (o := .tup [v1, v2]) nt3
  exact q _ _ ((s1.trans s2).trans s3) (.tup (SqT.of upd_same) (.cons (dp_mono (s2.trans s3) hv1) (.cons (dp_mono s3 hv2) .nil)))
end
end NB

set_option Elab.async false
set_option linter.all false
set_option maxRecDepth 100000
set_option maxHeartbeats 4000000
namespace NB
namespace Sh
/-- the degree -/
def dg (S : Sh) : Nat := (if S.oa = none then 0 else S.i + 1) + (if S.ob = none then 0 else S.j + 1) + (if S.oq = none then 0 else 2)
theorem len_pwLf (o : Option Rat) (n : Nat) : (pw (Lf o) n).length = (if o = none then 0 else n) + 1 := by
  cases o with
  | none => rw [Lf, pw_one]; rfl
  | some a => rw [Lf, len_pwLin, if_neg (by simp)]
theorem P_len {S : Sh} (hc : S.c ≠ 0) (hk : S.k = 0) : S.P.length = S.dg + 1 := by
  have e1 : pw S.h (S.k + 1) = S.h := by rw [hk]; exact pw_1 S.nmh
  have e2 : S.h.length = (if S.oq = none then 0 else 2) + 1 := by
    unfold h
    cases S.oq with
    | none => rfl
    | some q => rw [if_neg (by simp)]; rfl
  rw [len_P hc, e1]
  show (mul (pw (Lf S.oa) (S.i + 1)) (mul (pw (Lf S.ob) (S.j + 1)) S.h)).length = _
  have m2 : Mo S.h := Mo.Qf S.oq
  rw [((Mo.Lf S.oa).pw _).mul_len (((Mo.Lf S.ob).pw _).mul m2), ((Mo.Lf S.ob).pw _).mul_len m2, len_pwLf, len_pwLf, e2]
  unfold dg
  omega
/-- the law's curves -/
structure Base (S : Sh) : Prop where
  c0 : S.c ≠ 0
  c : Sz 2 S.c
  a : ∀ a, S.oa = some a → Sz 3 a
  b : ∀ b, S.ob = some b → Sz 3 b
  ab : ∀ a b, S.oa = some a → S.ob = some b → a ≠ b
  q : ∀ q, S.oq = some q → 0 < q.2 ∧ Sz 3 q.1 ∧ Sz 6 q.2
  nb : S.oa = none → S.ob = none
  k0 : S.k = 0
  deg : S.dg ≤ 4
/-- moved and stretched -/
def aff (S : Sh) (k cc : Rat) : Sh := ⟨S.c / k ^ S.dg, S.oa.map fun a => cc + k * a, S.ob.map fun b => cc + k * b, S.oq.map fun q => (k * q.1 - cc, k * k * q.2), S.i, S.j, S.k⟩
theorem map_none {α β : Type} {o : Option α} {f : α → β} : (o.map f = none) = (o = none) := by cases o <;> simp
theorem dg_aff (S : Sh) (k cc : Rat) : (S.aff k cc).dg = S.dg := by
  unfold dg aff
  simp only [map_none]
theorem lf_aff {k : Rat} (hk : k ≠ 0) (cc x : Rat) (o : Option Rat) (n : Nat) : ev (Lf (o.map fun a => cc + k * a)) x ^ n = k ^ (if o = none then 0 else n) * ev (Lf o) ((x - cc) / k) ^ n := by
  cases o with
  | none =>
    show ev (Lf none) x ^ n = k ^ 0 * ev (Lf none) _ ^ n
    rw [ev_one_pow, ev_one_pow, Rat.pow_zero]; grind
  | some a =>
    rw [if_neg (by simp), ← rpow_mul]
    show ev (lin (cc + k * a)) x ^ n = (k * ev (lin a) ((x - cc) / k)) ^ n
    rw [ev_lin, ev_lin]
    congr 1
    grind
theorem qf_aff {k : Rat} (hk : k ≠ 0) (cc x : Rat) (o : Option (Rat × Rat)) : ev (Qf (o.map fun q => (k * q.1 - cc, k * k * q.2))) x = k ^ (if o = none then 0 else 2) * ev (Qf o) ((x - cc) / k) := by
  cases o with
  | none =>
    show ev (Qf none) x = k ^ 0 * ev (Qf none) _
    rw [Rat.pow_zero]; simp only [Qf, ev]; grind
  | some q =>
    rw [if_neg (by simp)]
    show ev (qd (k * q.1 - cc) (k * k * q.2)) x = k ^ 2 * ev (qd q.1 q.2) ((x - cc) / k)
    rw [ev_qd, ev_qd, rp2]
    generalize hy : (x - cc) / k = y
    have : x = k * y + cc := by rw [← hy]; grind
    rw [this]; grind
theorem aff_val {S : Sh} {k : Rat} (hk : k ≠ 0) (h0 : S.k = 0) (cc x : Rat) : (S.aff k cc).val x = S.val ((x - cc) / k) := by
  show S.c / k ^ S.dg * (ev (Lf (S.oa.map fun a => cc + k * a)) x ^ (S.i + 1) * (ev (Lf (S.ob.map fun b => cc + k * b)) x ^ (S.j + 1) * ev (Qf (S.oq.map fun q => (k * q.1 - cc, k * k * q.2))) x ^ (S.k + 1))) = S.c * (ev (Lf S.oa) ((x - cc) / k) ^ (S.i + 1) * (ev (Lf S.ob) ((x - cc) / k) ^ (S.j + 1) * ev (Qf S.oq) ((x - cc) / k) ^ (S.k + 1)))
  rw [h0, lf_aff hk, lf_aff hk, rp1, rp1, qf_aff hk]
  unfold dg
  rw [rpow_add, rpow_add]
  have n1 := pow_ne hk (if S.oa = none then 0 else S.i + 1)
  have n2 := pow_ne hk (if S.ob = none then 0 else S.j + 1)
  have n3 := pow_ne hk (if S.oq = none then 0 else 2)
  generalize k ^ (if S.oa = none then 0 else S.i + 1) = A at *
  generalize k ^ (if S.ob = none then 0 else S.j + 1) = B at *
  generalize k ^ (if S.oq = none then 0 else 2) = C at *
  generalize ev (Lf S.oa) ((x - cc) / k) ^ (S.i + 1) = X
  generalize ev (Lf S.ob) ((x - cc) / k) ^ (S.j + 1) = Y
  generalize ev (Qf S.oq) ((x - cc) / k) = Z
  grind
theorem Base.aff {S : Sh} (h : S.Base) {k cc : Rat} (hk : k ≠ 0) (sk : Sz 4 k) (sc : Sz 3 cc) : AlIn (S.aff k cc) := by
  have hkp : 0 < k * k := sq_pos hk
  have c0 : (S.aff k cc).c ≠ 0 := by
    show S.c / k ^ S.dg ≠ 0
    have h1 := h.c0
    have h2 := pow_ne hk S.dg
    intro z
    have : S.c / k ^ S.dg * k ^ S.dg = S.c := by grind
    rw [z] at this; grind
  have hA : ∀ a, (S.aff k cc).oa = some a → ∃ a0, S.oa = some a0 ∧ a = cc + k * a0 := fun a ha => by
    obtain ⟨a0, h1, h2⟩ := Option.map_eq_some_iff.mp ha
    exact ⟨a0, h1, h2.symm⟩
  have hB : ∀ a, (S.aff k cc).ob = some a → ∃ a0, S.ob = some a0 ∧ a = cc + k * a0 := fun a ha => by
    obtain ⟨a0, h1, h2⟩ := Option.map_eq_some_iff.mp ha
    exact ⟨a0, h1, h2.symm⟩
  have hQ : ∀ q, (S.aff k cc).oq = some q → ∃ q0, S.oq = some q0 ∧ q = (k * q0.1 - cc, k * k * q0.2) := fun a ha => by
    obtain ⟨a0, h1, h2⟩ := Option.map_eq_some_iff.mp ha
    exact ⟨a0, h1, h2.symm⟩
  have hp : (S.aff k cc).Pos := fun q hq => by
    obtain ⟨q0, h1, rfl⟩ := hQ q hq
    exact Rat.mul_pos hkp (h.q q0 h1).1
  have hdeg : (S.aff k cc).dg ≤ 4 := by rw [dg_aff]; exact h.deg
  have scc : Sz 18 (S.aff k cc).c := by
    have h4 := h.deg
    exact (h.c.div (Sz.pow sk S.dg)).mono (by
      have : S.dg * 4 ≤ 4 * 4 := Nat.mul_le_mul_right _ h4
      omega)
  have q14 : ∀ q, (S.aff k cc).oq = some q → Sz 14 q.2 := fun q hq => by
    obtain ⟨q0, h1, rfl⟩ := hQ q hq
    exact ((sk.mul sk).mul (h.q q0 h1).2.2).mono (by omega)
  refine ⟨⟨c0, fun a b ha hb => ?_, fun q hq => ?_, fun a q ha hq => ?_, ?_⟩, hp, ⟨scc.mono (by omega), fun a ha => ?_, fun b hb => ?_, fun q hq => ⟨?_, (q14 q hq).mono (by omega), .inr (q14 q hq)⟩, fun ha => ?_, h.k0, hdeg⟩, scc, q14⟩
  · obtain ⟨a0, h1, rfl⟩ := hA a ha
    obtain ⟨b0, h2, rfl⟩ := hB b hb
    have := h.ab a0 b0 h1 h2
    intro z
    have : k * (a0 - b0) = 0 := by grind
    rcases Rat.mul_eq_zero.mp this with h3 | h3 <;> grind
  · have := hp q hq; grind
  · have := hp q hq
    have := sq_nn (a + q.1)
    grind
  · rw [P_len c0 h.k0]; omega
  · obtain ⟨a0, h1, rfl⟩ := hA a ha
    exact (sc.add (sk.mul (h.a a0 h1))).mono (by omega)
  · obtain ⟨a0, h1, rfl⟩ := hB b hb
    exact (sc.add (sk.mul (h.b a0 h1))).mono (by omega)
  · obtain ⟨q0, h1, rfl⟩ := hQ q hq
    exact ((sk.mul (h.q q0 h1).2.1).sub sc).mono (by omega)
  · have ha : S.oa = none := by
      cases h1 : S.oa with
      | none => rfl
      | some a =>
        have : (S.aff k cc).oa = some (cc + k * a) := by show S.oa.map _ = _; rw [h1]; rfl
        rw [ha] at this; cases this
    show S.ob.map _ = none
    rw [h.nb ha]; rfl
theorem Base.al {S : Sh} (h : S.Base) : AlIn S := by
  have hp : S.Pos := fun q hq => (h.q q hq).1
  have q14 : ∀ q, S.oq = some q → Sz 14 q.2 := fun q hq => (h.q q hq).2.2.mono (by omega)
  refine ⟨⟨h.c0, h.ab, fun q hq => ?_, fun a q ha hq => ?_, ?_⟩, hp, ⟨h.c.mono (by omega), fun a ha => (h.a a ha).mono (by omega), fun b hb => (h.b b hb).mono (by omega), fun q hq => ⟨(h.q q hq).2.1.mono (by omega), (q14 q hq).mono (by omega), .inr (q14 q hq)⟩, h.nb, h.k0, h.deg⟩, h.c.mono (by omega), q14⟩
  · have := hp q hq; grind
  · have := hp q hq
    have := sq_nn (a + q.1)
    grind
  · have := h.deg
    rw [P_len h.c0 h.k0]; omega
end Sh
/-! ### what _law_made makes -/
def prodV : List (Rat × Nat) → Rat → Rat
  | [], _ => 1
  | pe :: r, x => (x - pe.1) ^ pe.2 * prodV r x
def totE : List (Rat × Nat) → Nat
  | [] => 0
  | pe :: r => pe.2 + totE r
theorem prodV_snoc (a : Rat) (e : Nat) (x : Rat) : ∀ l : List (Rat × Nat), prodV (l ++ [(a, e)]) x = prodV l x * (x - a) ^ e
  | [] => by simp only [List.nil_append, prodV]; grind
  | pe :: r => by
    simp only [List.cons_append, prodV]
    rw [prodV_snoc a e x r]; grind
theorem totE_snoc (a : Rat) (e : Nat) : ∀ l : List (Rat × Nat), totE (l ++ [(a, e)]) = totE l + e
  | [] => by simp only [List.nil_append, totE]; omega
  | pe :: r => by
    simp only [List.cons_append, totE]
    rw [totE_snoc a e r]; omega
theorem made_shape {c : Rat} {pls : List (Rat × Nat)} {oq : Option (Rat × Rat)} (hc : c ≠ 0) (sc : Sz 2 c) (hl : pls.length ≤ 2) (he : ∀ pe ∈ pls, 1 ≤ pe.2 ∧ Sz 3 pe.1) (hq : ∀ q, oq = some q → 0 < q.2 ∧ Sz 3 q.1 ∧ Sz 6 q.2)
    (hd : totE pls + (if oq = none then 0 else 2) ≤ 4) : ∃ S : Sh, S.Base ∧ ∀ x, S.val x = c * prodV pls x * ev (Qf oq) x := by
  match pls, hl, he, hd with
  | [], _, _, hd =>
    refine ⟨⟨c, none, none, oq, 0, 0, 0⟩, ⟨hc, sc, fun _ h => (by cases h), fun _ h => (by cases h), fun _ _ h => (by cases h), hq, fun _ => rfl, rfl, ?_⟩, fun x => ?_⟩
    · show 0 + 0 + _ ≤ 4
      split <;> omega
    · show c * (ev (Lf none) x ^ 1 * (ev (Lf none) x ^ 1 * ev (Qf oq) x ^ 1)) = _
      rw [ev_one_pow, rp1]; simp only [prodV]; grind
  | [(a, e)], _, he, hd =>
    obtain ⟨h1, h2⟩ := he (a, e) (by simp)
    have h1 : 1 ≤ e := h1
    have hd : e + 0 + _ ≤ 4 := hd
    refine ⟨⟨c, some a, none, oq, e - 1, 0, 0⟩, ⟨hc, sc, fun _ h => (by cases h; exact h2), fun _ h => (by cases h), fun _ _ _ h => (by cases h), hq, fun _ => rfl, rfl, ?_⟩, fun x => ?_⟩
    · show e - 1 + 1 + 0 + (if oq = none then 0 else 2) ≤ 4
      omega
    · show c * (ev (lin a) x ^ (e - 1 + 1) * (ev (Lf none) x ^ 1 * ev (Qf oq) x ^ 1)) = _
      rw [ev_one_pow, rp1, ev_lin, show e - 1 + 1 = e by omega]; simp only [prodV]; grind
  | [(a, e), (b, e')], _, he, hd =>
    obtain ⟨h1, h2⟩ := he (a, e) (by simp)
    obtain ⟨h3, h4⟩ := he (b, e') (by simp)
    have h1 : 1 ≤ e := h1
    have h3 : 1 ≤ e' := h3
    have hd : e + (e' + 0) + _ ≤ 4 := hd
    by_cases hab : a = b
    · subst hab
      refine ⟨⟨c, some a, none, oq, e + e' - 1, 0, 0⟩, ⟨hc, sc, fun _ h => (by cases h; exact h2), fun _ h => (by cases h), fun _ _ _ h => (by cases h), hq, fun _ => rfl, rfl, ?_⟩, fun x => ?_⟩
      · show e + e' - 1 + 1 + 0 + (if oq = none then 0 else 2) ≤ 4
        omega
      · show c * (ev (lin a) x ^ (e + e' - 1 + 1) * (ev (Lf none) x ^ 1 * ev (Qf oq) x ^ 1)) = _
        rw [ev_one_pow, rp1, ev_lin, show e + e' - 1 + 1 = e + e' by omega, rpow_add]; simp only [prodV]; grind
    · refine ⟨⟨c, some a, some b, oq, e - 1, e' - 1, 0⟩, ⟨hc, sc, fun _ h => (by cases h; exact h2), fun _ h => (by cases h; exact h4), fun _ _ h h' => (by cases h; cases h'; exact hab), hq, fun h => (by cases h), rfl, ?_⟩, fun x => ?_⟩
      · show e - 1 + 1 + (e' - 1 + 1) + (if oq = none then 0 else 2) ≤ 4
        omega
      · show c * (ev (lin a) x ^ (e - 1 + 1) * (ev (lin b) x ^ (e' - 1 + 1) * ev (Qf oq) x ^ 1)) = _
        rw [rp1, ev_lin, ev_lin, show e - 1 + 1 = e by omega, show e' - 1 + 1 = e' by omega]; simp only [prodV]; grind
end NB

set_option Elab.async false
set_option linter.all false
set_option maxRecDepth 100000
set_option maxHeartbeats 4000000
namespace NB
open PySem PySem.Spec PyProof.Rows L2
structure MadeP (c : Rat) (pls : List (Rat × Nat)) (p : Pl) : Prop where
  nm : Norm p
  ne : p ≠ []
  len : p.length = totE pls + 1
  sz : SzL (20 * 3 ^ totE pls) p
  ev : ∀ x, NB.ev p x = c * prodV pls x
  pl : ∀ pe ∈ pls, pe.2 ≤ 2 ∧ Sz 3 pe.1
theorem MadeP.start {c : Rat} (h : c ≠ 0) (sc : Sz 2 c) : MadeP c [] [c] :=
  ⟨Norm_one h, by simp, rfl, .cons (sc.mono (by decide)) (.nil _), fun x => by simp only [NB.ev, prodV]; grind, fun _ h => by simp at h⟩
theorem MadeP.place {c a : Rat} {pls : List (Rat × Nat)} {p : Pl} (h : MadeP c pls p) (sa : Sz 3 a) : MadeP c (pls ++ [(a, 0)]) p := by
  refine ⟨h.nm, h.ne, by rw [totE_snoc]; exact h.len, by rw [totE_snoc]; exact h.sz, fun x => ?_, fun pe hpe => ?_⟩
  · rw [h.ev, prodV_snoc, Rat.pow_zero]; grind
  · rcases List.mem_append.mp hpe with h1 | h1
    · exact h.pl pe h1
    · have : pe = (a, 0) := by simpa using h1
      rw [this]; exact ⟨Nat.zero_le _, sa⟩
theorem MadeP.turn {c a : Rat} {pls : List (Rat × Nat)} {p : Pl} {t : Nat} (h : MadeP c (pls ++ [(a, t)]) p) (ht : t < 2) : MadeP c (pls ++ [(a, t + 1)]) (mul p (lin a)) := by
  have sa := (h.pl (a, t) (by simp)).2
  have e1 : totE (pls ++ [(a, t + 1)]) = totE (pls ++ [(a, t)]) + 1 := by rw [totE_snoc, totE_snoc]; omega
  refine ⟨Norm_mul _ _, mul_ne_nil h.nm (Mo.lin a).nm h.ne (Mo.lin a).ne, ?_, ?_, fun x => ?_, fun pe hpe => ?_⟩
  · rw [mul_len h.nm (Mo.lin a).nm h.ne (Mo.lin a).ne, h.len, e1]
    show _ + 2 - 1 = _
    omega
  · rw [e1, Nat.pow_succ]
    refine (h.sz.mulm (m := 2) (SzL.lin sa) (.inr (Nat.le_refl _))).mono ?_
    have : 1 ≤ 3 ^ totE (pls ++ [(a, t)]) := Nat.one_le_pow _ _ (by omega)
    omega
  · rw [ev_mul, h.ev, ev_lin, prodV_snoc, prodV_snoc, Rat.pow_succ]; grind
  · rcases List.mem_append.mp hpe with h1 | h1
    · exact h.pl pe (List.mem_append_left _ h1)
    · have : pe = (a, t + 1) := by simpa using h1
      rw [this]; exact ⟨ht, sa⟩
theorem MadeP.szs {c : Rat} {pls : List (Rat × Nat)} {p : Pl} (h : MadeP c pls p) (ht : totE pls ≤ 4) : SzL 1620 p ∧ p.length ≤ 5 := by
  refine ⟨h.sz.mono ?_, by have := h.len; omega⟩
  have : totE pls = 0 ∨ totE pls = 1 ∨ totE pls = 2 ∨ totE pls = 3 ∨ totE pls = 4 := by omega
  rcases this with e | e | e | e | e <;> rw [e] <;> decide
theorem totE_le {pls : List (Rat × Nat)} (h : ∀ pe ∈ pls, pe.2 ≤ 2) : totE pls ≤ 2 * pls.length := by
  induction pls with
  | nil => exact Nat.le_refl _
  | cons pe r ih =>
    have h1 := h pe List.mem_cons_self
    have h2 := ih fun q hq => h q (List.mem_cons_of_mem _ hq)
    simp only [totE, List.length_cons]; omega
theorem lin_norm (b : Rat) : norm [b, 1] = [b, 1] := norm_of_Norm (line_Norm b)
theorem cl_get {j : Nat} (h : j < 4) : ∃ b : Int, [V.int 1, V.int (-1), V.int 2, V.int 1][j]? = some (V.int b) ∧ b ≠ 0 ∧ b.natAbs ≤ 2 := by
  have : j = 0 ∨ j = 1 ∨ j = 2 ∨ j = 3 := by omega
  rcases this with rfl | rfl | rfl | rfl <;> exact ⟨_, rfl, by decide, by decide⟩
theorem cb_get {j : Nat} (h : j < 3) : ∃ b : Int, [V.int 1, V.int 1, V.int 3][j]? = some (V.int b) ∧ 1 ≤ b ∧ b ≤ 3 := by
  have : j = 0 ∨ j = 1 ∨ j = 2 := by omega
  rcases this with rfl | rfl | rfl <;> exact ⟨_, rfl, by decide, by decide⟩
theorem ct_get {j : Nat} (h : j < 3) : ∃ b : Nat, [V.int 1, V.int 2, V.int 2][j]? = some (V.int (b : Nat)) ∧ 1 ≤ b ∧ b ≤ 2 := by
  have : j = 0 ∨ j = 1 ∨ j = 2 := by omega
  rcases this with rfl | rfl | rfl
  · exact ⟨1, rfl, by decide, by decide⟩
  · exact ⟨2, rfl, by decide, by decide⟩
  · exact ⟨2, rfl, by decide, by decide⟩
theorem cm_get {j : Nat} (h : j < 3) : ∃ b : Int, [V.int 1, V.int 4, V.int 50][j]? = some (V.int b) ∧ 1 ≤ b ∧ b ≤ 50 := by
  have : j = 0 ∨ j = 1 ∨ j = 2 := by omega
  rcases this with rfl | rfl | rfl <;> exact ⟨_, rfl, by decide, by decide⟩
theorem divInt_ne {t b : Int} (ht : t ≠ 0) (hb : b ≠ 0) : Rat.divInt t b ≠ 0 := by
  rw [Rat.divInt_eq_div]
  intro z
  have h1 : (t : Rat) = 0 := by
    have hb' : (b : Rat) ≠ 0 := fun q => hb (by
      have : (b : Rat) = ((0 : Int) : Rat) := q
      exact Rat.intCast_inj.mp this)
    have : (t : Rat) / (b : Rat) * (b : Rat) = (t : Rat) := by grind
    rw [z] at this; grind
  have : (t : Rat) = ((0 : Int) : Rat) := h1
  exact ht (Rat.intCast_inj.mp this)
theorem room65 {k : Nat} {A : Around} (r : Room k A) : A.units + 65 < cLine := by have := r.un; omega
section
variable {P : Program} {w : World} {K : PySem.W.Frag} {mg : Str → Option Value} {base : Heap}
/-! ### _law_made -/
def spLawMade (K : PySem.W.Frag) : Sp := fun vs H Q _ => ∃ (a : Addr) (ns : List Int), vs = [.ref a, .int 10] ∧ SqL K H a (ns.map V.int) ∧ ∀ S : Sh, S.Base → ∀ H' t c p, Same H H' → SqT K H' t [c, p] → Dp K H' c (cD S.P) → Q (.ref t) H'
theorem sc87 : FnScope ["_law_script", "_law_k", "_law_made_here", "_law_places", "_law_j", "_law_place", "_law_line", "_law_turn", "_law_more"] ["_law_script", "_law_k"] (defScope (top 87)) := ⟨rfl, rfl, rfl, by decide +kernel, rfl, by decide +kernel, by decide +kernel⟩
theorem ok_law_made (F : Df K mg "_law_made" 87) (B : Bl mg) (cN : Cal P w K mg base 34 "number" (spNumber K)) (cD' : Cal P w K mg base 33 "_law_drawn" (spDrawn K)) (cLn : Cal P w K mg base 35 "_law_number" (spLawNumber K)) (cC : Cal P w K mg base 34 "curve_of" (spCurveOf K)) (cMi : Cal P w K mg base 35 "minus" (spMinus K)) (cM : Cal P w K mg base 37 "multiplied" (spMultiplied K)) (cA : Cal P w K mg base 36 "added" (spAdded K)) : Cal P w K mg base 38 "_law_made" (spLawMade K) := by
  refine F.cal sc87 (fun _ _ _ _ _ _ us hl => match us, hl with | [_, _], _ => rfl) (fun vs H Q E h => ?_) (fun f cdv A outer s H vs Q E hr h => ?_)
  · obtain ⟨_, _, rfl, _⟩ := h; rfl
  obtain ⟨a, ns, rfl, hs, q⟩ := h
  have hL := LIM_eq
  refine ⟨_, (pss_cons (ps_set (i := 2) sc87.nd rfl (.inl rfl) (pe_tup (pa_cons (pe_c cN hr (by decide) (by rfl) (pa_cons (pe_ix ix_list (pe_lst (pa_cons (pe_int) (pa_cons (pe_un un_neg pe_int) (pa_cons (pe_int) (pa_cons (pe_int) pa_nil))))) (pe_c cD' hr (by decide) (by rfl) (pa_cons (pv 0) (pa_cons (pv 1) (pa_cons (pe_int) pa_nil)))) (fun _ _ => rfl)) (pa_cons (pe_ix ix_list (pe_lst (pa_cons (pe_int) (pa_cons (pe_int) (pa_cons (pe_int) pa_nil)))) (pe_c cD' hr (by decide) (by rfl) (pa_cons (pv 0) (pa_cons (pe_op op_add (pv 1) pe_int) (pa_cons (pe_int) pa_nil)))) (fun _ _ => rfl)) pa_nil))) pa_nil)))
    (pss_cons (ps_set (i := 3) sc87.nd rfl (.inl rfl) (pe_lst pa_nil))
    (pss_cons (ps_for PassesOwn.never rfl (pi_range1 rfl B.range (pa_cons (pe_c cD' hr (by decide) (by rfl) (pa_cons (pv 0) (pa_cons (pe_op op_add (pv 1) pe_int) (pa_cons (pe_int) pa_nil)))) pa_nil)) (pg_name (i := 4) sc87.nd rfl (.inl rfl)) (pss_cons (ps_set (i := 5) sc87.nd rfl (.inl rfl) (pe_c cLn hr (by decide) (by rfl) (pa_cons (pv 0) (pa_cons (pe_op op_add (pe_op op_add (pv 1) pe_int) (pe_op op_mulP pe_int (pv 4))) pa_nil))))
    (pss_cons (ps_set (i := 6) sc87.nd rfl (.inl rfl) (pe_c cC hr (by decide) (by rfl) (pa_cons (pe_lst (pa_cons (pe_c cMi hr (by decide) (by rfl) (pa_cons (pe_tup (pa_cons (pe_int) (pa_cons (pe_int) pa_nil))) (pa_cons (pv 5) pa_nil))) (pa_cons (pe_tup (pa_cons (pe_int) (pa_cons (pe_int) pa_nil))) pa_nil))) pa_nil)))
    (pss_cons (ps_for PassesOwn.never rfl (pi_range1 rfl B.range (pa_cons (pe_ix ix_list (pe_lst (pa_cons (pe_int) (pa_cons (pe_int) (pa_cons (pe_int) pa_nil)))) (pe_c cD' hr (by decide) (by rfl) (pa_cons (pv 0) (pa_cons (pe_op op_add (pe_op op_add (pv 1) pe_int) (pe_op op_mulP pe_int (pv 4))) (pa_cons (pe_int) pa_nil)))) (fun _ _ => rfl)) pa_nil)) (pg_name (i := 7) sc87.nd rfl (.inl rfl)) (pss_one (ps_set (i := 2) sc87.nd rfl (.inl rfl) (pe_c cM hr (by decide) (by rfl) (pa_cons (pv 2) (pa_cons (pv 6) pa_nil))))))
    (pss_one (ps_if (pt_cmpR (op_notInD (room65 hr)) (pv 5) (pv 3) (by rfl)) (pss_one (ps_expr (pe_bm PySem.F.plainAttrs_list PySem.F.slot_list_append PySem.F.type_list_append mt_append (pv 3) (pa_cons (pv 5) pa_nil)))) pss_nil))))))
    (C8.pss_cut (ps_if (PW.pt (pw_and (pt_cmpR op_eq (pe_c cD' hr (by decide) (by rfl) (pa_cons (pv 0) (pa_cons (pe_op op_add (pv 1) pe_int) (pa_cons (pe_int) pa_nil)))) pe_int (nomark _)) (pw_and1 (pt_cmpR op_lt (pe_callB call_len_seq (by rfl) B.len PySem.boot_len (pa_cons (pv 2) pa_nil)) pe_int (nomark _))))) (pss_cons (ps_set (i := 6) sc87.nd rfl (.inl rfl) (pe_c cC hr (by decide) (by rfl) (pa_cons (pe_lst (pa_cons (pe_c cLn hr (by decide) (by rfl) (pa_cons (pv 0) (pa_cons (pe_op op_add (pv 1) pe_int) pa_nil))) (pa_cons (pe_tup (pa_cons (pe_int) (pa_cons (pe_int) pa_nil))) pa_nil))) pa_nil)))
    (pss_cons (ps_set (i := 8) sc87.nd rfl (.inl rfl) (pe_c cN hr (by decide) (by rfl) (pa_cons (pe_op op_add pe_int (pe_c cD' hr (by decide) (by rfl) (pa_cons (pv 0) (pa_cons (pe_op op_add (pv 1) pe_int) (pa_cons (pe_int) pa_nil))))) (pa_cons (pe_ix ix_list (pe_lst (pa_cons (pe_int) (pa_cons (pe_int) (pa_cons (pe_int) pa_nil)))) (pe_c cD' hr (by decide) (by rfl) (pa_cons (pv 0) (pa_cons (pe_op op_add (pv 1) pe_int) (pa_cons (pe_int) pa_nil)))) (fun _ _ => rfl)) pa_nil))))
    (pss_one (ps_set (i := 2) sc87.nd rfl (.inl rfl) (pe_c cM hr (by decide) (by rfl) (pa_cons (pv 2) (pa_cons (pe_c cA hr (by decide) (by rfl) (pa_cons (pe_c cM hr (by decide) (by rfl) (pa_cons (pv 6) (pa_cons (pv 6) pa_nil))) (pa_cons (pe_tup (pa_cons (pv 8) pa_nil)) pa_nil))) pa_nil))))))) pss_nil)
    (pss_one (ps_ret (pe_tup (pa_cons (pv 2) (pa_cons (pv 3) pa_nil))))))))), ?_⟩
  -- the number
  refine ⟨_, rfl, by show 4 ≤ sizeLine; decide, fun l1 nl1 => ?_⟩
  have s1 := same_upd (o := .lst [.int 1, .int (-1), .int 2, .int 1]) nl1
  refine ⟨_, rfl, _, rfl, a, ns, 10, 4, rfl, s1.seq hs, by omega, by omega, fun i1 hi1 => ?_⟩
  obtain ⟨ct, hct, hct0, hct2⟩ := cl_get hi1
  refine ⟨l1, _, _, _, rfl, rfl, SqL.of upd_same, atI_nat hct, by show 3 ≤ sizeLine; decide, fun l2 nl2 => ?_⟩
  have s2 := same_upd (o := .lst [.int 1, .int 1, .int 3]) nl2
  have s12 := s1.trans s2
  refine ⟨_, rfl, _, rfl, _, _, rfl, rfl, a, ns, 11, 3, rfl, s12.seq hs, by omega, by omega, fun i2 hi2 => ?_⟩
  obtain ⟨cb, hcb, hcb0, hcb2⟩ := cb_get hi2
  refine ⟨l2, _, _, _, rfl, rfl, SqL.of upd_same, atI_nat hcb, ct, cb, rfl, by omega, fun H3 v3 s3 hv3 => ?_⟩
  have hc0 := divInt_ne hct0 (show cb ≠ 0 by omega)
  have sc : Sz 2 (Rat.divInt ct cb) := .divInt (by show ct.natAbs ≤ 4; omega) (by show cb.natAbs ≤ 4; omega)
  generalize Rat.divInt ct cb = c at *
  refine ⟨by show 1 ≤ sizeLine; decide, fun t4 nt4 => ?_⟩
  have s4 := same_upd (o := .tup [v3]) nt4
  have hm4 : Dp K (upd H3 t4 (.tup [v3])) (.ref t4) (cD [c]) := .tup (SqT.of upd_same) (.cons (dp_mono s4 hv3) .nil)
  have s14 := (s12.trans s3).trans s4
  generalize upd H3 t4 (.tup [v3]) = H4 at *
  refine ⟨Nat.zero_le _, fun D dn => ?_⟩
  -- the places
  refine ⟨_, rfl, _, rfl, _, _, rfl, rfl, a, ns, 12, 3, rfl, (s14.trans (same_upd dn)).seq hs, by omega, by omega, fun i5 hi5 => ?_⟩
  refine ⟨_, rfl, by omega, by omega, for_range (lo := 0) (n := ((i5 : Nat) : Int).toNat) (fun i σ H5 => ∃ vm p pls ps y4 y5 y6 y7, σ = [some (.ref a), some (.int 10), some vm, some (.ref D), y4, y5, y6, y7, none] ∧ Acc K H4 D H5 ((ps : Pl).map nD) ∧ Dp K H5 vm (cD p) ∧ MadeP c pls p ∧ pls.length = i ∧ ps.length ≤ i ∧ ∀ pe ∈ pls, 1 ≤ pe.2) ⟨_, [c], [], [], none, none, none, none, rfl, .start dn, dp_mono (same_upd dn) hm4, MadeP.start hc0 sc, rfl, Nat.le_refl _, fun _ h => by simp at h⟩ (fun i σ H5 hi h => ?_) (fun σ H5 h => ?_)⟩
  · obtain ⟨vm, p, pls, ps, y4, y5, y6, y7, rfl, hA, hm, hp, hpl, hpsl, hpe⟩ := h
    have hi : i < 2 := by omega
    rw [show (0 : Int) + (i : Nat) = ((i : Nat) : Int) by omega]
    have ha5 := s14.trans hA.sm
    refine ⟨_, rfl, _, rfl, _, _, rfl, rfl, _, rfl, _, _, rfl, rfl, cm_of (by decide) (Nat.le_trans (by omega : ((i : Nat) : Int).natAbs ≤ 10) (by decide)), _, _, rfl, rfl, a, ns, 13 + 4 * i, ?_, ha5.seq hs, by omega, fun b sb H6 v6 s6 hv6 => ?_⟩
    · show [V.ref a, V.int (10 + 3 + 4 * ((i : Nat) : Int))] = _
      rw [show (10 : Int) + 3 + 4 * ((i : Nat) : Int) = ((13 + 4 * i : Nat) : Int) by omega]
    have ha6 := ha5.trans s6
    refine ⟨by show 2 ≤ sizeLine; decide, fun t7 nt7 => ?_⟩
    have s7 := same_upd (o := .tup [.int 0, .int 1]) nt7
    refine ⟨_, rfl, _, _, 0, b, rfl, num_of (SqT.of upd_same), dp_mono s7 hv6, ⟨sm_zero, sb.sm (by omega)⟩, fun H8 v8 s8 hv8 => ?_⟩
    have hv8 : Num K H8 v8 (0 - b) := hv8
    rw [show (0 : Rat) - b = -b by grind] at hv8
    refine ⟨by show 2 ≤ sizeLine; decide, fun t9 nt9 => ?_⟩
    have s9 := same_upd (o := .tup [.int 1, .int 1]) nt9
    have h9 : Num K (upd H8 t9 (.tup [.int 1, .int 1])) (.ref t9) 1 := num_of (SqT.of upd_same)
    generalize upd H8 t9 (.tup [.int 1, .int 1]) = H9 at *
    refine ⟨by show 2 ≤ sizeLine; decide, fun l10 nl10 => ?_⟩
    have s10 := same_upd (o := .lst [v8, .ref t9]) nl10
    refine ⟨_, [-b, 1], rfl, .lst (SqL.of upd_same) (.cons (dp_mono (s9.trans s10) hv8) (.cons (dp_mono s10 h9) .nil)), by rw [lin_norm]; show 2 ≤ 13; decide, fun H11 v11 s11 hv11 => ?_⟩
    rw [lin_norm] at hv11
    have hv11 : Dp K H11 v11 (cD (lin b)) := hv11
    have s611 := (((s7.trans s8).trans s9).trans s10).trans s11
    have ha11 := ha6.trans s611
    -- the turns
    refine ⟨by show 3 ≤ sizeLine; decide, fun l12 nl12 => ?_⟩
    have s12' := same_upd (o := .lst [.int 1, .int 2, .int 2]) nl12
    refine ⟨_, rfl, _, rfl, _, _, rfl, rfl, _, rfl, _, _, rfl, rfl, cm_of (by decide) (Nat.le_trans (by omega : ((i : Nat) : Int).natAbs ≤ 10) (by decide)), _, _, rfl, rfl, a, ns, 16 + 4 * i, 3, ?_, (ha11.trans s12').seq hs, by omega, by omega, fun i6 hi6 => ?_⟩
    · show [V.ref a, V.int (10 + 6 + 4 * ((i : Nat) : Int)), V.int 3] = _
      rw [show (10 : Int) + 6 + 4 * ((i : Nat) : Int) = ((16 + 4 * i : Nat) : Int) by omega]; rfl
    obtain ⟨e, he, he1, he2⟩ := ct_get hi6
    refine ⟨l12, _, _, _, rfl, rfl, SqL.of upd_same, atI_nat he, ?_⟩
    generalize hH12 : upd H11 l12 (.lst [.int 1, .int 2, .int 2]) = H12 at *
    have s612 := s611.trans s12'
    have s512 := s6.trans s612
    refine ⟨_, rfl, by omega, by omega, for_range (lo := 0) (n := ((e : Nat) : Int).toNat) (fun t σ H13 => ∃ vm p y7, σ = [some (.ref a), some (.int 10), some vm, some (.ref D), some (.int (i : Nat)), some v6, some v11, y7, none] ∧ Same H12 H13 ∧ Dp K H13 vm (cD p) ∧ MadeP c (pls ++ [(b, t)]) p) ⟨vm, p, y7, rfl, .refl _, dp_mono s512 hm, hp.place sb⟩ (fun t σ H13 ht h => ?_) (fun σ H13 h => ?_)⟩
    · obtain ⟨vm', p', y7', rfl, s13, hm', hp'⟩ := h
      have ht : t < 2 := by omega
      have hte : totE (pls ++ [(b, t)]) ≤ 3 := by
        have h1 := totE_le (pls := pls) fun pe hpe => (hp.pl pe hpe).1
        rw [totE_snoc]; omega
      obtain ⟨z1, z2⟩ := hp'.szs (by omega)
      have hz3 := hp'.len
      have hml := mul_len_le p' (lin b)
      have hlb : (lin b).length = 2 := rfl
      have hmul : p'.length * (1620 + 3 + 1) ≤ 5 * (1620 + 3 + 1) := Nat.mul_le_mul_right _ z2
      refine ⟨_, rfl, _, rfl, _, _, p', lin b, rfl, hm', dp_mono (s12'.trans s13) hv11, by omega, by omega, ⟨1620, 3, z1, SzL.lin sb, by omega, by omega, by omega⟩, by omega, fun H14 v14 s14' hv14 => ?_⟩
      exact ⟨v14, _, _, rfl, s13.trans s14', hv14, hp'.turn ht⟩
    · obtain ⟨vm', p', y7', rfl, s13, hm', hp'⟩ := h
      have he' : ((e : Nat) : Int).toNat = e := by omega
      rw [he'] at hp'
      have hA13 := hA.up (s512.trans s13)
      have hb13 := dp_mono (s612.trans s13) hv6
      have hpe' : ∀ pe ∈ pls ++ [(b, e)], 1 ≤ pe.2 := fun pe h => by
        rcases List.mem_append.mp h with h | h
        · exact hpe pe h
        · have : pe = (b, e) := by simpa using h
          rw [this]; exact he1
      refine ⟨_, rfl, _, rfl, nD b, ps.map nD, hb13, hA13.dp, nD_shaped b, lDs_shaped ps, _, rfl, ite2 (fun _ => ?_) (fun _ => ?_)⟩
      · obtain ⟨acc0, e0, _⟩ := hA13.ex
        obtain ⟨acc, e1, e2, h2⟩ := hA13.push (.refl _) dn hb13 (nl_nD _) (nls_map _)
        refine ⟨_, rfl, .inl ⟨rfl, _, SqL.of e0⟩, _, rfl, D, acc, _, rfl, rfl, e1, line_ok (by rw [e2, List.length_map]; omega), ?_⟩
        refine ⟨vm', p', pls ++ [(b, e)], ps ++ [b], _, _, _, _, rfl, by rw [List.map_append]; exact h2, dp_keep e1 hm' (nl_cD _), hp', by rw [List.length_append, hpl]; rfl, by rw [List.length_append]; show ps.length + 1 ≤ i + 1; omega, hpe'⟩
      · exact ⟨vm', p', pls ++ [(b, e)], ps, _, _, _, _, rfl, hA13, hm', hp', by rw [List.length_append, hpl]; rfl, by omega, hpe'⟩
  · obtain ⟨vm, p, pls, ps, y4, y5, y6, y7, rfl, hA, hm, hp, hpl, hpsl, hpe⟩ := h
    have hpl2 : pls.length ≤ 2 := by omega
    have ha5 := s14.trans hA.sm
    have hte : totE pls ≤ 4 := by
      have h1 := totE_le (pls := pls) fun pe hpe => (hp.pl pe hpe).1
      omega
    obtain ⟨z1, z2⟩ := hp.szs hte
    have hz3 := hp.len
    -- one more factor
    refine ⟨fun σ' H' => ∃ vm p S y4 y5 y6 y7 y8, σ' = [some (.ref a), some (.int 10), some vm, some (.ref D), y4, y5, y6, y7, y8] ∧ Same H4 H' ∧ Dp K H' vm (cD p) ∧ Sh.Base S ∧ p = S.P, ?_, fun σ' H' h => ?_⟩
    · have noq : ∃ S : Sh, S.Base ∧ p = S.P := by
        obtain ⟨S, hS, hv⟩ := made_shape (oq := none) hc0 sc hpl2 (fun pe h => ⟨hpe pe h, (hp.pl pe h).2⟩) (fun q h => by cases h) (by rw [if_pos rfl]; omega)
        refine ⟨S, hS, ident hp.nm (Sh.Norm_P S) fun x => ?_⟩
        rw [hp.ev, Sh.ev_P, hv]; simp only [Qf, ev]; grind
      obtain ⟨S0, hS0, e0⟩ := noq
      have skip : ∃ vm' p' S y4' y5' y6' y7' y8', [some (V.ref a), some (.int 10), some vm, some (.ref D), y4, y5, y6, y7, none] = [some (.ref a), some (.int 10), some vm', some (.ref D), y4', y5', y6', y7', y8'] ∧ Same H4 H5 ∧ Dp K H5 vm' (cD p') ∧ Sh.Base S ∧ p' = S.P := ⟨vm, p, S0, y4, y5, y6, y7, none, rfl, hA.sm, hm, hS0, e0⟩
      refine ⟨_, rfl, _, rfl, _, _, rfl, rfl, a, ns, 25, 2, rfl, ha5.seq hs, by omega, by omega, fun i6 hi6 => ?_⟩
      refine ⟨rfl, _, rfl, ite2 (fun _ => ?_) (fun _ => iteF skip)⟩
      obtain ⟨ad, ws, rfl, hws, hwn⟩ := cur_inv hm
      have hwl := nums_len hwn
      refine ⟨_, rfl, ad, ws, rfl, .inr hws, _, _, rfl, rfl, _, rfl, ite2 (fun e => ?_) (fun _ => skip)⟩
      have e : (ws.length : Int) < 4 := of_decide_eq_true e
      have hte2 : totE pls ≤ 2 := by omega
      refine ⟨_, rfl, _, rfl, _, _, rfl, rfl, a, ns, 26, rfl, ha5.seq hs, by omega, fun b sb H6 v6 s6 hv6 => ?_⟩
      refine ⟨by show 2 ≤ sizeLine; decide, fun t9 nt9 => ?_⟩
      have s9 := same_upd (o := .tup [.int 1, .int 1]) nt9
      have h9 : Num K (upd H6 t9 (.tup [.int 1, .int 1])) (.ref t9) 1 := num_of (SqT.of upd_same)
      generalize upd H6 t9 (.tup [.int 1, .int 1]) = H9 at *
      refine ⟨by show 2 ≤ sizeLine; decide, fun l10 nl10 => ?_⟩
      have s10 := same_upd (o := .lst [v6, .ref t9]) nl10
      refine ⟨_, [b, 1], rfl, .lst (SqL.of upd_same) (.cons (dp_mono (s9.trans s10) hv6) (.cons (dp_mono s10 h9) .nil)), by rw [lin_norm]; show 2 ≤ 13; decide, fun H11 v11 s11 hv11 => ?_⟩
      rw [lin_norm] at hv11
      have s511 := ((s6.trans s9).trans s10).trans s11
      have ha11 := ha5.trans s511
      -- the more
      refine ⟨_, rfl, _, rfl, _, _, rfl, rfl, a, ns, 29, 9, rfl, ha11.seq hs, by omega, by omega, fun i7 hi7 => ?_⟩
      refine ⟨_, _, rfl, rfl, by show 3 ≤ sizeLine; decide, fun l12 nl12 => ?_⟩
      have s12' := same_upd (o := .lst [.int 1, .int 4, .int 50]) nl12
      refine ⟨_, rfl, _, rfl, _, _, rfl, rfl, a, ns, 30, 3, rfl, (ha11.trans s12').seq hs, by omega, by omega, fun i8 hi8 => ?_⟩
      obtain ⟨mb, hmb, hmb1, hmb2⟩ := cm_get hi8
      refine ⟨l12, _, _, _, rfl, rfl, SqL.of upd_same, atI_nat hmb, 1 + (i7 : Int), mb, rfl, by omega, fun H13 v13 s13 hv13 => ?_⟩
      have smu : Sz 6 (Rat.divInt (1 + (i7 : Int)) mb) := .divInt (by show (1 + (i7 : Int)).natAbs ≤ 64; omega) (by show mb.natAbs ≤ 64; omega)
      have mu0 := divInt_pos (show 0 < 1 + (i7 : Int) by omega) (show 0 < mb by omega)
      generalize Rat.divInt (1 + (i7 : Int)) mb = μ at *
      have s1113 := s12'.trans s13
      have hl11 := dp_mono s1113 hv11
      have hm13 := dp_mono (s511.trans s1113) hm
      have nl1 : Norm [b, 1] := line_Norm b
      have szl : SzL 3 [b, 1] := .cons sb (.cons (.one _) (.nil _))
      have hll : (mul [b, 1] [b, 1]).length = 3 := mul_len nl1 nl1 (by simp) (by simp)
      have szll : SzL 14 (mul [b, 1] [b, 1]) := (szl.mulm (m := 2) szl (.inl (Nat.le_refl _))).mono (by omega)
      refine ⟨_, rfl, _, rfl, _, rfl, _, _, [b, 1], [b, 1], rfl, hl11, hl11, (by show 2 ≤ 50; decide), (by show 2 ≤ 50; decide), ⟨3, 3, szl, szl, by show 2 * (3 + 3 + 1) ≤ LIM; omega, by omega, by omega⟩, by omega, fun H14 v14 s14' hv14 => ?_⟩
      refine ⟨_, rfl, by show 1 ≤ sizeLine; decide, fun t15 nt15 => ?_⟩
      have s15 := same_upd (o := .tup [v13]) nt15
      have s1315 := s14'.trans s15
      refine ⟨_, _, mul [b, 1] [b, 1], [μ], rfl, dp_mono s15 hv14, .tup (SqT.of upd_same) (.cons (dp_mono s1315 hv13) .nil), by omega, by show 1 ≤ 100; decide, fun x hx => (szll x hx).sm (by omega), fun x hx => ?_, fun H16 v16 s16 hv16 => ?_⟩
      · have : x = μ := by simpa using hx
        rw [this]; exact smu.sm (by omega)
      have szq : SzL 21 (add (mul [b, 1] [b, 1]) [μ]) := (szll.add (SzL.cons smu (.nil _))).mono (by omega)
      have lq : (add (mul [b, 1] [b, 1]) [μ]).length ≤ 3 := by
        have := add_len (mul [b, 1] [b, 1]) [μ]
        have h1 : [μ].length = 1 := rfl
        omega
      have evq : ∀ x, ev (add (mul [b, 1] [b, 1]) [μ]) x = ev (Qf (some (b, μ))) x := fun x => by
        rw [ev_add, ev_mul]
        show _ = ev (qd b μ) x
        rw [ev_qd]; simp only [ev]; grind
      have hml := mul_len_le p (add (mul [b, 1] [b, 1]) [μ])
      have hmul : p.length * (1620 + 21 + 1) ≤ 5 * (1620 + 21 + 1) := Nat.mul_le_mul_right _ z2
      refine ⟨_, _, p, add (mul [b, 1] [b, 1]) [μ], rfl, dp_mono (s1315.trans s16) hm13, hv16, by omega, by omega, ⟨1620, 21, z1, szq, by omega, by omega, by omega⟩, by omega, fun H17 v17 s17 hv17 => ?_⟩
      obtain ⟨S, hS, hv⟩ := made_shape (oq := some (b, μ)) hc0 sc hpl2 (fun pe h => ⟨hpe pe h, (hp.pl pe h).2⟩) (fun q h => by cases h; exact ⟨mu0, sb, smu⟩) (by rw [if_neg (by simp)]; omega)
      refine ⟨v17, _, S, _, _, _, _, _, rfl, (((hA.sm.trans s511).trans s1113).trans s1315).trans (s16.trans s17), hv17, hS, ident (Norm_mul _ _) (Sh.Norm_P S) fun x => ?_⟩
      rw [ev_mul, hp.ev, evq, Sh.ev_P, hv]
    · obtain ⟨vm', p', S, y4', y5', y6', y7', y8', rfl, s15, hm', hS, rfl⟩ := h
      refine ⟨_, rfl, _, rfl, by show 2 ≤ sizeLine; decide, fun t nt => q S hS _ _ _ _ ((s14.trans s15).trans (same_upd nt)) (SqT.of upd_same) (dp_mono (same_upd nt) hm')⟩
end
end NB

set_option Elab.async false
set_option linter.all false
set_option maxRecDepth 100000
set_option maxHeartbeats 4000000
namespace NB
open PySem PySem.Spec PyProof.Rows L2
/-- what a verdict's word tells -/
def VF (P : Pl) (lo hi : Rat) (wd : Str) : Prop :=
  (wd = "below" ∧ ∃ t, lo ≤ t ∧ t ≤ hi ∧ ev P t < 0) ∨ (wd = "touches" ∧ (∀ t, lo ≤ t → t ≤ hi → 0 ≤ ev P t) ∧ ∃ t, lo ≤ t ∧ t ≤ hi ∧ ev P t = 0) ∨ (wd = "above" ∧ ∀ t, lo ≤ t → t ≤ hi → 0 < ev P t)
/-- what always' word tells -/
def WF (P : Pl) (wd : Str) : Prop :=
  (wd = "below" ∧ ∃ t, ev P t < 0) ∨ (wd = "touches" ∧ (∀ t, 0 ≤ ev P t) ∧ ∃ t, ev P t = 0) ∨ (wd = "above" ∧ ∀ t, 0 < ev P t)
theorem WF.unique {P : Pl} {a b : Str} (h : WF P a) (k : WF P b) : a = b := by
  rcases h with ⟨rfl, t, h⟩ | ⟨rfl, h, t, h'⟩ | ⟨rfl, h⟩ <;> rcases k with ⟨rfl, s, k⟩ | ⟨rfl, k, s, k'⟩ | ⟨rfl, k⟩
  · rfl
  · have := k t; grind
  · have := k t; grind
  · have := h s; grind
  · rfl
  · have := k t; grind
  · have := h s; grind
  · have := h s; grind
  · rfl
theorem WF.aff {P R : Pl} {k cc : Rat} (hk : k ≠ 0) (hv : ∀ x, ev R x = ev P ((x - cc) / k)) {wd : Str} (h : WF P wd) : WF R wd := by
  have key : ∀ t : Rat, ev R (cc + k * t) = ev P t := fun t => by
    rw [hv]; congr 1; grind
  rcases h with ⟨e, t, h⟩ | ⟨e, h, t, h'⟩ | ⟨e, h⟩
  · exact .inl ⟨e, cc + k * t, by rw [key]; exact h⟩
  · exact .inr (.inl ⟨e, fun x => by rw [hv]; exact h _, cc + k * t, by rw [key]; exact h'⟩)
  · exact .inr (.inr ⟨e, fun x => by rw [hv]; exact h _⟩)
theorem bd_far {P : Pl} (h : Sz 2081 (bnd P)) {t : Rat} (h1 : -(bnd P) ≤ t) (h2 : t ≤ bnd P) : bd t ((2 : Rat) ^ 2081) := by
  have := h.le
  unfold bd at *
  generalize (2 : Rat) ^ 2081 = T at *
  constructor <;> grind
theorem bd_about {t d : Rat} (ht : bd t ((2 : Rat) ^ 2081)) (hd : Sz 6 d) : bd (t - d) ((2 : Rat) ^ RHO) ∧ bd (t + d) ((2 : Rat) ^ RHO) := by
  have h1 : (2 : Rat) ^ 2082 ≤ (2 : Rat) ^ RHO := two_le (by rw [RHO_eq]; omega)
  have h2 := hd.le
  have h3 : (2 : Rat) ^ 6 ≤ (2 : Rat) ^ 2081 := two_le (by omega)
  have h4 : (2 : Rat) ^ 2082 = (2 : Rat) ^ 2081 * 2 := Rat.pow_succ ..
  unfold bd at *
  generalize (2 : Rat) ^ RHO = A at *
  generalize (2 : Rat) ^ 2082 = B at *
  generalize (2 : Rat) ^ 2081 = C at *
  generalize (2 : Rat) ^ 6 = D at *
  constructor <;> constructor <;> grind
section
variable {P : Program} {w : World} {K : PySem.W.Frag} {mg : Str → Option Value} {base : Heap}
def spVW (K : PySem.W.Frag) : Sp := fun vs H Q _ => ∃ x y z P F lo hi n, vs = [x, y, z] ∧ Dp K H x (cD P) ∧ Num K H y lo ∧ Num K H z hi ∧ lo < hi ∧ MapIn P F ∧ Sz n lo ∧ Sz n hi ∧ n ≤ 23200 ∧ bd lo ((2 : Rat) ^ RHO) ∧ bd hi ((2 : Rat) ^ RHO) ∧
  ∀ wd, VF P lo hi wd → ∀ H' a y', Same H H' → SqT K H' a [.str wd, y'] → Q (.ref a) H'
theorem ok_vw {j : Nat} (c : Cal P w K mg base j "verdict" (spVerdict K)) : Cal P w K mg base j "verdict" (spVW K) := c.imp fun vs H Q E h => by
  obtain ⟨x, y, z, P0, F0, lo, hi, n, rfl, hx, hy, hz, hlt, hM, sl, sh, hn, bl, bh, q⟩ := h
  refine ⟨x, y, z, P0, F0, lo, hi, n, rfl, hx, hy, hz, hlt, hM, sl, sh, hn, bl, bh, fun t h1 h2 h3 _ H' v s' hv => ?_, fun rows hc _ _ hb hp H' v s' hv => ?_, fun rows hc hb hp H' v s' hv => ?_⟩
  · obtain ⟨a, x1, y1, rfl, hs, h1', _⟩ := tup2_inv hv
    cases str_inv h1'
    exact q _ (.inl ⟨rfl, t, h1, h2, h3⟩) _ _ _ s' hs
  · obtain ⟨a, x1, y1, rfl, hs, h1', _⟩ := tup2_inv hv
    cases str_inv h1'
    exact q _ (.inr (.inl ⟨rfl, hc.none_below hM.kit hlt hb, hc.place_root hM.kit hb hp⟩)) _ _ _ s' hs
  · obtain ⟨a, x1, y1, rfl, hs, h1', _⟩ := tup2_inv hv
    cases str_inv h1'
    refine q _ (.inr (.inr ⟨rfl, fun t h1 h2 => ?_⟩)) _ _ _ s' hs
    have h0 := hc.none_below hM.kit hlt hb t h1 h2
    by_cases hz : ev P0 t = 0
    · exact absurd (hc.rt t h1 h2 ((hM.kit.fz t).mpr hz)) hp
    · grind
/-- told, on all numbers -/
def Told (K : PySem.W.Frag) (H : Hp) (v : V) (P : Pl) : Prop := ∃ (a : Addr) (td : Str) (xs : List V), v = .ref a ∧ SqT K H a (.str td :: xs) ∧
  ((td = "below" ∧ ∃ vt t, xs = [vt] ∧ Num K H vt t ∧ ev P t < 0 ∧ Sz 18446 t ∧ bd t ((2 : Rat) ^ 2081)) ∨
   (td = "touches" ∧ ∃ vL vs ve s e, ∃ L : List (Rat × Pl), xs = [vL, vs, ve] ∧ Dp K H vL (.list (L.map wqD)) ∧ SqFine L P ∧ Num K H vs s ∧ Num K H ve e ∧ (∀ x, 0 ≤ ev P x) ∧ (∃ r, s ≤ r ∧ r ≤ e ∧ ev P r = 0) ∧ Sz 18446 s ∧ Sz 18446 e ∧ bd s ((2 : Rat) ^ 2081) ∧ bd e ((2 : Rat) ^ 2081)) ∨
   (td = "above" ∧ ∃ vl vL l, ∃ L : List (Rat × Pl), xs = [vl, vL] ∧ Num K H vl l ∧ Dp K H vL (.list (L.map wqD)) ∧ SqFine L (tak P [l]) ∧ 0 < l ∧ (∀ x, l ≤ ev P x) ∧ Sz 32 l))
theorem Told.word {H : Hp} {v : V} {P : Pl} (h : Told K H v P) : ∃ (a : Addr) (td : Str) (xs : List V), v = .ref a ∧ SqT K H a (.str td :: xs) ∧ WF P td := by
  obtain ⟨a, td, xs, rfl, hs, h⟩ := h
  refine ⟨a, td, xs, rfl, hs, ?_⟩
  rcases h with ⟨e, vt, t, _, _, h, _⟩ | ⟨e, _, _, _, _, _, _, _, _, _, _, _, h, ⟨r, _, _, h'⟩, _⟩ | ⟨e, _, _, l, _, _, _, _, _, h0, h, _⟩
  · exact .inl ⟨e, t, h⟩
  · exact .inr (.inl ⟨e, h, r, h'⟩)
  · exact .inr (.inr ⟨e, fun t => by have := h t; grind⟩)
theorem Told.mono {H H' : Hp} {v : V} {P : Pl} (h : Told K H v P) (s : Same H H') : Told K H' v P := by
  obtain ⟨a, td, xs, rfl, hs, h⟩ := h
  refine ⟨a, td, xs, rfl, sqT_mono s hs, ?_⟩
  rcases h with ⟨e, vt, t, e2, h1, h2⟩ | ⟨e, vL, vs, ve, s1, e1, L, e2, h1, h2, h3, h4, h5⟩ | ⟨e, vl, vL, l, L, e2, h1, h2, h3⟩
  · exact .inl ⟨e, vt, t, e2, dp_mono s h1, h2⟩
  · exact .inr (.inl ⟨e, vL, vs, ve, s1, e1, L, e2, dp_mono s h1, h2, dp_mono s h3, dp_mono s h4, h5⟩)
  · exact .inr (.inr ⟨e, vl, vL, l, L, e2, dp_mono s h1, dp_mono s h2, h3⟩)
def spAlT (K : PySem.W.Frag) : Sp := fun vs H Q _ => ∃ x S, vs = [x] ∧ Dp K H x (cD S.P) ∧ AlIn S ∧ ∀ H' v, Same H H' → Told K H' v S.P → Q v H'
theorem ok_alT {j : Nat} (c : Cal P w K mg base j "always" (spAlways K)) : Cal P w K mg base j "always" (spAlT K) := c.imp fun vs H Q E h => by
  obtain ⟨x, S, rfl, hx, hin, q⟩ := h
  have sb : Sz 2081 (bnd S.P) := sz_bnd (Sh.szP hin.s)
  refine ⟨x, S, rfl, hx, hin, fun t t1 t2 hneg st H' v s' hv => q _ _ s' ?_, fun L s e hnn hf hr hs he ss se H' v s' hv => q _ _ s' ?_, fun l L h0 hlow sl hf H' v s' hv => q _ _ s' ?_⟩
  · obtain ⟨a, x1, y1, rfl, hs, h1, h2⟩ := tup2_inv hv
    cases str_inv h1
    exact ⟨a, _, _, rfl, hs, .inl ⟨rfl, y1, t, rfl, h2, hneg, st, bd_far sb t1 t2⟩⟩
  · obtain ⟨r, r1, r2, r3⟩ := hr
    have hse : s ≤ e := Rat.le_trans r1 r2
    cases hv with
    | @tup a _ _ hs' ha =>
      cases ha with
      | cons h1 h2 =>
        cases str_inv h1
        cases h2 with
        | cons h3 h4 =>
          cases h4 with
          | cons h5 h6 =>
            cases h6 with
            | cons h7 h8 =>
              cases h8
              exact ⟨a, _, _, rfl, hs', .inr (.inl ⟨rfl, _, _, _, s, e, L, rfl, h3, hf, h5, h7, hnn, ⟨r, r1, r2, r3⟩, ss, se, bd_far sb hs (Rat.le_trans hse he), bd_far sb (Rat.le_trans hs hse) he⟩)⟩
  · cases hv with
    | @tup a _ _ hs' ha =>
      cases ha with
      | cons h1 h2 =>
        cases str_inv h1
        cases h2 with
        | cons h3 h4 =>
          cases h4 with
          | cons h5 h6 =>
            cases h6
            exact ⟨a, _, _, rfl, hs', .inr (.inr ⟨rfl, _, _, l, L, rfl, h3, h5, hf, h0, hlow, sl⟩)⟩
/-! ### _law_on_stretches -/
def spOnStretches (K : PySem.W.Frag) : Sp := fun vs H Q _ => ∃ (a : Addr) (ns : List Int) (x v : V) (S : Sh), vs = [.ref a, x, v] ∧ SqL K H a (ns.map V.int) ∧ Dp K H x (cD S.P) ∧ AlIn S ∧ Told K H v S.P ∧ Says H (.bl true) Q
theorem sc91 : FnScope ["_law_script", "_law_curve", "_law_told", "_law_k", "_law_low", "_law_high", "_law_word", "_law_width"] ["_law_script", "_law_curve", "_law_told"] (defScope (top 91)) := ⟨rfl, rfl, rfl, by decide +kernel, rfl, by decide +kernel, by decide +kernel⟩
theorem ok_law_on_stretches (F : Df K mg "_law_on_stretches" 91) (cSt : Cal P w K mg base 36 "_law_stretch" (spLawStretch K)) (cV : Cal P w K mg base 43 "verdict" (spVW K)) (cL : Cal P w K mg base 33 "less" (spLess K)) (cW : Cal P w K mg base 36 "worth" (spWorth K)) (cN : Cal P w K mg base 34 "number" (spNumber K)) (cD' : Cal P w K mg base 33 "_law_drawn" (spDrawn K)) (cAb : Cal P w K mg base 36 "_law_about" (spLawAbout K)) (cMi : Cal P w K mg base 35 "minus" (spMinus K)) (cP : Cal P w K mg base 35 "plus" (spPlus K)) : Cal P w K mg base 44 "_law_on_stretches" (spOnStretches K) := by
  refine F.cal sc91 (fun _ _ _ _ _ _ us hl => match us, hl with | [_, _, _], _ => rfl) (fun vs H Q E h => ?_) (fun f cdv A outer s H vs Q E hr h => ?_)
  · obtain ⟨_, _, _, _, _, rfl, _⟩ := h; rfl
  obtain ⟨a, ns, x, v, S, rfl, hs, hx, hin, hT, q⟩ := h
  have hL := LIM_eq
  have hR := RHO_eq
  have hmi := Sh.mapIn hin.o hin.p hin.s
  have szP := Sh.szP hin.s
  have hl5 := hmi.good.l5
  refine ⟨_, (pss_cons (ps_for PassesOwn.never rfl (pi_list (pe_lst (pa_cons (pe_int) (pa_cons (pe_int) pa_nil)))) (pg_name (i := 3) sc91.nd rfl (.inl rfl)) (pss_cons (ps_asg (pe_c cSt hr (by decide) (by rfl) (pa_cons (pv 0) (pa_cons (pv 3) pa_nil))) (pg_tup (by rfl) (pgs_cons (pg_name (i := 4) sc91.nd rfl (.inl rfl)) (pgs_cons (pg_name (i := 5) sc91.nd rfl (.inl rfl)) pgs_nil))))
    (pss_cons (ps_set (i := 6) sc91.nd rfl (.inl rfl) (pe_ix ix_tup (pe_c cV hr (by decide) (by rfl) (pa_cons (pv 1) (pa_cons (pv 4) (pa_cons (pv 5) pa_nil)))) pe_int (fun _ _ => rfl)))
    (pss_cons (ps_if (PW.pt (pw_and (pt_cmpR op_eq (pe_ix ix_tup (pv 2) pe_int (fun _ _ => rfl)) pe_str (nomark _)) (pw_and1 (PW.pt (pw_or (pt_cmpR op_ne (pv 6) pe_str (nomark _)) (pw_or1 (pt_val (pe_c cL hr (by decide) (by rfl) (pa_cons (pe_c cW hr (by decide) (by rfl) (pa_cons (pv 1) (pa_cons (pv 4) pa_nil))) (pa_cons (pe_ix ix_tup (pv 2) pe_int (fun _ _ => rfl)) pa_nil)))))))))) pss_never pss_nil)
    (pss_one (ps_if (PW.pt (pw_and (pt_cmpR op_eq (pe_ix ix_tup (pv 2) pe_int (fun _ _ => rfl)) pe_str (nomark _)) (pw_and1 (pt_cmpR op_eq (pv 6) pe_str (nomark _))))) pss_never pss_nil))))))
    (pss_cons (ps_set (i := 7) sc91.nd rfl (.inl rfl) (pe_c cN hr (by decide) (by rfl) (pa_cons (pe_op op_add pe_int (pe_c cD' hr (by decide) (by rfl) (pa_cons (pv 0) (pa_cons (pe_int) (pa_cons (pe_int) pa_nil))))) (pa_cons (pe_op op_add pe_int (pe_c cD' hr (by decide) (by rfl) (pa_cons (pv 0) (pa_cons (pe_int) (pa_cons (pe_int) pa_nil))))) pa_nil))))
    (pss_cons (ps_if (pt_cmpR op_eq (pe_ix ix_tup (pv 2) pe_int (fun _ _ => rfl)) pe_str (nomark _)) (pss_cons (ps_asg (pe_c cAb hr (by decide) (by rfl) (pa_cons (pe_ix ix_tup (pv 2) pe_int (fun _ _ => rfl)) (pa_cons (pv 7) pa_nil))) (pg_tup (by rfl) (pgs_cons (pg_name (i := 4) sc91.nd rfl (.inl rfl)) (pgs_cons (pg_name (i := 5) sc91.nd rfl (.inl rfl)) pgs_nil))))
    (pss_one (ps_ret (pe_cmpR op_eq (pe_ix ix_tup (pe_c cV hr (by decide) (by rfl) (pa_cons (pv 1) (pa_cons (pv 4) (pa_cons (pv 5) pa_nil)))) pe_int (fun _ _ => rfl)) pe_str (nomark _))))) pss_nil)
    (pss_cons (ps_if (pt_cmpR op_eq (pe_ix ix_tup (pv 2) pe_int (fun _ _ => rfl)) pe_str (nomark _)) (pss_one (ps_ret (pe_cmpR op_eq (pe_ix ix_tup (pe_c cV hr (by decide) (by rfl) (pa_cons (pv 1) (pa_cons (pe_c cMi hr (by decide) (by rfl) (pa_cons (pe_ix ix_tup (pv 2) pe_int (fun _ _ => rfl)) (pa_cons (pv 7) pa_nil))) (pa_cons (pe_c cP hr (by decide) (by rfl) (pa_cons (pe_ix ix_tup (pv 2) pe_int (fun _ _ => rfl)) (pa_cons (pv 7) pa_nil))) pa_nil)))) pe_int (fun _ _ => rfl)) pe_str (nomark _)))) pss_nil)
    (pss_one (ps_ret pe_bl)))))), ?_⟩
  refine ⟨by show 2 ≤ sizeLine; decide, fun l1 nl1 => ?_⟩
  have s1 := same_upd (o := .lst [.int 50, .int 60]) nl1
  refine ⟨l1, rfl, ⟨_, SqL.of upd_same⟩, for_list (K := K) (a := l1) (xs := [.int 50, .int 60]) (fun i σ H1 => ∃ y3 y4 y5 y6, σ = [some (.ref a), some x, some v, y3, y4, y5, y6, none] ∧ Same (upd H l1 (.lst [.int 50, .int 60])) H1) ⟨none, none, none, none, rfl, .refl _⟩ (fun i σ H1 _ h => ?_) (fun i z σ H1 hz h => ?_) (fun σ H1 h => ?_)⟩
  · obtain ⟨_, _, _, _, rfl, s2⟩ := h
    exact s2.seq (SqL.of upd_same)
  · obtain ⟨y3, y4, y5, y6, rfl, s2⟩ := h
    obtain ⟨k, rfl, hk⟩ : ∃ k : Nat, z = .int (k : Nat) ∧ k ≤ 60 := by
      have hi := (List.getElem?_eq_some_iff.mp hz).1
      have hi : i < 2 := hi
      have : i = 0 ∨ i = 1 := by omega
      rcases this with rfl | rfl
      · cases hz; exact ⟨50, rfl, by omega⟩
      · cases hz; exact ⟨60, rfl, by omega⟩
    have s12 := s1.trans s2
    refine ⟨_, rfl, _, rfl, a, ns, k, rfl, s12.seq hs, by omega, fun lo hi hlt sl sh H3 v3 s3 hv3 => ?_⟩
    obtain ⟨a3, vlo, vhi, rfl, hs3, hlo, hhi⟩ := tup2_inv hv3
    refine ⟨_, _, rfl, hs3, rfl, _, _, rfl, _, _, rfl, rfl, ?_⟩
    have s13 := s12.trans s3
    refine ⟨_, rfl, _, rfl, _, rfl, _, _, _, S.P, S.F, lo, hi, 8, rfl, dp_mono s13 hx, hlo, hhi, hlt, hmi, sl, sh, by omega, bd_pow sl (by omega), bd_pow sh (by omega), fun wd hVF H4 a4 y4' s4 hs4 => ?_⟩
    have s14 := s13.trans s4
    refine ⟨a4, _, 0, _, rfl, rfl, hs4, it2_0, ?_⟩
    obtain ⟨ta, td, xs, rfl, hts, hT⟩ := hT.mono s14
    refine ⟨_, rfl, ta, _, 0, _, rfl, rfl, hts, atI_0, rfl, _, rfl, ?_⟩
    have lhs : lo ≤ lo := Rat.le_refl
    have hlh : lo ≤ hi := Rat.le_of_lt hlt
    rcases hT with ⟨rfl, vt, t, rfl, hvt, hneg, st, bt⟩ | ⟨rfl, vL, vs, ve, ss, ee, L, rfl, hvL, hf, hvs, hve, hnn, hroot, sz1, sz2, b1, b2⟩ | ⟨rfl, vl, vL, l, L, rfl, hvl, hvL, hf, l0, hlow, sl32⟩
    · refine ite2 (fun e => absurd (V.str.inj (of_decide_eq_true e)) (by decide)) (fun _ => ?_)
      refine iteF ?_
      refine ⟨_, rfl, ta, _, 0, _, rfl, rfl, hts, atI_0, rfl, _, rfl, ite2 (fun e => absurd (V.str.inj (of_decide_eq_true e)) (by decide)) (fun _ => iteF ?_)⟩
      exact ⟨_, _, _, _, rfl, s2.trans (s3.trans s4)⟩
    · refine ite2 (fun e => absurd (V.str.inj (of_decide_eq_true e)) (by decide)) (fun _ => ?_)
      refine iteF ?_
      refine ⟨_, rfl, ta, _, 0, _, rfl, rfl, hts, atI_0, rfl, _, rfl, ite2 (fun _ => ?_) (fun e => absurd (decide_eq_true rfl) e)⟩
      refine ⟨_, rfl, rfl, _, rfl, ite2 (fun e => ?_) (fun _ => ?_)⟩
      · have ew : wd = "below" := V.str.inj (of_decide_eq_true e)
        rcases hVF with ⟨_, t, _, _, h⟩ | ⟨e2, _⟩ | ⟨e2, _⟩
        · have := hnn t
          exact absurd h (by grind)
        · rw [ew] at e2; exact absurd e2 (by decide)
        · rw [ew] at e2; exact absurd e2 (by decide)
      · exact ⟨_, _, _, _, rfl, s2.trans (s3.trans s4)⟩
    · refine ite2 (fun _ => ?_) (fun e => absurd (decide_eq_true rfl) e)
      have ew : wd = "above" := by
        rcases hVF with ⟨_, t, _, _, h⟩ | ⟨_, _, t, _, _, h⟩ | ⟨e2, _⟩
        · have := hlow t
          exact absurd h (by grind)
        · have := hlow t
          exact absurd h (by grind)
        · exact e2
      subst ew
      refine ⟨_, rfl, rfl, _, rfl, ite2 (fun e => absurd e (by decide)) (fun _ => ?_)⟩
      refine ⟨_, rfl, _, rfl, _, _, S.P, lo, rfl, dp_mono s14 hx, dp_mono s4 hlo, wsz_of (szP.mono (by omega)) hl5 sl (by omega), fun H5 v5 s5 hv5 => ?_⟩
      refine ⟨_, rfl, ta, _, 1, vl, rfl, rfl, sqT_mono s5 hts, rfl, ?_⟩
      have sw : Sz 6000 (ev S.P lo) := (Sz.ev sl szP).mono (by
        have : S.P.length * (1040 + 8 + 1) ≤ 5 * (1040 + 8 + 1) := Nat.mul_le_mul_right _ hl5
        omega)
      refine ⟨_, _, ev S.P lo, l, rfl, hv5, dp_mono s5 hvl, sw.sm (by omega), sl32.sm (by omega), _, rfl, ?_⟩
      have hno : ¬ ev S.P lo < l := fun h => by have := hlow lo; grind
      rw [decide_eq_false hno]
      refine iteF ?_
      refine ⟨_, rfl, ta, _, 0, _, rfl, rfl, sqT_mono s5 hts, atI_0, rfl, _, rfl, ite2 (fun e => absurd (V.str.inj (of_decide_eq_true e)) (by decide)) (fun _ => iteF ?_)⟩
      exact ⟨_, _, _, _, rfl, s2.trans ((s3.trans s4).trans s5)⟩
  · obtain ⟨y3, y4, y5, y6, rfl, s2⟩ := h
    have s12 := s1.trans s2
    refine ⟨_, rfl, a, ns, 70, 5, rfl, s12.seq hs, by omega, by omega, fun i1 hi1 => ?_⟩
    refine ⟨_, _, rfl, rfl, _, rfl, a, ns, 71, 50, rfl, s12.seq hs, by omega, by omega, fun i2 hi2 => ?_⟩
    refine ⟨_, _, rfl, rfl, 1 + (i1 : Int), 1 + (i2 : Int), rfl, by omega, fun H3 vw s3 hvw => ?_⟩
    have sd : Sz 6 (Rat.divInt (1 + (i1 : Int)) (1 + (i2 : Int))) := .divInt (by show (1 + (i1 : Int)).natAbs ≤ 64; omega) (by show (1 + (i2 : Int)).natAbs ≤ 64; omega)
    have d0 := divInt_pos (show 0 < 1 + (i1 : Int) by omega) (show 0 < 1 + (i2 : Int) by omega)
    generalize Rat.divInt (1 + (i1 : Int)) (1 + (i2 : Int)) = d at *
    have s13 := s12.trans s3
    obtain ⟨ta, td, xs, rfl, hts, hT⟩ := hT.mono s13
    refine ⟨_, rfl, ta, _, 0, _, rfl, rfl, hts, atI_0, rfl, _, rfl, ?_⟩
    rcases hT with ⟨rfl, vt, t, rfl, hvt, hneg, st, bt⟩ | ⟨rfl, vL, vs, ve, ss, ee, L, rfl, hvL, hf, hvs, hve, hnn, hroot, sz1, sz2, b1, b2⟩ | ⟨rfl, vl, vL, l, L, rfl, hvl, hvL, hf, l0, hlow, sl32⟩
    · refine ite2 (fun _ => ?_) (fun e => absurd (decide_eq_true rfl) e)
      refine ⟨_, rfl, ta, _, 1, vt, rfl, rfl, hts, rfl, _, rfl, _, _, t, d, rfl, hvt, hvw, st.sm (by omega), sd.sm (by omega), fun H4 v4 s4 hv4 => ?_⟩
      obtain ⟨a4, vlo, vhi, rfl, hs4, hlo, hhi⟩ := tup2_inv hv4
      refine ⟨_, _, rfl, hs4, rfl, _, _, rfl, _, _, rfl, rfl, ?_⟩
      have s14 := s13.trans s4
      obtain ⟨bb1, bb2⟩ := bd_about bt sd
      refine ⟨_, rfl, _, rfl, _, rfl, _, _, _, S.P, S.F, t - d, t + d, 18453, rfl, dp_mono s14 hx, hlo, hhi, by grind, hmi, (st.sub sd).mono (by omega), (st.add sd).mono (by omega), by omega, bb1, bb2, fun wd hVF H5 a5 y5' s5 hs5 => ?_⟩
      have ew : wd = "below" := by
        rcases hVF with ⟨e2, _⟩ | ⟨_, h, _⟩ | ⟨_, h⟩
        · exact e2
        · have := h t (by grind) (by grind)
          exact absurd hneg (by grind)
        · have := h t (by grind) (by grind)
          exact absurd hneg (by grind)
      subst ew
      exact ⟨a5, _, 0, _, rfl, rfl, hs5, it2_0, rfl, q _ (s14.trans s5)⟩
    · refine ite2 (fun e => absurd (V.str.inj (of_decide_eq_true e)) (by decide)) (fun _ => ?_)
      refine ⟨_, rfl, ta, _, 0, _, rfl, rfl, hts, atI_0, rfl, _, rfl, ite2 (fun _ => ?_) (fun e => absurd (decide_eq_true rfl) e)⟩
      obtain ⟨r, r1, r2, r3⟩ := hroot
      refine ⟨_, rfl, _, rfl, ta, _, 2, vs, rfl, rfl, hts, rfl, _, rfl, _, _, ss, d, rfl, hvs, hvw, ⟨sz1.sm (by omega), sd.sm (by omega)⟩, fun H4 v4 s4 hv4 => ?_⟩
      refine ⟨_, rfl, ta, _, 3, ve, rfl, rfl, sqT_mono s4 hts, rfl, _, rfl, _, _, ee, d, rfl, dp_mono s4 hve, dp_mono s4 hvw, ⟨sz2.sm (by omega), sd.sm (by omega)⟩, fun H5 v5 s5 hv5 => ?_⟩
      have s15 := (s13.trans s4).trans s5
      obtain ⟨bb1, _⟩ := bd_about b1 sd
      obtain ⟨_, bb2⟩ := bd_about b2 sd
      refine ⟨_, _, _, S.P, S.F, ss - d, ee + d, 18453, rfl, dp_mono s15 hx, dp_mono s5 hv4, hv5, by grind, hmi, (sz1.sub sd).mono (by omega), (sz2.add sd).mono (by omega), by omega, bb1, bb2, fun wd hVF H6 a6 y6' s6 hs6 => ?_⟩
      have ew : wd = "touches" := by
        rcases hVF with ⟨_, t, _, _, h⟩ | ⟨e2, _⟩ | ⟨_, h⟩
        · have := hnn t
          exact absurd h (by grind)
        · exact e2
        · have := h r (by grind) (by grind)
          exact absurd r3 (by grind)
      subst ew
      exact ⟨a6, _, 0, _, rfl, rfl, hs6, it2_0, rfl, q _ (s15.trans s6)⟩
    · refine ite2 (fun e => absurd (V.str.inj (of_decide_eq_true e)) (by decide)) (fun _ => ?_)
      refine ⟨_, rfl, ta, _, 0, _, rfl, rfl, hts, atI_0, rfl, _, rfl, ite2 (fun e => absurd (V.str.inj (of_decide_eq_true e)) (by decide)) (fun _ => ?_)⟩
      exact q _ s13
end
end NB

set_option Elab.async false
set_option linter.all false
set_option maxRecDepth 100000
set_option maxHeartbeats 4000000
namespace NB
open PySem PySem.Spec PyProof.Rows L2
/-- squares moved and stretched -/
def mvS (k cc : Rat) (L : List (Rat × Pl)) : List (Rat × Pl) := L.map fun wq => (wq.1, mov (str wq.2 k) cc)
theorem ev_ms {k : Rat} (hk : k ≠ 0) (cc x : Rat) (p : Pl) : ev (mov (str p k) cc) x = ev p ((x - cc) / k) := by rw [ev_mov, ev_str hk]
theorem evS_mv {k : Rat} (hk : k ≠ 0) (cc x : Rat) : ∀ L : List (Rat × Pl), evS (mvS k cc L) x = evS L ((x - cc) / k)
  | [] => rfl
  | wq :: r => by
    have ih := evS_mv hk cc x r
    show wq.1 * (ev (mov (str wq.2 k) cc) x * ev (mov (str wq.2 k) cc) x) + evS (mvS k cc r) x = _
    rw [ih, ev_ms hk]; rfl
theorem mvS_take (k cc : Rat) (L : List (Rat × Pl)) {i : Nat} (h : i < L.length) : (mvS k cc L).take (i + 1) = (mvS k cc L).take i ++ [(L[i].1, mov (str L[i].2 k) cc)] := by
  have hl : (mvS k cc L).length = L.length := by simp [mvS]
  rw [List.take_add_one, List.getElem?_eq_getElem (by rw [hl]; exact h)]
  simp [mvS]
theorem ms_facts {k cc : Rat} (hk : k ≠ 0) (sk : Sz 4 k) (sc : Sz 3 cc) {q : Pl} (h0 : q ≠ []) (hN : Norm q) (h3 : q.length ≤ 3) (sq : SzL 4000 q) : mov (str q k) cc ≠ [] ∧ Norm (mov (str q k) cc) ∧ (mov (str q k) cc).length ≤ 3 ∧ SzL 30000 (mov (str q k) cc) := by
  have hl : (mov (str q k) cc).length = q.length := by rw [mov_len _ _ (Norm_str hk hN), str_len]
  have hq := List.length_pos_iff.mpr h0
  refine ⟨fun z => by rw [z] at hl; simp at hl; omega, Norm_mov _ _, by omega, ?_⟩
  have hs : SzL 4012 (str q k) := (SzL.str sq sk).mono (by
    have : q.length * 4 ≤ 3 * 4 := Nat.mul_le_mul_right _ h3
    omega)
  refine (SzL.mov sc hs).mono ?_
  refine Nat.le_trans (movN_mono 4012 3 (show (str q k).length ≤ 3 by rw [str_len]; exact h3)) ?_
  decide
theorem sqOk_mv {k cc : Rat} (hk : k ≠ 0) (sk : Sz 4 k) (sc : Sz 3 cc) {L : List (Rat × Pl)} {P : Pl} (h : SqFine L P) : SqOk 30000 (mvS k cc L) := by
  refine ⟨fun wq hwq => ?_, fun wq hwq => ?_, by simp only [mvS, List.length_map]; exact h.ok.l⟩
  · obtain ⟨v, hv, rfl⟩ := List.mem_map.mp hwq
    obtain ⟨a, b⟩ := h.ok.w v hv
    exact ⟨a, b.mono (by omega)⟩
  · obtain ⟨v, hv, rfl⟩ := List.mem_map.mp hwq
    obtain ⟨a, b, _, d⟩ := h.ok.q v hv
    obtain ⟨f1, f2, f3, f4⟩ := ms_facts hk sk sc a b (h.l3 v hv) d
    exact ⟨f1, f2, Nat.le_trans f3 (by decide), f4⟩
section
variable {P : Program} {w : World} {K : PySem.W.Frag} {mg : Str → Option Value} {base : Heap}
theorem fnok {x : Str} {i : Nat} {N ps : List Str} {k : Nat} {sp : Sp} {f : Addr} {fd : FuncData} (F : FunD K x x (defArgs (top i)) (defBody (top i)) (defScope (top i)) [] [] f fd) (S : FnScope N ps (defScope (top i)))
    (len : ∀ vs H Q E, sp vs H Q E → vs.length = ps.length)
    (hbody : ∀ (f : Addr) (cdv : Value) (A : Around) (outer : List Env) (s : Shared) (H : Hp) (vs : List V) (Q : VK) (E : XK), Room k (A.deeper (envOfC x (defScope (top i)) s.heap.objs.size f cdv)) → sp vs H Q E →
      ∃ t, PSs (cxOf CX0 P w K mg base N x (defScope (top i)) f cdv A outer s H E).nox (defBody (top i)) t ∧ t { nx := fun _ H' => Q .non H', rt := Q } (start N vs) H) : FnOk P w K mg base CX0 (k + 1) f fd ps sp :=
  F.ok S len fun cdv A outer s H vs Q E hr h => by
    obtain ⟨t, h1, h2⟩ := hbody f cdv A outer s H vs Q E hr h
    exact ⟨t, h1.nox, h2⟩
def spLaw (K : PySem.W.Frag) : Sp := fun vs H Q _ => ∃ (a : Addr) (ns : List Int), vs = [.ref a] ∧ SqL K H a (ns.map V.int) ∧ ∀ H', Q (.bl true) H'
theorem sc92 : FnScope ["_law_script", "_law_curve", "_law_places", "_law_told", "_law_c", "_law_k", "_law_other", "_law_some", "_law_weight", "_law_one"] ["_law_script"] (defScope (top 92)) := ⟨rfl, rfl, rfl, by decide +kernel, rfl, by decide +kernel, by decide +kernel⟩
theorem ok_law {f0 : Addr} {fd0 : FuncData} (F : FunD K "law" "law" (defArgs (top 92)) (defBody (top 92)) (defScope (top 92)) [] [] f0 fd0) (B : Bl mg) (cMd : Cal P w K mg base 38 "_law_made" (spLawMade K)) (cAl : Cal P w K mg base 50 "always" (spAlT K)) (cOS : Cal P w K mg base 44 "_law_on_stretches" (spOnStretches K)) (cLn : Cal P w K mg base 35 "_law_number" (spLawNumber K)) (cN : Cal P w K mg base 34 "number" (spNumber K)) (cD' : Cal P w K mg base 33 "_law_drawn" (spDrawn K)) (cMv : Cal P w K mg base 37 "moved" (spMoved K)) (cSt : Cal P w K mg base 36 "stretched" (spStretched K)) (cTk : Cal P w K mg base 37 "taken" (spTaken K)) (cSq : Cal P w K mg base 38 "are_squares" (spAreSquares K)) : FnOk P w K mg base CX0 51 f0 fd0 ["_law_script"] (spLaw K) := by
  refine fnok F sc92 (fun vs H Q E h => ?_) (fun f cdv A outer s H vs Q E hr h => ?_)
  · obtain ⟨_, _, rfl, _⟩ := h; rfl
  obtain ⟨a, ns, rfl, hs, q⟩ := h
  have hL := LIM_eq
  refine ⟨_, (pss_cons (ps_asg (pe_c cMd hr (by decide) (by rfl) (pa_cons (pv 0) (pa_cons (pe_int) pa_nil))) (pg_tup (by rfl) (pgs_cons (pg_name (i := 1) sc92.nd rfl (.inl rfl)) (pgs_cons (pg_name (i := 2) sc92.nd rfl (.inl rfl)) pgs_nil))))
    (pss_cons (ps_set (i := 3) sc92.nd rfl (.inl rfl) (pe_c cAl hr (by decide) (by rfl) (pa_cons (pv 1) pa_nil)))
    (pss_cons (ps_if (pt_not (pt_val (pe_c cOS hr (by decide) (by rfl) (pa_cons (pv 0) (pa_cons (pv 1) (pa_cons (pv 3) pa_nil)))))) pss_never pss_nil)
    (pss_cons (ps_set (i := 4) sc92.nd rfl (.inr rfl) (pe_c cLn hr (by decide) (by rfl) (pa_cons (pv 0) (pa_cons (pe_int) pa_nil))))
    (pss_cons (ps_set (i := 5) sc92.nd rfl (.inr rfl) (pe_c cN hr (by decide) (by rfl) (pa_cons (pe_op op_mulP (pe_ix ix_list (pe_lst (pa_cons (pe_int) (pa_cons (pe_un un_neg pe_int) pa_nil))) (pe_c cD' hr (by decide) (by rfl) (pa_cons (pv 0) (pa_cons (pe_int) (pa_cons (pe_int) pa_nil)))) (fun _ _ => rfl)) (pe_op op_add pe_int (pe_c cD' hr (by decide) (by rfl) (pa_cons (pv 0) (pa_cons (pe_int) (pa_cons (pe_int) pa_nil)))))) (pa_cons (pe_op op_add pe_int (pe_c cD' hr (by decide) (by rfl) (pa_cons (pv 0) (pa_cons (pe_int) (pa_cons (pe_int) pa_nil))))) pa_nil))))
    (pss_cons (ps_set (i := 6) sc92.nd rfl (.inl rfl) (pe_c cMv hr (by decide) (by rfl) (pa_cons (pe_c cSt hr (by decide) (by rfl) (pa_cons (pv 1) (pa_cons (pv 5) pa_nil))) (pa_cons (pv 4) pa_nil))))
    (pss_cons (ps_if (pt_cmpR op_ne (pe_ix ix_tup (pe_c cAl hr (by decide) (by rfl) (pa_cons (pv 6) pa_nil)) pe_int (fun _ _ => rfl)) (pe_ix ix_tup (pv 3) pe_int (fun _ _ => rfl)) (nomark _)) pss_never pss_nil)
    (pss_cons (ps_if (pt_cmpR op_eq (pe_ix ix_tup (pv 3) pe_int (fun _ _ => rfl)) pe_str (nomark _)) (pss_one (ps_ret pe_bl)) pss_nil)
    (pss_cons (ps_setLc (i := 7) (own := [("_law_weight", 8), ("_law_one", 9)]) (g := gTup K 2 (gCons (gName 8) (gCons (gName 9) gNil))) (tt := tYes) rfl sc92.nd rfl rfl (sw_true rfl rfl rfl (by decide +kernel)) (pi_list (pe_ix ix_tup (pv 3) (pe_op op_add pe_int (pe_callTy call_int1 (by rfl) B.int (by decide +kernel) (pa_cons (pe_cmpR op_eq (pe_ix ix_tup (pv 3) pe_int (fun _ _ => rfl)) pe_str (nomark _)) pa_nil))) (fun _ _ => rfl))) (blkOk_by (N := ["_law_script", "_law_curve", "_law_places", "_law_told", "_law_c", "_law_k", "_law_other", "_law_some", "_law_weight", "_law_one"]) (sc := defScope (top 92)) (by decide +kernel))
      (fun _ _ _ _ _ => pg_tup (by rfl) (pgs_cons (pg_name (i := 8) sc92.nd rfl (.inl rfl)) (pgs_cons (pg_name (i := 9) sc92.nd rfl (.inl rfl)) pgs_nil))) (fun _ _ _ _ _ => pts_nil) (fun _ _ _ _ _ => pe_tup (pa_cons (pv 8) (pa_cons (pe_c cMv hr (by decide) (by rfl) (pa_cons (pe_c cSt hr (by decide) (by rfl) (pa_cons (pv 9) (pa_cons (pv 5) pa_nil))) (pa_cons (pv 4) pa_nil))) pa_nil))))
    (pss_cons (ps_if (pt_cmpR op_eq (pe_ix ix_tup (pv 3) pe_int (fun _ _ => rfl)) pe_str (nomark _)) (pss_one (ps_set (i := 6) sc92.nd rfl (.inl rfl) (pe_c cTk hr (by decide) (by rfl) (pa_cons (pv 6) (pa_cons (pe_tup (pa_cons (pe_ix ix_tup (pv 3) pe_int (fun _ _ => rfl)) pa_nil)) pa_nil))))) pss_nil)
    (pss_one (ps_ret (pe_c cSq hr (by decide) (by rfl) (pa_cons (pv 6) (pa_cons (pv 7) pa_nil))))))))))))))), ?_⟩
  refine ⟨_, rfl, a, ns, rfl, hs, fun S hS H1 t1 vc vp s1 hs1 hc => ?_⟩
  refine ⟨_, _, rfl, hs1, rfl, _, _, rfl, _, _, rfl, rfl, ?_⟩
  have hal := hS.al
  refine ⟨_, rfl, vc, S, rfl, hc, hal, fun H2 v2 s2 hT2 => ?_⟩
  have s12 := s1.trans s2
  refine ⟨_, rfl, _, rfl, _, rfl, a, ns, vc, v2, S, rfl, s12.seq hs, dp_mono s2 hc, hal, hT2, fun H3 s3 => ⟨_, rfl, iteF ?_⟩⟩
  have s13 := s12.trans s3
  refine ⟨_, rfl, a, ns, 80, rfl, s13.seq hs, by omega, fun cc scc H4 v4 s4 hv4 => ?_⟩
  have s14 := s13.trans s4
  -- the number to stretch by
  refine ⟨_, rfl, by show 2 ≤ sizeLine; decide, fun l5 nl5 => ?_⟩
  have s5 := same_upd (o := .lst [.int 1, .int (-1)]) nl5
  have s15 := s14.trans s5
  refine ⟨_, rfl, a, ns, 84, 2, rfl, s15.seq hs, by omega, by omega, fun i1 hi1 => ?_⟩
  obtain ⟨sg, hsg, hsg0, hsg1⟩ : ∃ b : Int, [V.int 1, V.int (-1)][i1]? = some (V.int b) ∧ b ≠ 0 ∧ b.natAbs ≤ 1 := by
    have : i1 = 0 ∨ i1 = 1 := by omega
    rcases this with rfl | rfl <;> exact ⟨_, rfl, by decide, by decide⟩
  refine ⟨l5, _, _, _, rfl, rfl, SqL.of upd_same, atI_nat hsg, ?_⟩
  refine ⟨_, rfl, a, ns, 85, 9, rfl, s15.seq hs, by omega, by omega, fun i2 hi2 => ?_⟩
  have hsg3 : sg = 1 ∨ sg = -1 := by omega
  refine ⟨_, _, rfl, rfl, _, _, rfl, rfl, cm_of (Nat.le_trans hsg1 (by decide)) (Nat.le_trans (by omega : (1 + (i2 : Int)).natAbs ≤ 10) (by decide)), ?_⟩
  refine ⟨_, rfl, a, ns, 86, 9, rfl, s15.seq hs, by omega, by omega, fun i3 hi3 => ?_⟩
  have hnum : sg * (1 + (i2 : Int)) ≠ 0 ∧ (sg * (1 + (i2 : Int))).natAbs ≤ 16 := by rcases hsg3 with rfl | rfl <;> constructor <;> omega
  refine ⟨_, _, rfl, rfl, sg * (1 + (i2 : Int)), 1 + (i3 : Int), rfl, by omega, fun H6 v6 s6 hv6 => ?_⟩
  have hk0 := divInt_ne hnum.1 (show 1 + (i3 : Int) ≠ 0 by omega)
  have sk : Sz 4 (Rat.divInt (sg * (1 + (i2 : Int))) (1 + (i3 : Int))) := .divInt hnum.2 (by show (1 + (i3 : Int)).natAbs ≤ 16; omega)
  generalize Rat.divInt (sg * (1 + (i2 : Int))) (1 + (i3 : Int)) = k at *
  have s16 := s15.trans s6
  have s26 := ((s3.trans s4).trans s5).trans s6
  -- the curve moved and stretched
  have szP := Sh.szP hal.s
  have h5 := hal.o.len
  have hc6 := dp_mono (s2.trans s26) hc
  refine ⟨_, rfl, _, rfl, _, _, S.P, k, rfl, hc6, hv6, hk0, by omega, ⟨1040, 4, szP, sk, by omega, by omega⟩, fun H7 v7 s7 hv7 => ?_⟩
  have szs : SzL 1060 (str S.P k) := (SzL.str szP sk).mono (by omega)
  have hmm := movN5 (a := 1060) (b := 3) (show (str S.P k).length ≤ 5 by rw [str_len]; exact h5)
  have hml : (str S.P k).length * (movN 1060 3 (str S.P k).length + 3 + 1) ≤ 5 * 40000 := Nat.mul_le_mul (by rw [str_len]; exact h5) (by omega)
  refine ⟨_, rfl, _, _, str S.P k, cc, rfl, hv7, dp_mono ((s5.trans s6).trans s7) hv4, Norm_str hk0 (Sh.Norm_P S), by rw [str_len]; omega, ⟨1060, 3, szs, scc, by omega, by omega, by omega⟩, fun H8 v8 s8 hv8 => ?_⟩
  have hS0 : S.k = 0 := hS.k0
  have eS : mov (str S.P k) cc = (S.aff k cc).P := ident (Norm_mov _ _) (Sh.Norm_P _) fun x => by
    rw [ev_ms hk0, Sh.ev_P, Sh.ev_P, Sh.aff_val hk0 hS0]
  have hev : ∀ x, ev (S.aff k cc).P x = ev S.P ((x - cc) / k) := fun x => by rw [← eS, ev_ms hk0]
  rw [eS] at hv8
  have s18 := (s16.trans s7).trans s8
  have s28 := (s26.trans s7).trans s8
  have hal' := hS.aff hk0 sk scc
  -- always of it
  refine ⟨_, rfl, _, S.aff k cc, rfl, hv8, hal', fun H9 v9 s9 hT9 => ?_⟩
  obtain ⟨ta9, td9, xs9, rfl, hts9, hW9⟩ := hT9.word
  obtain ⟨ta, td, xs, rfl, hts, hW⟩ := (hT2.mono (s28.trans s9)).word
  refine ⟨ta9, _, 0, _, rfl, rfl, hts9, atI_0, ?_⟩
  have etd : td9 = td := hW9.unique (hW.aff hk0 hev)
  subst etd
  refine ⟨_, rfl, ta, _, 0, _, rfl, rfl, hts, atI_0, rfl, _, rfl, ite2 (fun e => ?_) (fun _ => ?_)⟩
  · have e : (!decide (V.str td9 = V.str td9)) = true := e
    rw [decide_eq_true rfl] at e
    exact absurd e (by decide)
  obtain ⟨ta', td, xs, eta, hts, hT⟩ := hT2.mono (s28.trans s9)
  cases eta
  have s19 := s18.trans s9
  have hc9 := dp_mono s9 hv8
  have hk9 := dp_mono ((s7.trans s8).trans s9) hv6
  have hcc9 := dp_mono (((s5.trans s6).trans (s7.trans s8)).trans s9) hv4
  refine ⟨_, rfl, ta, _, 0, _, rfl, rfl, hts, atI_0, rfl, _, rfl, ?_⟩
  -- the squares moved and stretched
  have comp : ∀ (L : List (Rat × Pl)) (P0 : Pl) (yd D : Addr) (vs : List V), SqFine L P0 → SqL K H9 yd vs → DpAll K H9 vs (L.map wqD) → H9 D = none → ∀ (Qd : Hp → Prop), (∀ H', Acc K H9 D H' ((mvS k cc L).map wqD) → Qd H') → ∀ y7, _ := fun L P0 yd D vs hf hys hyn dn Qd hQd y7 =>
    lc_list (K := K) (a := yd) (xs := vs) (g := gTup K 2 (gCons (gName 8) (gCons (gName 9) gNil))) (tt := tYes) (te := tTup (tCons (tVar 8) (tCons (tCall (spMoved K) [] E0 (tCons (tCall (spStretched K) [] E0 (tCons (tVar 9) (tCons (tVar 5) tNil))) (tCons (tVar 4) tNil))) tNil))) (vs := [8, 9]) (σ := [some (.ref a), some vc, some vp, some (.ref ta), some v4, some v6, some v8, y7, none, none]) (H1 := H9) (D := D) (Qd := Qd)
      (fun i H' => Acc K H9 D H' (((mvS k cc L).take i).map wqD)) (.start dn) (fun i H' _ h => h.sm.seq hys) (fun i z H' hz h => by
        have hlL := hf.ok.l
        obtain ⟨hi, hz2⟩ := wq_get hyn hz
        have hmem := List.getElem_mem hi
        obtain ⟨q0, qN, _, sq⟩ := hf.ok.q _ hmem
        have q3 := hf.l3 _ hmem
        obtain ⟨tz, va, vb, rfl, hsz, ha, hb⟩ := tup2_inv (dp_mono h.sm hz2)
        refine ⟨_, _, rfl, hsz, rfl, _, _, rfl, _, _, rfl, rfl, ?_⟩
        refine ⟨rfl, tYes_of ?_⟩
        refine ⟨_, rfl, _, rfl, _, rfl, _, _, L[i].2, k, rfl, hb, dp_mono h.sm hk9, hk0, by omega, ⟨4000, 4, sq, sk, by omega, by omega⟩, fun H11 v11 s11 hv11 => ?_⟩
        have szq : SzL 4012 (str L[i].2 k) := (SzL.str sq sk).mono (by omega)
        have hmm := movN5 (a := 4012) (b := 3) (show (str L[i].2 k).length ≤ 5 by rw [str_len]; omega)
        have hml : (str L[i].2 k).length * (movN 4012 3 (str L[i].2 k).length + 3 + 1) ≤ 5 * 140000 := Nat.mul_le_mul (by rw [str_len]; omega) (by omega)
        refine ⟨_, rfl, _, _, str L[i].2 k, cc, rfl, hv11, dp_mono (h.sm.trans s11) hcc9, Norm_str hk0 qN, by rw [str_len]; omega, ⟨4012, 3, szq, scc, by omega, by omega, by omega⟩, fun H12 v12 s12' hv12 => ?_⟩
        refine ⟨by show 2 ≤ sizeLine; decide, fun t13 nt13 => ?_⟩
        have s13' := same_upd (o := .tup [va, v12]) nt13
        obtain ⟨acc, e1, e2, h2⟩ := h.push ((s11.trans s12').trans s13') dn (y := .ref t13) (d := wqD (L[i].1, mov (str L[i].2 k) cc)) (.tup (SqT.of upd_same) (.cons (dp_mono ((s11.trans s12').trans s13') ha) (.cons (dp_mono s13' hv12) .nil))) (nl_wqD _) (nls_wq _)
        refine ⟨acc, e1, line_ok (by rw [e2, List.length_map, List.length_take]; omega), ?_⟩
        rw [mvS_take k cc L hi, List.map_append]
        exact h2) (fun H' h => by
        have hvl := dpa_len hyn
        rw [List.length_map] at hvl
        rw [List.take_of_length_le (by simp [mvS]; omega)] at h
        exact hQd H' h)
  have fin : ∀ (L : List (Rat × Pl)) (P0 R0 : Pl) (D : Addr) (vo : V) (H' H'' : Hp), SqFine L P0 → Acc K H9 D H' ((mvS k cc L).map wqD) → Same H' H'' → Dp K H'' vo (cD R0) → Norm R0 → (∀ x, ev R0 x = ev P0 ((x - cc) / k)) → spAreSquares K [vo, .ref D] H'' (fun u h => Q u h) E0 := fun L P0 R0 D vo H' H'' hf hA s11 hvo hN hv => by
    obtain ⟨acc, e1, n1⟩ := (hA.up s11).ex
    exact ⟨_, _, R0, mvS k cc L, rfl, hvo, .lst (SqL.of e1) n1, hN, ⟨30000, by omega, sqOk_mv hk0 sk scc hf⟩, fun x => by rw [evS_mv hk0, hf.ev, hv], fun _ _ => q _⟩
  rcases hT with ⟨rfl, vt, t, rfl, hvt, hneg, st, bt⟩ | ⟨rfl, vL, vs, ve, ss, ee, L, rfl, hvL, hf, hvs, hve, hnn, hroot, sz1, sz2, b1, b2⟩ | ⟨rfl, vl, vL, l, L, rfl, hvl, hvL, hf, l0, hlow, sl32⟩
  · refine ite2 (fun _ => q _) (fun e => absurd (decide_eq_true rfl) e)
  · refine ite2 (fun e => absurd (V.str.inj (of_decide_eq_true e)) (by decide)) (fun _ => ?_)
    cases hvL with
    | @lst yd vs' _ hys hyn =>
    refine ⟨_, rfl, _, rfl, ta, _, 0, _, rfl, rfl, hts, atI_0, rfl, ?_⟩
    have e1 : decide (V.str "touches" = V.str "above") = false := decide_eq_false fun z => absurd (V.str.inj z) (by decide)
    refine .inr ⟨_, rfl, _, _, rfl, rfl, ta, _, _, .ref yd, rfl, rfl, hts, ?_, yd, rfl, ⟨_, hys⟩, fun D dn => comp L S.P yd D vs' hf hys hyn dn _ (fun H' hA => ?_) none⟩
    · show atI [V.str "touches", .ref yd, vs, ve] (1 + if decide (V.str "touches" = V.str "above") = true then (1 : Int) else 0) = _
      rw [e1]; rfl
    · refine ⟨_, rfl, ta, _, 0, _, rfl, rfl, sqT_mono hA.sm hts, atI_0, rfl, _, rfl, ite2 (fun e => absurd (V.str.inj (of_decide_eq_true e)) (by decide)) (fun _ => ?_)⟩
      exact ⟨_, rfl, _, rfl, fin L S.P (S.aff k cc).P D v8 H' H' hf hA (.refl _) (dp_mono hA.sm hc9) (Sh.Norm_P _) hev⟩
  · refine ite2 (fun e => absurd (V.str.inj (of_decide_eq_true e)) (by decide)) (fun _ => ?_)
    cases hvL with
    | @lst yd vs' _ hys hyn =>
    refine ⟨_, rfl, _, rfl, ta, _, 0, _, rfl, rfl, hts, atI_0, rfl, ?_⟩
    have e1 : decide (V.str "above" = V.str "above") = true := decide_eq_true rfl
    refine .inr ⟨_, rfl, _, _, rfl, rfl, ta, _, _, .ref yd, rfl, rfl, hts, ?_, yd, rfl, ⟨_, hys⟩, fun D dn => comp L (tak S.P [l]) yd D vs' hf hys hyn dn _ (fun H' hA => ?_) none⟩
    · show atI [V.str "above", vl, .ref yd] (1 + if decide (V.str "above" = V.str "above") = true then (1 : Int) else 0) = _
      rw [e1]; rfl
    · refine ⟨_, rfl, ta, _, 0, _, rfl, rfl, sqT_mono hA.sm hts, atI_0, rfl, _, rfl, ite2 (fun _ => ?_) (fun e => absurd (decide_eq_true rfl) e)⟩
      refine ⟨_, rfl, _, rfl, ta, _, 1, vl, rfl, rfl, sqT_mono hA.sm hts, rfl, by show 1 ≤ sizeLine; decide, fun t10 nt10 => ?_⟩
      have s10 := same_upd (o := .tup [vl]) nt10
      have szP' := Sh.szP hal'.s
      have h5' := hal'.o.len
      refine ⟨_, _, (S.aff k cc).P, [l], rfl, dp_mono (hA.sm.trans s10) hc9, .tup (SqT.of upd_same) (.cons (dp_mono (hA.sm.trans s10) hvl) .nil), by omega, by show 1 ≤ 100; decide, fun x hx => (szP' x hx).sm (by omega), fun x hx => ?_, fun H11 v11 s11 hv11 => ?_⟩
      · have : x = l := by simpa using hx
        rw [this]; exact sl32.sm (by omega)
      refine ⟨_, rfl, _, rfl, fin L (tak S.P [l]) (tak (S.aff k cc).P [l]) D v11 H' H11 hf hA (s10.trans s11) hv11 (Norm_tak _ _) fun x => ?_⟩
      rw [ev_tak, ev_tak, hev]
      simp only [ev]; grind
end
end NB

set_option Elab.async false
set_option linter.all false
set_option maxRecDepth 100000
set_option maxHeartbeats 0
namespace NB
open PySem PySem.Spec PyProof.Rows L2

def mkD (x : Str) (i : Nat) : He.DefD := ⟨(x, none), x, x, defArgs (top i), defBody (top i), defScope (top i), [], []⟩
def dfs : List He.DefD := [mkD "divisor_of" 8, mkD "number" 9, mkD "plus" 10, mkD "minus" 11, mkD "times" 12, mkD "over" 13, mkD "less" 14, mkD "sign" 15, mkD "without_noughts" 20, mkD "curve_of" 21, mkD "worth" 22, mkD "at_power" 23, mkD "scaled" 24, mkD "added" 25, mkD "taken" 26, mkD "product" 27, mkD "multiplied" 28, mkD "slope" 29, mkD "moved" 30, mkD "stretched" 31, mkD "divided" 32, mkD "with_last_one" 34, mkD "common" 35, mkD "plain" 36, mkD "split" 37, mkD "ask_stretch" 40, mkD "choose" 41, mkD "of_whole" 42, mkD "on_one" 43, mkD "mixed" 44, mkD "sign_of" 45, mkD "ask_mapped" 48, mkD "is_nought" 49, mkD "has_unlike_ends" 50, mkD "slope_numbers" 51, mkD "row_on" 52, mkD "halfway" 53, mkD "map_of" 54, mkD "half_way" 59, mkD "sign_at" 60, mkD "below_place" 61, mkD "has_place" 62, mkD "verdict" 63, mkD "without_sign" 69, mkD "bound" 70, mkD "are_squares" 71, mkD "look_at" 72, mkD "far_place" 73, mkD "on_all" 74, mkD "is_never_below" 75, mkD "lowered" 76, mkD "is_left_good" 77, mkD "good_place" 79, mkD "squares_of_rest" 80, mkD "squares_of" 81, mkD "some_less" 82, mkD "always" 83, mkD "_law_drawn" 85, mkD "_law_number" 86, mkD "_law_made" 87, mkD "_law_stretch" 88, mkD "_law_about" 90, mkD "_law_on_stretches" 91, mkD "law" 92]
def fas : List He.Fa := [.glo "divisor_of", .glo "number", .glo "plus", .glo "minus", .glo "times", .glo "over", .glo "less", .glo "sign", .glo "without_noughts", .glo "curve_of", .glo "worth", .glo "at_power", .glo "scaled", .glo "added", .glo "taken", .glo "product", .glo "multiplied", .glo "slope", .glo "moved", .glo "stretched", .glo "divided", .glo "with_last_one", .glo "common", .glo "plain", .glo "split", .glo "ask_stretch", .glo "choose", .glo "of_whole", .glo "on_one", .glo "mixed", .glo "sign_of", .glo "ask_mapped", .glo "is_nought", .glo "has_unlike_ends", .glo "slope_numbers", .glo "row_on", .glo "halfway", .glo "map_of", .glo "half_way", .glo "sign_at", .glo "below_place", .glo "has_place", .glo "verdict", .glo "without_sign", .glo "bound", .glo "are_squares", .glo "look_at", .glo "far_place", .glo "on_all", .glo "is_never_below", .glo "lowered", .glo "is_left_good", .glo "good_place", .glo "squares_of_rest", .glo "squares_of", .glo "some_less", .glo "always", .glo "_law_drawn", .glo "_law_number", .glo "_law_made", .glo "_law_stretch", .glo "_law_about", .glo "_law_on_stretches", .glo "law", .free "abs", .free "len", .free "reversed", .free "max", .free "min", .free "range", .free "tuple", .free "list", .free "int", .int "MOST_NUMBERS" 13, .glo "NOUGHT_curves", .glo "ONE_curves", .int "MOST_DEGREE_mixes" 12, .int "MOST_MAPPED" 6, .int "MOST_DEGREE_verdicts" 6, .int "MOST_DEGREE_squares" 4, .int "MOST_SQUARED" 6, .glo "ONE_squares", .glo "NOUGHT_squares"]
def exK (K : PySem.W.Frag) : Bool := seerK K && (He.tupB K "NOUGHT_curves" [.int 0, .int 1] && (He.tupB K "ONE_curves" [.int 1, .int 1] && (He.tupB K "ONE_squares" [.int 1, .int 1] && (He.tupB K "NOUGHT_squares" [.int 0, .int 1]))))
abbrev HkA : Type := Bool × He.AlD
def obK (K : PySem.W.Frag) : HkA := (exK K, He.obsD fas dfs K)
def vaK : HkA := (true, He.valD dfs)
def rts (g : Addr → Option Obj) : List Addr := cStatics :: sysModules :: He.asD g 4
def obG (g : Addr → Option Obj) : HkA := obK (He.frG g (rts g))
def hk : PySem.W.Hook where
  α := HkA
  obs := fun s => obG s.heap.get?
  val := fun _ => vaK
  says := fun _ h => ∃ K : PySem.W.Frag, K.In h ∧ obK K = vaK
  of := fun _ _ e => ⟨_, He.frG_in, e⟩
  keeps := fun _ _ _ ⟨K, hK, c⟩ k => ⟨K, PySem.W.Frag.In.keeps hK k, c⟩
def ob (s : PySem.W.SharedT) : HkA := obG (HandSHeadRun.getT s)
theorem ob_eq (s : PySem.W.SharedT) : ob s = hk.obs s.abs := by
  have e : HandSHeadRun.getT s = s.abs.heap.get? := funext (HandSHeadRun.getT_eq s)
  show obG (HandSHeadRun.getT s) = obG s.abs.heap.get?
  rw [e]

abbrev R : PySem.W.OpenRow := PySem.W.OpenLaw.row PySem.Challenge.rw_neverbelow_k38_whole_all_numbers_and_str
def nm0 : List PySem.Str := ["BelowError", "NoNumber", "NoCurve", "TooGreat", "NoStretch", "NoNear", "divisor_of", "number", "plus", "minus", "times", "over", "less", "sign", "MOST_NUMBERS", "NOUGHT_curves"]
def nm1 : List PySem.Str := ["ONE_curves", "without_noughts", "curve_of", "worth", "at_power", "scaled", "added", "taken", "product", "multiplied", "slope", "moved", "stretched", "divided", "with_last_one", "common"]
def nm2 : List PySem.Str := ["plain", "split", "MOST_DEGREE_mixes", "ask_stretch", "choose", "of_whole", "on_one", "mixed", "sign_of", "MOST_MAPPED", "ask_mapped", "is_nought", "has_unlike_ends", "slope_numbers", "row_on", "halfway"]
def nm3 : List PySem.Str := ["map_of", "narrowed_by", "near_to", "MOST_DEGREE_verdicts", "half_way", "sign_at", "below_place", "has_place", "verdict", "MOST_DEGREE_squares", "MOST_SQUARED", "ONE_squares", "NOUGHT_squares", "without_sign", "bound", "are_squares"]
def nm4 : List PySem.Str := ["look_at", "far_place", "on_all", "is_never_below", "lowered", "is_left_good", "nearer", "good_place", "squares_of_rest", "squares_of", "some_less", "always", "_law_drawn", "_law_number", "_law_made", "_law_stretch"]
def nm5 : List PySem.Str := ["_law_rising", "_law_about", "_law_on_stretches"]
def nms : List PySem.Str := nm0 ++ (nm1 ++ (nm2 ++ (nm3 ++ (nm4 ++ (nm5)))))
theorem run (w : World) : HandSHeadRun.RunEq R (PySem.W.view R.prog [92]) hk ob 4000 nms w := by
  intro os
  kernel_rfl

theorem facts {P : Program} {w : World} {K : PySem.W.Frag} {h : Heap} {mg : Str → Option Value} {f : Addr} (ht : P.given.tree = none) (X : K.In h) (G : h.Ns mainGlobals mg) (hfa : mg ("law" : Str) = some (.ref f)) (cc : obK K = vaK) :
    ∃ fd : FuncData, (∀ (s : Shared) (v : Value), BindsTo s fd ⟨[v], []⟩ [("_law_script", v)]) ∧ ∀ base : Heap, K.In base → base.Ns mainGlobals mg → FnOk P w K mg base CX0 51 f fd ["_law_script"] (spLaw K) := by
  have hex : exK K = true := congrArg (fun z : HkA => z.1) cc
  have c : He.SaysD fas dfs K := congrArg (fun z : HkA => z.2) cc
  have hex2 := hex
  unfold exK at hex2
  simp only [Bool.and_eq_true] at hex2
  obtain ⟨hs, t_NOUGHT_curves, t_ONE_curves, t_ONE_squares, t_NOUGHT_squares⟩ := hex2
  have d_divisor_of : Df K mg "divisor_of" 8 := by obtain ⟨fd, F⟩ := c.def_ 0 (d := mkD "divisor_of" 8) rfl; exact ⟨_, fd, F, He.glo_ok X G (c.fact 0 (f := .glo "divisor_of") rfl)⟩
  have d_number : Df K mg "number" 9 := by obtain ⟨fd, F⟩ := c.def_ 1 (d := mkD "number" 9) rfl; exact ⟨_, fd, F, He.glo_ok X G (c.fact 1 (f := .glo "number") rfl)⟩
  have d_plus : Df K mg "plus" 10 := by obtain ⟨fd, F⟩ := c.def_ 2 (d := mkD "plus" 10) rfl; exact ⟨_, fd, F, He.glo_ok X G (c.fact 2 (f := .glo "plus") rfl)⟩
  have d_minus : Df K mg "minus" 11 := by obtain ⟨fd, F⟩ := c.def_ 3 (d := mkD "minus" 11) rfl; exact ⟨_, fd, F, He.glo_ok X G (c.fact 3 (f := .glo "minus") rfl)⟩
  have d_times : Df K mg "times" 12 := by obtain ⟨fd, F⟩ := c.def_ 4 (d := mkD "times" 12) rfl; exact ⟨_, fd, F, He.glo_ok X G (c.fact 4 (f := .glo "times") rfl)⟩
  have d_over : Df K mg "over" 13 := by obtain ⟨fd, F⟩ := c.def_ 5 (d := mkD "over" 13) rfl; exact ⟨_, fd, F, He.glo_ok X G (c.fact 5 (f := .glo "over") rfl)⟩
  have d_less : Df K mg "less" 14 := by obtain ⟨fd, F⟩ := c.def_ 6 (d := mkD "less" 14) rfl; exact ⟨_, fd, F, He.glo_ok X G (c.fact 6 (f := .glo "less") rfl)⟩
  have d_sign : Df K mg "sign" 15 := by obtain ⟨fd, F⟩ := c.def_ 7 (d := mkD "sign" 15) rfl; exact ⟨_, fd, F, He.glo_ok X G (c.fact 7 (f := .glo "sign") rfl)⟩
  have d_without_noughts : Df K mg "without_noughts" 20 := by obtain ⟨fd, F⟩ := c.def_ 8 (d := mkD "without_noughts" 20) rfl; exact ⟨_, fd, F, He.glo_ok X G (c.fact 8 (f := .glo "without_noughts") rfl)⟩
  have d_curve_of : Df K mg "curve_of" 21 := by obtain ⟨fd, F⟩ := c.def_ 9 (d := mkD "curve_of" 21) rfl; exact ⟨_, fd, F, He.glo_ok X G (c.fact 9 (f := .glo "curve_of") rfl)⟩
  have d_worth : Df K mg "worth" 22 := by obtain ⟨fd, F⟩ := c.def_ 10 (d := mkD "worth" 22) rfl; exact ⟨_, fd, F, He.glo_ok X G (c.fact 10 (f := .glo "worth") rfl)⟩
  have d_at_power : Df K mg "at_power" 23 := by obtain ⟨fd, F⟩ := c.def_ 11 (d := mkD "at_power" 23) rfl; exact ⟨_, fd, F, He.glo_ok X G (c.fact 11 (f := .glo "at_power") rfl)⟩
  have d_scaled : Df K mg "scaled" 24 := by obtain ⟨fd, F⟩ := c.def_ 12 (d := mkD "scaled" 24) rfl; exact ⟨_, fd, F, He.glo_ok X G (c.fact 12 (f := .glo "scaled") rfl)⟩
  have d_added : Df K mg "added" 25 := by obtain ⟨fd, F⟩ := c.def_ 13 (d := mkD "added" 25) rfl; exact ⟨_, fd, F, He.glo_ok X G (c.fact 13 (f := .glo "added") rfl)⟩
  have d_taken : Df K mg "taken" 26 := by obtain ⟨fd, F⟩ := c.def_ 14 (d := mkD "taken" 26) rfl; exact ⟨_, fd, F, He.glo_ok X G (c.fact 14 (f := .glo "taken") rfl)⟩
  have d_product : Df K mg "product" 27 := by obtain ⟨fd, F⟩ := c.def_ 15 (d := mkD "product" 27) rfl; exact ⟨_, fd, F, He.glo_ok X G (c.fact 15 (f := .glo "product") rfl)⟩
  have d_multiplied : Df K mg "multiplied" 28 := by obtain ⟨fd, F⟩ := c.def_ 16 (d := mkD "multiplied" 28) rfl; exact ⟨_, fd, F, He.glo_ok X G (c.fact 16 (f := .glo "multiplied") rfl)⟩
  have d_slope : Df K mg "slope" 29 := by obtain ⟨fd, F⟩ := c.def_ 17 (d := mkD "slope" 29) rfl; exact ⟨_, fd, F, He.glo_ok X G (c.fact 17 (f := .glo "slope") rfl)⟩
  have d_moved : Df K mg "moved" 30 := by obtain ⟨fd, F⟩ := c.def_ 18 (d := mkD "moved" 30) rfl; exact ⟨_, fd, F, He.glo_ok X G (c.fact 18 (f := .glo "moved") rfl)⟩
  have d_stretched : Df K mg "stretched" 31 := by obtain ⟨fd, F⟩ := c.def_ 19 (d := mkD "stretched" 31) rfl; exact ⟨_, fd, F, He.glo_ok X G (c.fact 19 (f := .glo "stretched") rfl)⟩
  have d_divided : Df K mg "divided" 32 := by obtain ⟨fd, F⟩ := c.def_ 20 (d := mkD "divided" 32) rfl; exact ⟨_, fd, F, He.glo_ok X G (c.fact 20 (f := .glo "divided") rfl)⟩
  have d_with_last_one : Df K mg "with_last_one" 34 := by obtain ⟨fd, F⟩ := c.def_ 21 (d := mkD "with_last_one" 34) rfl; exact ⟨_, fd, F, He.glo_ok X G (c.fact 21 (f := .glo "with_last_one") rfl)⟩
  have d_common : Df K mg "common" 35 := by obtain ⟨fd, F⟩ := c.def_ 22 (d := mkD "common" 35) rfl; exact ⟨_, fd, F, He.glo_ok X G (c.fact 22 (f := .glo "common") rfl)⟩
  have d_plain : Df K mg "plain" 36 := by obtain ⟨fd, F⟩ := c.def_ 23 (d := mkD "plain" 36) rfl; exact ⟨_, fd, F, He.glo_ok X G (c.fact 23 (f := .glo "plain") rfl)⟩
  have d_split : Df K mg "split" 37 := by obtain ⟨fd, F⟩ := c.def_ 24 (d := mkD "split" 37) rfl; exact ⟨_, fd, F, He.glo_ok X G (c.fact 24 (f := .glo "split") rfl)⟩
  have d_ask_stretch : Df K mg "ask_stretch" 40 := by obtain ⟨fd, F⟩ := c.def_ 25 (d := mkD "ask_stretch" 40) rfl; exact ⟨_, fd, F, He.glo_ok X G (c.fact 25 (f := .glo "ask_stretch") rfl)⟩
  have d_choose : Df K mg "choose" 41 := by obtain ⟨fd, F⟩ := c.def_ 26 (d := mkD "choose" 41) rfl; exact ⟨_, fd, F, He.glo_ok X G (c.fact 26 (f := .glo "choose") rfl)⟩
  have d_of_whole : Df K mg "of_whole" 42 := by obtain ⟨fd, F⟩ := c.def_ 27 (d := mkD "of_whole" 42) rfl; exact ⟨_, fd, F, He.glo_ok X G (c.fact 27 (f := .glo "of_whole") rfl)⟩
  have d_on_one : Df K mg "on_one" 43 := by obtain ⟨fd, F⟩ := c.def_ 28 (d := mkD "on_one" 43) rfl; exact ⟨_, fd, F, He.glo_ok X G (c.fact 28 (f := .glo "on_one") rfl)⟩
  have d_mixed : Df K mg "mixed" 44 := by obtain ⟨fd, F⟩ := c.def_ 29 (d := mkD "mixed" 44) rfl; exact ⟨_, fd, F, He.glo_ok X G (c.fact 29 (f := .glo "mixed") rfl)⟩
  have d_sign_of : Df K mg "sign_of" 45 := by obtain ⟨fd, F⟩ := c.def_ 30 (d := mkD "sign_of" 45) rfl; exact ⟨_, fd, F, He.glo_ok X G (c.fact 30 (f := .glo "sign_of") rfl)⟩
  have d_ask_mapped : Df K mg "ask_mapped" 48 := by obtain ⟨fd, F⟩ := c.def_ 31 (d := mkD "ask_mapped" 48) rfl; exact ⟨_, fd, F, He.glo_ok X G (c.fact 31 (f := .glo "ask_mapped") rfl)⟩
  have d_is_nought : Df K mg "is_nought" 49 := by obtain ⟨fd, F⟩ := c.def_ 32 (d := mkD "is_nought" 49) rfl; exact ⟨_, fd, F, He.glo_ok X G (c.fact 32 (f := .glo "is_nought") rfl)⟩
  have d_has_unlike_ends : Df K mg "has_unlike_ends" 50 := by obtain ⟨fd, F⟩ := c.def_ 33 (d := mkD "has_unlike_ends" 50) rfl; exact ⟨_, fd, F, He.glo_ok X G (c.fact 33 (f := .glo "has_unlike_ends") rfl)⟩
  have d_slope_numbers : Df K mg "slope_numbers" 51 := by obtain ⟨fd, F⟩ := c.def_ 34 (d := mkD "slope_numbers" 51) rfl; exact ⟨_, fd, F, He.glo_ok X G (c.fact 34 (f := .glo "slope_numbers") rfl)⟩
  have d_row_on : Df K mg "row_on" 52 := by obtain ⟨fd, F⟩ := c.def_ 35 (d := mkD "row_on" 52) rfl; exact ⟨_, fd, F, He.glo_ok X G (c.fact 35 (f := .glo "row_on") rfl)⟩
  have d_halfway : Df K mg "halfway" 53 := by obtain ⟨fd, F⟩ := c.def_ 36 (d := mkD "halfway" 53) rfl; exact ⟨_, fd, F, He.glo_ok X G (c.fact 36 (f := .glo "halfway") rfl)⟩
  have d_map_of : Df K mg "map_of" 54 := by obtain ⟨fd, F⟩ := c.def_ 37 (d := mkD "map_of" 54) rfl; exact ⟨_, fd, F, He.glo_ok X G (c.fact 37 (f := .glo "map_of") rfl)⟩
  have d_half_way : Df K mg "half_way" 59 := by obtain ⟨fd, F⟩ := c.def_ 38 (d := mkD "half_way" 59) rfl; exact ⟨_, fd, F, He.glo_ok X G (c.fact 38 (f := .glo "half_way") rfl)⟩
  have d_sign_at : Df K mg "sign_at" 60 := by obtain ⟨fd, F⟩ := c.def_ 39 (d := mkD "sign_at" 60) rfl; exact ⟨_, fd, F, He.glo_ok X G (c.fact 39 (f := .glo "sign_at") rfl)⟩
  have d_below_place : Df K mg "below_place" 61 := by obtain ⟨fd, F⟩ := c.def_ 40 (d := mkD "below_place" 61) rfl; exact ⟨_, fd, F, He.glo_ok X G (c.fact 40 (f := .glo "below_place") rfl)⟩
  have d_has_place : Df K mg "has_place" 62 := by obtain ⟨fd, F⟩ := c.def_ 41 (d := mkD "has_place" 62) rfl; exact ⟨_, fd, F, He.glo_ok X G (c.fact 41 (f := .glo "has_place") rfl)⟩
  have d_verdict : Df K mg "verdict" 63 := by obtain ⟨fd, F⟩ := c.def_ 42 (d := mkD "verdict" 63) rfl; exact ⟨_, fd, F, He.glo_ok X G (c.fact 42 (f := .glo "verdict") rfl)⟩
  have d_without_sign : Df K mg "without_sign" 69 := by obtain ⟨fd, F⟩ := c.def_ 43 (d := mkD "without_sign" 69) rfl; exact ⟨_, fd, F, He.glo_ok X G (c.fact 43 (f := .glo "without_sign") rfl)⟩
  have d_bound : Df K mg "bound" 70 := by obtain ⟨fd, F⟩ := c.def_ 44 (d := mkD "bound" 70) rfl; exact ⟨_, fd, F, He.glo_ok X G (c.fact 44 (f := .glo "bound") rfl)⟩
  have d_are_squares : Df K mg "are_squares" 71 := by obtain ⟨fd, F⟩ := c.def_ 45 (d := mkD "are_squares" 71) rfl; exact ⟨_, fd, F, He.glo_ok X G (c.fact 45 (f := .glo "are_squares") rfl)⟩
  have d_look_at : Df K mg "look_at" 72 := by obtain ⟨fd, F⟩ := c.def_ 46 (d := mkD "look_at" 72) rfl; exact ⟨_, fd, F, He.glo_ok X G (c.fact 46 (f := .glo "look_at") rfl)⟩
  have d_far_place : Df K mg "far_place" 73 := by obtain ⟨fd, F⟩ := c.def_ 47 (d := mkD "far_place" 73) rfl; exact ⟨_, fd, F, He.glo_ok X G (c.fact 47 (f := .glo "far_place") rfl)⟩
  have d_on_all : Df K mg "on_all" 74 := by obtain ⟨fd, F⟩ := c.def_ 48 (d := mkD "on_all" 74) rfl; exact ⟨_, fd, F, He.glo_ok X G (c.fact 48 (f := .glo "on_all") rfl)⟩
  have d_is_never_below : Df K mg "is_never_below" 75 := by obtain ⟨fd, F⟩ := c.def_ 49 (d := mkD "is_never_below" 75) rfl; exact ⟨_, fd, F, He.glo_ok X G (c.fact 49 (f := .glo "is_never_below") rfl)⟩
  have d_lowered : Df K mg "lowered" 76 := by obtain ⟨fd, F⟩ := c.def_ 50 (d := mkD "lowered" 76) rfl; exact ⟨_, fd, F, He.glo_ok X G (c.fact 50 (f := .glo "lowered") rfl)⟩
  have d_is_left_good : Df K mg "is_left_good" 77 := by obtain ⟨fd, F⟩ := c.def_ 51 (d := mkD "is_left_good" 77) rfl; exact ⟨_, fd, F, He.glo_ok X G (c.fact 51 (f := .glo "is_left_good") rfl)⟩
  have d_good_place : Df K mg "good_place" 79 := by obtain ⟨fd, F⟩ := c.def_ 52 (d := mkD "good_place" 79) rfl; exact ⟨_, fd, F, He.glo_ok X G (c.fact 52 (f := .glo "good_place") rfl)⟩
  have d_squares_of_rest : Df K mg "squares_of_rest" 80 := by obtain ⟨fd, F⟩ := c.def_ 53 (d := mkD "squares_of_rest" 80) rfl; exact ⟨_, fd, F, He.glo_ok X G (c.fact 53 (f := .glo "squares_of_rest") rfl)⟩
  have d_squares_of : Df K mg "squares_of" 81 := by obtain ⟨fd, F⟩ := c.def_ 54 (d := mkD "squares_of" 81) rfl; exact ⟨_, fd, F, He.glo_ok X G (c.fact 54 (f := .glo "squares_of") rfl)⟩
  have d_some_less : Df K mg "some_less" 82 := by obtain ⟨fd, F⟩ := c.def_ 55 (d := mkD "some_less" 82) rfl; exact ⟨_, fd, F, He.glo_ok X G (c.fact 55 (f := .glo "some_less") rfl)⟩
  have d_always : Df K mg "always" 83 := by obtain ⟨fd, F⟩ := c.def_ 56 (d := mkD "always" 83) rfl; exact ⟨_, fd, F, He.glo_ok X G (c.fact 56 (f := .glo "always") rfl)⟩
  have d__law_drawn : Df K mg "_law_drawn" 85 := by obtain ⟨fd, F⟩ := c.def_ 57 (d := mkD "_law_drawn" 85) rfl; exact ⟨_, fd, F, He.glo_ok X G (c.fact 57 (f := .glo "_law_drawn") rfl)⟩
  have d__law_number : Df K mg "_law_number" 86 := by obtain ⟨fd, F⟩ := c.def_ 58 (d := mkD "_law_number" 86) rfl; exact ⟨_, fd, F, He.glo_ok X G (c.fact 58 (f := .glo "_law_number") rfl)⟩
  have d__law_made : Df K mg "_law_made" 87 := by obtain ⟨fd, F⟩ := c.def_ 59 (d := mkD "_law_made" 87) rfl; exact ⟨_, fd, F, He.glo_ok X G (c.fact 59 (f := .glo "_law_made") rfl)⟩
  have d__law_stretch : Df K mg "_law_stretch" 88 := by obtain ⟨fd, F⟩ := c.def_ 60 (d := mkD "_law_stretch" 88) rfl; exact ⟨_, fd, F, He.glo_ok X G (c.fact 60 (f := .glo "_law_stretch") rfl)⟩
  have d__law_about : Df K mg "_law_about" 90 := by obtain ⟨fd, F⟩ := c.def_ 61 (d := mkD "_law_about" 90) rfl; exact ⟨_, fd, F, He.glo_ok X G (c.fact 61 (f := .glo "_law_about") rfl)⟩
  have d__law_on_stretches : Df K mg "_law_on_stretches" 91 := by obtain ⟨fd, F⟩ := c.def_ 62 (d := mkD "_law_on_stretches" 91) rfl; exact ⟨_, fd, F, He.glo_ok X G (c.fact 62 (f := .glo "_law_on_stretches") rfl)⟩
  have B : Bl mg := ⟨He.free_ok X G (c.fact 64 (f := .free "abs") rfl), He.free_ok X G (c.fact 65 (f := .free "len") rfl), He.free_ok X G (c.fact 66 (f := .free "reversed") rfl), He.free_ok X G (c.fact 67 (f := .free "max") rfl), He.free_ok X G (c.fact 68 (f := .free "min") rfl), He.free_ok X G (c.fact 69 (f := .free "range") rfl), He.free_ok X G (c.fact 70 (f := .free "tuple") rfl), He.free_ok X G (c.fact 71 (f := .free "list") rfl), He.free_ok X G (c.fact 72 (f := .free "int") rfl)⟩
  have i_MOST_NUMBERS : KI mg "MOST_NUMBERS" 13 := by obtain ⟨t, e⟩ := He.int_ok X G (c.fact 73 (f := .int "MOST_NUMBERS" 13) rfl); exact ⟨_, e, t, rfl⟩
  have i_MOST_DEGREE_mixes : KI mg "MOST_DEGREE_mixes" 12 := by obtain ⟨t, e⟩ := He.int_ok X G (c.fact 76 (f := .int "MOST_DEGREE_mixes" 12) rfl); exact ⟨_, e, t, rfl⟩
  have i_MOST_MAPPED : KI mg "MOST_MAPPED" 6 := by obtain ⟨t, e⟩ := He.int_ok X G (c.fact 77 (f := .int "MOST_MAPPED" 6) rfl); exact ⟨_, e, t, rfl⟩
  have i_MOST_DEGREE_verdicts : KI mg "MOST_DEGREE_verdicts" 6 := by obtain ⟨t, e⟩ := He.int_ok X G (c.fact 78 (f := .int "MOST_DEGREE_verdicts" 6) rfl); exact ⟨_, e, t, rfl⟩
  have i_MOST_DEGREE_squares : KI mg "MOST_DEGREE_squares" 4 := by obtain ⟨t, e⟩ := He.int_ok X G (c.fact 79 (f := .int "MOST_DEGREE_squares" 4) rfl); exact ⟨_, e, t, rfl⟩
  have i_MOST_SQUARED : KI mg "MOST_SQUARED" 6 := by obtain ⟨t, e⟩ := He.int_ok X G (c.fact 80 (f := .int "MOST_SQUARED" 6) rfl); exact ⟨_, e, t, rfl⟩
  have n_NOUGHT_curves : KN K mg "NOUGHT_curves" 0 := ⟨_, He.glo_ok X G (c.fact 74 (f := .glo "NOUGHT_curves") rfl), fun H => num_of (q := 0) (He.tupB_ok t_NOUGHT_curves H)⟩
  have n_ONE_curves : KN K mg "ONE_curves" 1 := ⟨_, He.glo_ok X G (c.fact 75 (f := .glo "ONE_curves") rfl), fun H => num_of (q := 1) (He.tupB_ok t_ONE_curves H)⟩
  have n_ONE_squares : KN K mg "ONE_squares" 1 := ⟨_, He.glo_ok X G (c.fact 81 (f := .glo "ONE_squares") rfl), fun H => num_of (q := 1) (He.tupB_ok t_ONE_squares H)⟩
  have n_NOUGHT_squares : KN K mg "NOUGHT_squares" 0 := ⟨_, He.glo_ok X G (c.fact 82 (f := .glo "NOUGHT_squares") rfl), fun H => num_of (q := 0) (He.tupB_ok t_NOUGHT_squares H)⟩
  obtain ⟨fd, F⟩ := c.def_ 63 (d := mkD "law" 92) rfl
  have e := hfa.symm.trans (He.glo_ok X G (c.fact 63 (f := .glo "law") rfl))
  cases e
  have b := FunD.bindsA (ps := ["_law_script"]) F fun _ _ _ _ _ _ us hl => match us, hl with | [_], _ => rfl
  refine ⟨fd, fun s v => b s [v] rfl, fun base _ _ => ?_⟩
  have c1 : Cal P w K mg base 33 "divisor_of" spGcd := ok_divisor_of d_divisor_of
  have c2 : Cal P w K mg base 34 "number" (spNumber K) := ok_number d_number B hs ht c1
  have c3 : Cal P w K mg base 35 "plus" (spPlus K) := ok_plus d_plus c2
  have c4 : Cal P w K mg base 35 "minus" (spMinus K) := ok_minus d_minus c2
  have c5 : Cal P w K mg base 35 "times" (spTimes K) := ok_times d_times c2
  have c6 : Cal P w K mg base 35 "over" (spOver K) := ok_over d_over c2
  have c7 : Cal P w K mg base 33 "less" (spLess K) := ok_less d_less
  have c8 : Cal P w K mg base 33 "sign" (spSign K) := ok_sign d_sign B
  have c9 : Cal P w K mg base 33 "without_noughts" (spWN K) := ok_without_noughts d_without_noughts B
  have c10 : Cal P w K mg base 33 "without_noughts" (spWNt K) := ok_without_noughtsT d_without_noughts B
  have c11 : Cal P w K mg base 34 "curve_of" (spCurveOf K) := ok_curve_of d_curve_of B i_MOST_NUMBERS c9
  have c12 : Cal P w K mg base 36 "worth" (spWorth K) := ok_worth d_worth B n_NOUGHT_curves c3 c5
  have c13 : Cal P w K mg base 33 "at_power" (spAtPower K) := ok_at_power d_at_power B n_NOUGHT_curves
  have c14 : Cal P w K mg base 36 "scaled" (spScaled K) := ok_scaled d_scaled c9 c5
  have c15 : Cal P w K mg base 36 "added" (spAdded K) := ok_added d_added B c9 c3 c13
  have c16 : Cal P w K mg base 37 "taken" (spTaken K) := ok_taken d_taken c15 c14
  have c17 : Cal P w K mg base 36 "product" (spProduct K) := ok_product d_product B n_NOUGHT_curves c9 c3 c5
  have c18 : Cal P w K mg base 34 "curve_of" (spCurveOfT K) := ok_curve_ofT d_curve_of B i_MOST_NUMBERS c10
  have c19 : Cal P w K mg base 37 "multiplied" (spMultiplied K) := ok_multiplied d_multiplied c18 c17
  have c20 : Cal P w K mg base 36 "slope" (spSlope K) := ok_slope d_slope B c5
  have c21 : Cal P w K mg base 37 "moved" (spMoved K) := ok_moved d_moved B n_ONE_curves c15 c17 c9
  have c22 : Cal P w K mg base 36 "stretched" (spStretched K) := ok_stretched d_stretched B n_ONE_curves c6 c5
  have c23 : Cal P w K mg base 38 "divided" (spDivided K) := ok_divided d_divided B n_NOUGHT_curves c6 c5 c16
  have c24 : Cal P w K mg base 37 "with_last_one" (spWLO K) := ok_with_last_one d_with_last_one n_ONE_curves c14 c6
  have c25 : Cal P w K mg base 39 "common" (spCommon K) := ok_common d_common c23 c24
  have c26 : Cal P w K mg base 40 "plain" (spPlain K) := ok_plain d_plain c24 c23 c25 c20
  have c27 : Cal P w K mg base 41 "split" (spSplit K) := ok_split d_split B n_ONE_curves c25 c20 c26 c17 c23
  have c28 : Cal P w K mg base 34 "ask_stretch" (spAskStretch K) := ok_ask_stretch d_ask_stretch c7
  have c29 : Cal P w K mg base 33 "choose" spChoose := ok_choose d_choose B
  have c30 : Cal P w K mg base 35 "of_whole" (spOfWhole K) := ok_of_whole d_of_whole c2
  have c31 : Cal P w K mg base 38 "on_one" (spOnOne K) := ok_on_one d_on_one B c21 c4 c30 c22 c6
  have c32 : Cal P w K mg base 39 "mixed" (spMixed K) := ok_mixed d_mixed B i_MOST_DEGREE_mixes c28 c31 c30 c3 c5 c2 c29
  have c33 : Cal P w K mg base 34 "sign_of" (spSignOf K) := ok_sign_of d_sign_of B c8
  have c34 : Cal P w K mg base 35 "ask_mapped" (spAskMapped K) := ok_ask_mapped d_ask_mapped B i_MOST_MAPPED c28
  have c35 : Cal P w K mg base 37 "is_nought" (spIsNought K) := ok_is_nought d_is_nought c8 c12
  have c36 : Cal P w K mg base 37 "has_unlike_ends" (spUnlike K) := ok_has_unlike_ends d_has_unlike_ends c8 c12
  have c37 : Cal P w K mg base 40 "slope_numbers" (spSlopeNumbers K) := ok_slope_numbers d_slope_numbers B c20 c32
  have c38 : Cal P w K mg base 36 "halfway" (spHalf K) := ok_halfway d_halfway c6 c3 c2
  have c39 : Cal P w K mg base 36 "half_way" (spHalf K) := ok_half_way d_half_way c6 c3
  have c40 : Cal P w K mg base 41 "row_on" (spRowOn K) := ok_row_on d_row_on B c32 c33 c36 c37
  have c41 : Cal P w K mg base 42 "map_of" (spMapOf K) := ok_map_of d_map_of B c34 c26 c35 c40 c38
  have c42 : Cal P w K mg base 37 "sign_at" (spSignAt K) := ok_sign_at d_sign_at c8 c12
  have c43 : Cal P w K mg base 38 "below_place" (spBelowPlace K) := ok_below_place d_below_place c42 c39
  have c44 : Cal P w K mg base 33 "has_place" (spHasPlace K) := ok_has_place d_has_place B
  have c45 : Cal P w K mg base 43 "verdict" (spVerdict K) := ok_verdict d_verdict B i_MOST_DEGREE_verdicts c7 c41 c43 c44
  have c46 : Cal P w K mg base 36 "without_sign" (spWithoutSign K) := ok_without_sign d_without_sign n_NOUGHT_squares c8 c4
  have c47 : Cal P w K mg base 37 "bound" (spBound K) := ok_bound d_bound n_NOUGHT_squares n_ONE_squares c46 c6 c7 c3
  have c48 : Cal P w K mg base 33 "look_at" (spLookAt K) := ok_look_at d_look_at B i_MOST_DEGREE_squares
  have c49 : Cal P w K mg base 38 "far_place" (spFarPlace K) := ok_far_place d_far_place n_NOUGHT_squares c47 c4 c8 c12
  have c50 : Cal P w K mg base 44 "on_all" (spOnAll K) := ok_on_all d_on_all n_NOUGHT_squares c49 c47 c45 c4
  have c51 : Cal P w K mg base 45 "is_never_below" (spNeverBelow K) := ok_is_never_below d_is_never_below c50
  have c52 : Cal P w K mg base 38 "are_squares" (spAreSquares K) := ok_are_squares d_are_squares B i_MOST_SQUARED c8 c15 c14 c19
  have c53 : Cal P w K mg base 39 "lowered" (spLowered K) := ok_lowered d_lowered n_NOUGHT_squares n_ONE_squares c12 c6 c20 c5 c11 c4 c16 c14 c19 c23
  have c54 : Cal P w K mg base 46 "is_left_good" (spLeftGood K) := ok_is_left_good d_is_left_good c8 c12 c51
  have c55 : Cal P w K mg base 47 "good_place" (spGoodPlace K) := ok_good_place d_good_place n_NOUGHT_squares c20 c47 c41 c4 c54 c53
  have c56 : Cal P w K mg base 33 "squares_of_rest" (spSqRest K CC) := ok_squares_rest_const d_squares_of_rest B n_ONE_squares
  have c_sqC : Cal P w K mg base 43 "squares_of" (spSqOf K CC) := ok_squares_of (j := 33) (k := 42) (by decide) (by decide) d_squares_of c27 c56 c19
  have c57 : Cal P w K mg base 48 "squares_of_rest" (spSqRest K CB) := ok_squares_of_rest d_squares_of_rest B n_NOUGHT_squares n_ONE_squares c55 c53 c4 c12 c19 c_sqC
  have c_sqB : Cal P w K mg base 49 "squares_of" (spSqOf K CB) := ok_squares_of (j := 48) (k := 48) (by decide) (by decide) d_squares_of c27 c57 c19
  have c58 : Cal P w K mg base 46 "some_less" (spSomeLess K) := ok_some_less d_some_less n_ONE_squares c51 c16 c6
  have c59 : Cal P w K mg base 50 "always" (spAlways K) := ok_always d_always c48 c50 c58 c_sqB c16
  have c60 : Cal P w K mg base 33 "_law_drawn" (spDrawn K) := ok_law_drawn d__law_drawn B
  have c61 : Cal P w K mg base 35 "_law_number" (spLawNumber K) := ok_law_number d__law_number c60 c2
  have c62 : Cal P w K mg base 36 "_law_stretch" (spLawStretch K) := ok_law_stretch d__law_stretch c61 c60 c2 c3
  have c63 : Cal P w K mg base 36 "_law_about" (spLawAbout K) := ok_law_about d__law_about c4 c3
  have c64 : Cal P w K mg base 38 "_law_made" (spLawMade K) := ok_law_made d__law_made B c2 c60 c61 c11 c4 c19 c15
  have c_vw : Cal P w K mg base 43 "verdict" (spVW K) := ok_vw c45
  have c_alT : Cal P w K mg base 50 "always" (spAlT K) := ok_alT c59
  have c65 : Cal P w K mg base 44 "_law_on_stretches" (spOnStretches K) := ok_law_on_stretches d__law_on_stretches c62 c_vw c7 c12 c2 c60 c63 c4 c3
  exact ok_law F B c64 c_alT c65 c61 c2 c60 c21 c22 c16 c52
end NB

open PySem PySem.W PySem.Calls PyProof.Rows
theorem PySem.Challenge.cw_neverbelow_k38_whole_all_numbers_and_str_holds : PySem.Challenge.rw_neverbelow_k38_whole_all_numbers_and_str.Holds := by
  w_on; o_law
  refine HandSHeadRun.head_any (r := OpenLaw.row PySem.Challenge.rw_neverbelow_k38_whole_all_numbers_and_str) (q := view (OpenLaw.row PySem.Challenge.rw_neverbelow_k38_whole_all_numbers_and_str).prog [92]) (H := NB.hk) (ob := NB.ob) (M := 4000) (loose := NB.nms) (d := HandSHeadRun.topDef (OpenLaw.row PySem.Challenge.rw_neverbelow_k38_whole_all_numbers_and_str).prog 92) (kwd := []) NB.ob_eq
    (by kernel_rfl) (fun s => by kernel_rfl) NB.run (by kernel_rfl) (by kernel_rfl) (by kernel_rfl) (by rfl) (by first | assumption | decide +kernel) (by decide +kernel) ⟨rfl, rfl, rfl, rfl, rfl, by decide +kernel⟩ ?hw ?hc
  case hw => w_witness2
  case hc =>
    refine L2.walk_ofE (l := PySem.Challenge.rw_neverbelow_k38_whole_all_numbers_and_str) (n := 63) (k := 51) (x := "_law_script") (CX := L2.CX0) rfl (by decide) (by kernel_rfl) ⟨rfl, by decide, by decide⟩ ?F (fun _ _ _ _ z => z)
    intro w mg fa h Y G hmg0
    obtain ⟨K, KX, c⟩ := Y
    have hmg : mg ("law" : PySem.Str) = some (.ref fa) := by
      have e : (HandSHeadRun.topDef (OpenLaw.row PySem.Challenge.rw_neverbelow_k38_whole_all_numbers_and_str).prog 92).name = ("law" : PySem.Str) := by kernel_rfl
      rw [← e]
      exact hmg0
    obtain ⟨fd, hb, hF⟩ := NB.facts (P := (PySem.Challenge.rw_neverbelow_k38_whole_all_numbers_and_str).prog) (w := w) (by rfl) KX G hmg c
    exact ⟨K, fd, NB.spLaw K, KX, hb, fun H a ns hl _ hS => ⟨a, ns, rfl, hS, fun _ => rfl⟩, hF⟩
