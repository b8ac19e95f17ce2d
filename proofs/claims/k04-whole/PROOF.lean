import PyProof.Rows.All
import HandS.ForMost
import HandS.Wide
import HandS.TupAny
import HandS.Deep
import HandS.IsInst
import HandS.Zip
import HandS.Walk
import KE.SortData
import HandS.TupSets
import HandS.SetFor
import HandS.Conv
import HandS.ExcIs
import KE.GoesEnum
import KE.GoesMore
import HandS.ExcOwn
import KE.KDictDisplayH
import HandS.Dict
import HandS.Defaults
import HandS.HeadHook2
import PySem.Challenge.RW_eachhandtied_k04_whole_all_trees_and_how
import KE.OsSortAny
import HandS.AnyAll
import HandS.Style
import HandS.WordsExc
import HandS.Flow
import HandS.Head0
import HandS.Head1
import HandS.Head2
import HandS.HeadEnd
import HandS.HeadHook1
section
set_option autoImplicit false
/-! Determinants of integer matrices, from nothing: rows, linear, alternating. -/
namespace K4

def sumN : Nat → (Nat → Int) → Int
  | 0, _ => 0
  | n + 1, f => sumN n f + f n
theorem sumN_congr : ∀ (n : Nat) (f g : Nat → Int), (∀ i, i < n → f i = g i) → sumN n f = sumN n g
  | 0, _, _, _ => rfl
  | n + 1, f, g, h => by
    show sumN n f + f n = sumN n g + g n
    rw [sumN_congr n f g (fun i hi => h i (by omega)), h n (by omega)]
theorem sumN_lin (c : Int) : ∀ (n : Nat) (f g : Nat → Int), sumN n (fun i => c * f i + g i) = c * sumN n f + sumN n g
  | 0, _, _ => by simp [sumN]
  | n + 1, f, g => by
    show sumN n (fun i => c * f i + g i) + (c * f n + g n) = c * (sumN n f + f n) + (sumN n g + g n)
    rw [sumN_lin c n f g, Int.mul_add]
    omega
theorem sumN_zero (n : Nat) (f : Nat → Int) (h : ∀ i, i < n → f i = 0) : sumN n f = 0 := by
  induction n with
  | zero => rfl
  | succ n ih =>
    show sumN n f + f n = 0
    rw [ih (fun i hi => h i (by omega)), h n (by omega)]
    rfl
/-- only one term counts -/
theorem sumN_one (n s : Nat) (f : Nat → Int) (hs : s < n) (h : ∀ i, i < n → i ≠ s → f i = 0) : sumN n f = f s := by
  induction n with
  | zero => omega
  | succ n ih =>
    show sumN n f + f n = f s
    by_cases e : s = n
    · subst e
      rw [sumN_zero s f (fun i hi => h i (by omega) (by omega))]
      omega
    · rw [ih (by omega) (fun i hi hn => h i (by omega) hn), h n (by omega) (by omega)]
      omega
/-- only two terms count -/
theorem sumN_two (n s t : Nat) (f : Nat → Int) (hst : s < t) (ht : t < n) (h : ∀ i, i < n → i ≠ s → i ≠ t → f i = 0) : sumN n f = f s + f t := by
  induction n with
  | zero => omega
  | succ n ih =>
    show sumN n f + f n = f s + f t
    by_cases e : t = n
    · subst e
      rw [sumN_one t s f hst (fun i hi hn => h i (by omega) hn (by omega))]
    · rw [ih (by omega) (fun i hi hn hm => h i (by omega) hn hm), h n (by omega) (by omega) (by omega)]
      omega

abbrev Mx := Nat → Nat → Int
def skip (r i : Nat) : Nat := if i < r then i else i + 1
def unskip (r s : Nat) : Nat := if s < r then s else s - 1
def sgn (r : Nat) : Int := if r % 2 = 0 then 1 else -1
def det : Nat → Mx → Int
  | 0, _ => 1
  | n + 1, A => sumN (n + 1) fun r => sgn r * (A r 0 * det n (fun i j => A (skip r i) (j + 1)))
def setR (A : Mx) (s : Nat) (x : Nat → Int) : Mx := fun i => if i = s then x else A i
def delta (i j : Nat) : Int := if i = j then 1 else 0

theorem setR_same (A : Mx) (s : Nat) (x : Nat → Int) : setR A s x s = x := by simp [setR]
theorem setR_ne (A : Mx) (s i : Nat) (x : Nat → Int) (h : i ≠ s) : setR A s x i = A i := by simp [setR, h]
theorem setR_self (A : Mx) (s : Nat) : setR A s (A s) = A := by
  funext i
  unfold setR
  split
  · rename_i h; rw [h]
  · rfl
theorem setR_setR (A : Mx) (s : Nat) (x y : Nat → Int) : setR (setR A s x) s y = setR A s y := by
  funext i
  unfold setR
  split <;> rfl
theorem setR_comm (A : Mx) (s t : Nat) (x y : Nat → Int) (h : s ≠ t) : setR (setR A s x) t y = setR (setR A t y) s x := by
  funext i
  unfold setR
  by_cases h1 : i = t
  · by_cases h2 : i = s
    · omega
    · simp [h1, Ne.symm h]
  · simp [h1]

theorem det_congr : ∀ (n : Nat) (A B : Mx), (∀ i, i < n → ∀ j, j < n → A i j = B i j) → det n A = det n B
  | 0, _, _, _ => rfl
  | n + 1, A, B, h => by
    refine sumN_congr _ _ _ fun r hr => ?_
    rw [h r hr 0 (by omega), det_congr n _ (fun i j => B (skip r i) (j + 1)) (fun i hi j hj => h _ (by unfold skip; split <;> omega) _ (by omega))]

theorem minor_same (A : Mx) (s : Nat) (x : Nat → Int) : (fun i j => setR A s x (skip s i) (j + 1)) = fun i j => A (skip s i) (j + 1) := by
  funext i j
  rw [setR_ne]
  unfold skip
  split <;> omega
theorem skip_unskip (r s : Nat) (h : r ≠ s) : skip r (unskip r s) = s := by
  by_cases h1 : s < r
  · rw [show unskip r s = s from if_pos h1]
    exact if_pos h1
  · rw [show unskip r s = s - 1 from if_neg h1]
    have e : skip r (s - 1) = s - 1 + 1 := if_neg (by omega)
    omega
theorem unskip_skip (r i : Nat) : unskip r (skip r i) = i := by
  by_cases h1 : i < r
  · rw [show skip r i = i from if_pos h1]
    exact if_pos h1
  · rw [show skip r i = i + 1 from if_neg h1]
    have e : unskip r (i + 1) = i + 1 - 1 := if_neg (by omega)
    omega
theorem minor_ne (A : Mx) (r s : Nat) (x : Nat → Int) (h : r ≠ s) : (fun i j => setR A s x (skip r i) (j + 1)) = setR (fun i j => A (skip r i) (j + 1)) (unskip r s) (fun j => x (j + 1)) := by
  funext i j
  by_cases e : i = unskip r s
  · have e2 : skip r i = s := by
      rw [e]
      exact skip_unskip r s h
    rw [e2, setR_same, e, setR_same]
  · have e2 : skip r i ≠ s := by
      intro z
      apply e
      rw [← z]
      exact (unskip_skip r i).symm
    rw [setR_ne _ _ _ _ e2, setR_ne _ _ _ _ e]

theorem mul_lin_aux (a c b d e : Int) : a * ((c * b + d) * e) = c * (a * (b * e)) + a * (d * e) := by
  rw [Int.add_mul, Int.mul_add, Int.mul_assoc c b e, Int.mul_left_comm a c]
theorem mul_lin_aux2 (a b c d e : Int) : a * (b * (c * d + e)) = c * (a * (b * d)) + a * (b * e) := by
  rw [Int.mul_add, Int.mul_add, Int.mul_left_comm b c d, Int.mul_left_comm a c]

theorem det_lin : ∀ (n : Nat) (A : Mx) (s : Nat) (c : Int) (x y : Nat → Int), s < n →
    det n (setR A s (fun j => c * x j + y j)) = c * det n (setR A s x) + det n (setR A s y)
  | 0, _, _, _, _, _, h => by omega
  | n + 1, A, s, c, x, y, h => by
    show sumN (n + 1) _ = c * sumN (n + 1) _ + sumN (n + 1) _
    rw [← sumN_lin]
    refine sumN_congr _ _ _ fun r hr => ?_
    by_cases e : r = s
    · subst e
      rw [minor_same, minor_same, minor_same, setR_same, setR_same, setR_same]
      exact mul_lin_aux _ _ _ _ _
    · rw [minor_ne A r s _ e, minor_ne A r s _ e, minor_ne A r s _ e, setR_ne _ _ _ _ e, setR_ne _ _ _ _ e, setR_ne _ _ _ _ e]
      rw [show (fun j => (fun j => c * x j + y j) (j + 1)) = (fun j => c * (fun j => x (j + 1)) j + (fun j => y (j + 1)) j) from rfl]
      rw [det_lin n _ (unskip r s) c (fun j => x (j + 1)) (fun j => y (j + 1)) (by unfold unskip; split <;> omega)]
      exact mul_lin_aux2 _ _ _ _ _

theorem det_adj : ∀ (n : Nat) (A : Mx) (s : Nat), s + 1 < n → A s = A (s + 1) → det n A = 0
  | 0, _, _, h, _ => by omega
  | n + 1, A, s, h, e => by
    show sumN (n + 1) _ = 0
    rw [sumN_two (n + 1) s (s + 1) _ (by omega) h]
    · have em : (fun i j => A (skip s i) (j + 1)) = fun i j => A (skip (s + 1) i) (j + 1) := by
        funext i j
        unfold skip
        by_cases h1 : i < s
        · rw [if_pos h1, if_pos (by omega)]
        · by_cases h2 : i = s
          · subst h2
            rw [if_neg h1, if_pos (by omega), e]
          · rw [if_neg h1, if_neg (by omega)]
      have es : sgn (s + 1) = - sgn s := by
        unfold sgn
        split <;> split <;> omega
      rw [em, e, es, Int.neg_mul]
      omega
    · intro r hr h1 h2
      rw [det_adj n _ (unskip r s) (by unfold unskip; split <;> omega)]
      · simp
      · funext j
        show A (skip r (unskip r s)) (j + 1) = A (skip r (unskip r s + 1)) (j + 1)
        have e1 : skip r (unskip r s) = s := skip_unskip r s h1
        have e2 : skip r (unskip r s + 1) = s + 1 := by
          rw [← skip_unskip r (s + 1) h2]
          congr 1
          unfold unskip
          split <;> split <;> omega
        rw [e1, e2, e]

theorem det_add (n : Nat) (A : Mx) (s : Nat) (x y : Nat → Int) (h : s < n) : det n (setR A s (fun j => x j + y j)) = det n (setR A s x) + det n (setR A s y) := by
  have q := det_lin n A s 1 x y h
  rw [Int.one_mul] at q
  rw [← q]
  congr 2
  funext j
  rw [Int.one_mul]
theorem det_row_zero (n : Nat) (A : Mx) (s : Nat) (h : s < n) (hz : ∀ j, A s j = 0) : det n A = 0 := by
  have e : A = setR A s (fun j => (fun _ => (0 : Int)) j + (fun _ => (0 : Int)) j) := by
    funext i j
    unfold setR
    split
    · rename_i h1; subst h1; rw [hz]; rfl
    · rfl
  have e2 : setR A s (fun _ => (0 : Int)) = A := by
    funext i j
    unfold setR
    split
    · rename_i h1; subst h1; rw [hz]
    · rfl
  have q := det_add n A s (fun _ => 0) (fun _ => 0) h
  rw [← e, e2] at q
  omega
theorem det_smul (n : Nat) (A : Mx) (s : Nat) (c : Int) (x : Nat → Int) (h : s < n) : det n (setR A s (fun j => c * x j)) = c * det n (setR A s x) := by
  have q := det_lin n A s c x (fun _ => 0) h
  rw [det_row_zero n (setR A s fun _ => 0) s h (fun j => by rw [setR_same]), Int.add_zero] at q
  rw [← q]
  congr 2
  funext j
  rw [Int.add_zero]

/-- from «two rows alike give 0» the change of sign -/
theorem swap_of (n : Nat) (r s : Nat) (hr : r < n) (hs : s < n) (hrs : r ≠ s) (A : Mx)
    (alt : ∀ z : Nat → Int, det n (setR (setR A r z) s z) = 0) (x y : Nat → Int) :
    det n (setR (setR A r x) s y) = - det n (setR (setR A r y) s x) := by
  have q := alt (fun j => x j + y j)
  rw [det_add n _ s x y hs] at q
  rw [setR_comm A r s _ x hrs, setR_comm A r s _ y hrs, det_add n _ r x y hr, det_add n _ r x y hr] at q
  rw [← setR_comm A r s _ _ hrs, ← setR_comm A r s _ _ hrs, ← setR_comm A r s _ _ hrs, ← setR_comm A r s _ _ hrs, alt x, alt y] at q
  omega
theorem det_alike : ∀ (d n : Nat) (A : Mx) (r : Nat), r + 1 + d < n → A r = A (r + 1 + d) → det n A = 0
  | 0, n, A, r, h, e => det_adj n A r h e
  | d + 1, n, A, r, h, e => by
    have hs : r + 1 + d < n := by omega
    have ea : ∀ z : Nat → Int, det n (setR (setR A (r + 1 + d) z) (r + 1 + d + 1) z) = 0 := fun z => by
      refine det_adj n _ (r + 1 + d) (by omega) ?_
      rw [setR_same, setR_ne _ _ _ _ (by omega), setR_same]
    have q := swap_of n (r + 1 + d) (r + 1 + d + 1) hs h (by omega) A ea (A (r + 1 + d)) (A (r + 1 + d + 1))
    rw [setR_self, setR_self] at q
    rw [q, det_alike d n _ r hs]
    · rfl
    · rw [setR_ne _ _ _ _ (by omega), setR_ne _ _ _ _ (by omega), setR_ne _ _ _ _ (by omega), setR_same]
      exact e
theorem det_rows_eq (n : Nat) (A : Mx) (r s : Nat) (hr : r < n) (hs : s < n) (h : r ≠ s) (e : A r = A s) : det n A = 0 := by
  by_cases q : r < s
  · obtain ⟨d, rfl⟩ : ∃ d, s = r + 1 + d := ⟨s - r - 1, by omega⟩
    exact det_alike d n A r hs e
  · obtain ⟨d, rfl⟩ : ∃ d, r = s + 1 + d := ⟨r - s - 1, by omega⟩
    exact det_alike d n A s hr e.symm
theorem det_swap (n : Nat) (A : Mx) (r s : Nat) (hr : r < n) (hs : s < n) (h : r ≠ s) (x y : Nat → Int) :
    det n (setR (setR A r x) s y) = - det n (setR (setR A r y) s x) :=
  swap_of n r s hr hs h A (fun z => det_rows_eq n _ r s hr hs h (by rw [setR_same, setR_ne _ _ _ _ h, setR_same])) x y
/-- a multiple of another row added -/
theorem det_rowop (n : Nat) (A : Mx) (r s : Nat) (c : Int) (hr : r < n) (hs : s < n) (h : r ≠ s) : det n (setR A r (fun j => A r j + c * A s j)) = det n A := by
  have e : (fun j => A r j + c * A s j) = fun j => c * A s j + A r j := by
    funext j
    omega
  rw [e, det_lin n A r c (A s) (A r) hr, setR_self, det_rows_eq n (setR A r (A s)) r s hr hs h (by rw [setR_same, setR_ne _ _ _ _ (Ne.symm h)])]
  omega
/-- .. to many rows at once -/
theorem det_rowops (n : Nat) (A : Mx) (v : Nat) (c : Nat → Int) (hv : v < n) : det n (fun i j => if i = v then A v j else A i j + c i * A v j) = det n A := by
  have key : ∀ k, k ≤ n → det n (fun i j => if i < k ∧ i ≠ v then A i j + c i * A v j else A i j) = det n A := by
    intro k
    induction k with
    | zero =>
      intro _
      exact det_congr n _ _ fun i _ j _ => if_neg (by omega)
    | succ k ih =>
      intro hk
      by_cases e : k = v
      · rw [← ih (by omega)]
        refine det_congr n _ _ fun i _ j _ => ?_
        by_cases h1 : i < k ∧ i ≠ v
        · rw [if_pos h1, if_pos (by omega)]
        · rw [if_neg h1, if_neg (by omega)]
      · rw [← ih (by omega), ← det_rowop n (fun i j => if i < k ∧ i ≠ v then A i j + c i * A v j else A i j) k v (c k) (by omega) hv e]
        refine det_congr n _ _ fun i _ j _ => ?_
        by_cases h1 : i = k
        · subst h1
          rw [setR_same, if_pos (by omega), if_neg (by omega), if_neg (by omega)]
        · rw [setR_ne _ _ _ _ h1]
          by_cases h2 : i < k ∧ i ≠ v
          · rw [if_pos h2, if_pos (by omega)]
          · rw [if_neg h2, if_neg (by omega)]
  rw [← key n (Nat.le_refl n)]
  refine det_congr n _ _ fun i hi j _ => ?_
  by_cases h : i = v
  · rw [if_pos h, if_neg (by omega), h]
  · rw [if_neg h, if_pos (by omega)]
theorem det_col_zero : ∀ (n : Nat) (A : Mx) (c : Nat), c < n → (∀ i, i < n → A i c = 0) → det n A = 0
  | 0, _, _, h, _ => by omega
  | n + 1, A, c, h, hz => by
    refine sumN_zero _ _ fun r hr => ?_
    by_cases e : c = 0
    · subst e
      rw [hz r hr]
      simp
    · rw [det_col_zero n _ (c - 1) (by omega)]
      · simp
      · intro i hi
        show A (skip r i) (c - 1 + 1) = 0
        rw [show c - 1 + 1 = c by omega]
        exact hz _ (by unfold skip; split <;> omega)
/-- the first row is the unit's: the rest counts -/
theorem det_first (n : Nat) (A : Mx) (h : ∀ j, j ≤ n → A 0 j = delta 0 j) : det (n + 1) A = det n (fun i j => A (i + 1) (j + 1)) := by
  show sumN (n + 1) _ = _
  rw [sumN_one (n + 1) 0 _ (by omega)]
  · rw [h 0 (by omega)]
    show sgn 0 * (1 * _) = _
    rw [Int.one_mul, show sgn 0 = 1 from rfl, Int.one_mul]
    refine det_congr n _ _ fun i _ j _ => ?_
    rw [show skip 0 i = i + 1 from rfl]
  · intro r hr hn
    have h0 : det n (fun i j => A (skip r i) (j + 1)) = 0 := by
      have e : det n (fun i j => A (skip r i) (j + 1)) = det n (setR (fun i j => A (skip r i) (j + 1)) 0 (fun _ => 0)) := by
        refine det_congr n _ _ fun i hi j hj => ?_
        by_cases h1 : i = 0
        · subst h1
          rw [setR_same, show skip r 0 = 0 by unfold skip; split <;> omega, h (j + 1) (by omega)]
          rfl
        · rw [setR_ne _ _ _ _ h1]
      rw [e]
      exact det_row_zero n _ 0 (by omega) (fun j => by rw [setR_same])
    rw [h0]
    simp
theorem det_one (n : Nat) : det n delta = 1 := by
  induction n with
  | zero => rfl
  | succ n ih =>
    rw [det_first n delta (fun _ _ => rfl), ← ih]
    refine det_congr n _ _ fun i _ j _ => ?_
    unfold delta
    by_cases h : i = j
    · rw [if_pos h, if_pos (by omega)]
    · rw [if_neg h, if_neg (by omega)]
/-- where some rows are the unit's, what the others hold in those columns does not count -/
theorem det_clear (n : Nat) (S : Nat → Prop) [DecidablePred S] (A B : Mx) (hA : ∀ i, i < n → S i → ∀ j, j < n → A i j = delta i j) (hB : ∀ i, i < n → S i → ∀ j, j < n → B i j = delta i j)
    (h : ∀ i, i < n → ¬ S i → ∀ j, j < n → ¬ S j → A i j = B i j) : det n A = det n B := by
  have key : ∀ k, k ≤ n → det n (fun i j => if ¬ S i ∧ j < k then B i j else A i j) = det n A := by
    intro k
    induction k with
    | zero =>
      intro _
      exact det_congr n _ _ fun i _ j _ => if_neg (by omega)
    | succ k ih =>
      intro hk
      rw [← ih (by omega)]
      by_cases e : S k
      · rw [← det_rowops n (fun i j => if ¬ S i ∧ j < k then B i j else A i j) k (fun i => if S i then 0 else B i k - A i k) (by omega)]
        refine det_congr n _ _ fun i hi j hj => ?_
        by_cases h1 : i = k
        · subst h1
          rw [if_pos rfl, if_neg (fun z => z.1 e), if_neg (fun z => z.1 e)]
        · rw [if_neg h1]
          by_cases h2 : S i
          · rw [if_neg (fun z => z.1 h2), if_neg (fun z => z.1 h2), if_pos h2]
            omega
          · rw [if_neg h2]
            have ek : (if ¬ S k ∧ j < k then B k j else A k j) = delta k j := by
              rw [if_neg (fun z => z.1 e)]
              exact hA k (by omega) e j hj
            rw [ek]
            by_cases h3 : j < k
            · rw [if_pos ⟨h2, by omega⟩, if_pos ⟨h2, h3⟩, show delta k j = 0 from if_neg (by omega)]
              omega
            · by_cases h4 : j = k
              · subst h4
                rw [if_pos ⟨h2, by omega⟩, if_neg (by omega), show delta j j = 1 from if_pos rfl]
                omega
              · rw [if_neg (by omega), if_neg (by omega), show delta k j = 0 from if_neg (by omega)]
                omega
      · refine det_congr n _ _ fun i hi j hj => ?_
        by_cases h1 : ¬ S i ∧ j < k
        · rw [if_pos h1, if_pos ⟨h1.1, by omega⟩]
        · rw [if_neg h1]
          by_cases h2 : ¬ S i ∧ j < k + 1
          · rw [if_pos h2]
            have ej : j = k := by
              have := h2.2
              have h3 : ¬ j < k := fun z => h1 ⟨h2.1, z⟩
              omega
            subst ej
            exact (h i hi h2.1 j hj e).symm
          · rw [if_neg h2]
  rw [← key n (Nat.le_refl n)]
  refine det_congr n _ _ fun i hi j hj => ?_
  by_cases h1 : S i
  · rw [if_neg (fun z => z.1 h1), hA i hi h1 j hj, hB i hi h1 j hj]
  · rw [if_pos ⟨h1, hj⟩]

def fact : Nat → Nat
  | 0 => 1
  | n + 1 => (n + 1) * fact n
theorem sumN_abs (n c : Nat) (f : Nat → Int) (h : ∀ i, i < n → (f i).natAbs ≤ c) : (sumN n f).natAbs ≤ n * c := by
  induction n with
  | zero => simp [sumN]
  | succ n ih =>
    show (sumN n f + f n).natAbs ≤ (n + 1) * c
    have h1 := ih (fun i hi => h i (by omega))
    have h2 := h n (by omega)
    have h3 := Int.natAbs_add_le (sumN n f) (f n)
    rw [Nat.add_mul, Nat.one_mul]
    omega
theorem sgn_abs (r : Nat) (x : Int) : (sgn r * x).natAbs = x.natAbs := by
  unfold sgn
  split <;> omega
theorem det_abs : ∀ (n c : Nat) (A : Mx), (∀ i, i < n → ∀ j, j < n → (A i j).natAbs ≤ c) → (det n A).natAbs ≤ fact n * c ^ n
  | 0, _, _, _ => by simp [det, fact]
  | n + 1, c, A, h => by
    refine Nat.le_trans (sumN_abs (n + 1) (c * (fact n * c ^ n)) _ fun r hr => ?_) (Nat.le_of_eq ?_)
    · rw [sgn_abs, Int.natAbs_mul]
      exact Nat.mul_le_mul (h r hr 0 (by omega)) (det_abs n c _ fun i hi j hj => h _ (by unfold skip; split <;> omega) _ (by omega))
    · show (n + 1) * (c * (fact n * c ^ n)) = (n + 1) * fact n * c ^ (n + 1)
      rw [Nat.pow_succ, Nat.mul_assoc, Nat.mul_left_comm c, Nat.mul_comm c]
end K4
end

section
set_option autoImplicit false
/-! Trees counted by ties taken and left, and the determinant that counts them. -/
namespace K4

abbrev Ed := Nat × Nat
def mk (ms : List Nat) (i : Nat) : Nat := ms.getD i 0
def relab (u v o : Nat) : Nat := if o = v then u else o
/-- the marks with both ends of a tie made one -/
def merge (ms : List Nat) (e : Ed) : List Nat := if mk ms e.1 = mk ms e.2 then ms else ms.map (relab (mk ms e.1) (mk ms e.2))
def one (ms : List Nat) : Bool := ms.all (fun x => x == mk ms 0)
def G : List Nat → List Ed → Nat
  | ms, [] => if one ms = true then 1 else 0
  | ms, e :: r => G ms r + if mk ms e.1 = mk ms e.2 then 0 else G (ms.map (relab (mk ms e.1) (mk ms e.2))) r

def bv (ms : List Nat) (e : Ed) (i : Nat) : Int := delta i (mk ms e.1) - delta i (mk ms e.2)
def lap (ms : List Nat) : List Ed → Nat → Nat → Int
  | [], _, _ => 0
  | e :: r, i, j => bv ms e i * bv ms e j + lap ms r i j
def MM (ms : List Nat) (es : List Ed) : Mx := fun i j => if i ∈ ms ∧ i ≠ mk ms 0 then lap ms es i j else delta i j

def cm (u v : Nat) (x : Nat → Int) (j : Nat) : Int := if j = v then 0 else if j = u then x u + x v else x j

theorem mk_map (ms : List Nat) (f : Nat → Nat) (i : Nat) (h : i < ms.length) : mk (ms.map f) i = f (mk ms i) := by
  unfold mk
  rw [List.getD_eq_getElem?_getD, List.getD_eq_getElem?_getD, List.getElem?_map, List.getElem?_eq_getElem h]
  rfl
theorem mk_mem (ms : List Nat) (i : Nat) (h : i < ms.length) : mk ms i ∈ ms := by
  unfold mk
  rw [List.getD_eq_getElem?_getD, List.getElem?_eq_getElem h]
  exact List.getElem_mem h
theorem mem_mk {ms : List Nat} {x : Nat} (h : x ∈ ms) : ∃ i, i < ms.length ∧ mk ms i = x := by
  obtain ⟨i, hi, e⟩ := List.mem_iff_getElem.mp h
  refine ⟨i, hi, ?_⟩
  unfold mk
  rw [List.getD_eq_getElem?_getD, List.getElem?_eq_getElem hi, ← e]
  rfl

theorem det_cm (n u v : Nat) (X : Mx) (hu : u < n) (hv : v < n) (huv : u ≠ v) :
    det n (fun i j => if i = v then delta v j else cm u v (X i) j) = det n (setR X v (fun j => delta v j - delta u j)) := by
  have e1 : det n (setR X v (fun j => delta v j - delta u j)) = det n (fun i j => if i = v then delta v j - delta u j else cm u v (X i) j) := by
    rw [← det_rowops n (fun i j => if i = v then delta v j - delta u j else cm u v (X i) j) v (fun i => X i v) hv]
    refine det_congr n _ _ fun i hi j hj => ?_
    by_cases h : i = v
    · subst h
      rw [setR_same, if_pos rfl, if_pos rfl]
    · rw [setR_ne _ _ _ _ h, if_neg h, if_neg h, if_pos rfl]
      unfold cm delta
      by_cases h1 : j = v
      · subst h1
        rw [if_pos rfl, if_pos rfl, if_neg huv]
        omega
      · by_cases h2 : j = u
        · subst h2
          rw [if_neg h1, if_pos rfl, if_neg (Ne.symm h1), if_pos rfl]
          omega
        · rw [if_neg h1, if_neg h2, if_neg (Ne.symm h1), if_neg (Ne.symm h2)]
          omega
  rw [e1]
  have e2 : (fun i j => if i = v then delta v j - delta u j else cm u v (X i) j) = setR (fun i j => if i = v then delta v j else cm u v (X i) j) v (fun j => (-1) * delta u j + delta v j) := by
    funext i j
    by_cases h : i = v
    · subst h
      rw [setR_same, if_pos rfl]
      omega
    · rw [setR_ne _ _ _ _ h, if_neg h, if_neg h]
  have e3 : setR (fun i j => if i = v then delta v j else cm u v (X i) j) v (fun j => delta v j) = (fun i j => if i = v then delta v j else cm u v (X i) j) := by
    funext i j
    by_cases h : i = v
    · subst h
      rw [setR_same, if_pos rfl]
    · rw [setR_ne _ _ _ _ h]
  rw [e2, det_lin n _ v _ _ _ hv, det_col_zero n (setR (fun i j => if i = v then delta v j else cm u v (X i) j) v (fun j => delta u j)) v hv]
  · rw [e3]
    omega
  · intro i hi
    by_cases h : i = v
    · subst h
      rw [setR_same]
      exact if_neg huv
    · rw [setR_ne _ _ _ _ h]
      show (if i = v then _ else _) = _
      rw [if_neg h]
      exact if_pos rfl

theorem relab_delta (u v o i : Nat) (h : i ≠ v) : delta i (relab u v o) = if i = u then (if u = v then delta u o else delta u o + delta v o) else delta i o := by
  unfold relab delta
  by_cases h1 : o = v
  · subst h1
    rw [if_pos rfl, if_neg h]
    by_cases h2 : i = u
    · subst h2
      simp [h]
    · simp [h2]
  · rw [if_neg h1]
    by_cases h2 : i = u
    · subst h2
      by_cases h3 : i = o
      · simp [h3, h1, Ne.symm h1]
      · simp [h3, h, Ne.symm h1]
    · simp [h2]
theorem relab_delta_v (u v o : Nat) (h : u ≠ v) : delta v (relab u v o) = 0 := by
  unfold relab delta
  by_cases h1 : o = v
  · rw [if_pos h1, if_neg (Ne.symm h)]
  · rw [if_neg h1, if_neg (Ne.symm h1)]

theorem bv_def (ms : List Nat) (e : Ed) (i : Nat) : bv ms e i = delta i (mk ms e.1) - delta i (mk ms e.2) := rfl
theorem bv_map (ms : List Nat) (e : Ed) (u v i : Nat) (huv : u ≠ v) (h1 : e.1 < ms.length) (h2 : e.2 < ms.length) :
    bv (ms.map (relab u v)) e i = cm u v (bv ms e) i := by
  unfold cm
  rw [bv_def, bv_def, bv_def, bv_def, mk_map ms _ _ h1, mk_map ms _ _ h2]
  by_cases hv : i = v
  · subst hv
    rw [if_pos rfl, relab_delta_v u i _ huv, relab_delta_v u i _ huv]
    rfl
  · rw [if_neg hv, relab_delta u v _ i hv, relab_delta u v _ i hv, if_neg huv, if_neg huv]
    by_cases hu : i = u
    · subst hu
      rw [if_pos rfl, if_pos rfl, if_pos rfl]
      omega
    · rw [if_neg hu, if_neg hu, if_neg hu]
theorem lap_map (ms : List Nat) (u v : Nat) (huv : u ≠ v) : ∀ (es : List Ed), (∀ e ∈ es, e.1 < ms.length ∧ e.2 < ms.length) → ∀ i j, i ≠ v →
    lap (ms.map (relab u v)) es i j = cm u v (fun j => if i = u then lap ms es u j + lap ms es v j else lap ms es i j) j
  | [], _, i, j, _ => by
    unfold cm
    simp [lap]
  | e :: r, h, i, j, hi => by
    have hr := lap_map ms u v huv r (fun e he => h e (List.mem_cons_of_mem _ he)) i j hi
    obtain ⟨h1, h2⟩ := h e (List.mem_cons_self ..)
    show bv (ms.map (relab u v)) e i * bv (ms.map (relab u v)) e j + lap (ms.map (relab u v)) r i j = _
    rw [hr, bv_map ms e u v i huv h1 h2, bv_map ms e u v j huv h1 h2]
    unfold cm
    rw [if_neg hi]
    simp only [lap]
    by_cases hj : j = v
    · rw [if_pos hj, if_pos hj, if_pos hj]
      omega
    · rw [if_neg hj, if_neg hj, if_neg hj]
      by_cases hu : i = u
      · by_cases hw : j = u
        · simp only [if_pos hu, if_pos hw, Int.add_mul, Int.mul_add]
          omega
        · simp only [if_pos hu, if_neg hw, Int.add_mul, Int.mul_add]
          omega
      · by_cases hw : j = u
        · simp only [if_neg hu, if_pos hw, Int.add_mul, Int.mul_add]
          omega
        · simp only [if_neg hu, if_neg hw, Int.add_mul, Int.mul_add]

theorem mem_relab {ms : List Nat} {u v i : Nat} (hu : u ∈ ms) (huv : u ≠ v) : i ∈ ms.map (relab u v) ↔ i ∈ ms ∧ i ≠ v := by
  rw [List.mem_map]
  constructor
  · rintro ⟨o, ho, e⟩
    unfold relab at e
    split at e
    · subst e
      exact ⟨hu, huv⟩
    · subst e
      rename_i q
      exact ⟨ho, q⟩
  · rintro ⟨h1, h2⟩
    exact ⟨i, h1, if_neg h2⟩

/-- the matrix of the merged marks, before its columns are merged -/
def XX (ms : List Nat) (es : List Ed) (u v g : Nat) : Mx := fun i j => if i ∈ ms ∧ i ≠ g then (if i = u then lap ms es u j + lap ms es v j else lap ms es i j) else delta i j

theorem det_merged (ms : List Nat) (es : List Ed) (u v n : Nat) (hn : 0 < ms.length) (hu : u ∈ ms) (hun : u < n) (hvn : v < n) (huv : u ≠ v) (he : ∀ e ∈ es, e.1 < ms.length ∧ e.2 < ms.length) :
    det n (MM (ms.map (relab u v)) es) = det n (setR (XX ms es u v (relab u v (mk ms 0))) v (fun j => delta v j - delta u j)) := by
  rw [← det_cm n u v _ hun hvn huv]
  refine det_congr n _ _ fun i hi j hj => ?_
  unfold MM
  rw [mk_map ms _ 0 hn]
  by_cases hv : i = v
  · subst hv
    rw [if_pos rfl, if_neg (fun z => ((mem_relab hu huv).mp z.1).2 rfl)]
  · rw [if_neg hv]
    by_cases hl : i ∈ ms ∧ i ≠ relab u v (mk ms 0)
    · rw [if_pos ⟨(mem_relab hu huv).mpr ⟨hl.1, hv⟩, hl.2⟩, lap_map ms u v huv es he i j hv]
      congr 1
      funext j
      unfold XX
      rw [if_pos hl]
    · rw [if_neg (fun z => hl ⟨((mem_relab hu huv).mp z.1).1, z.2⟩)]
      have hX : XX ms es u v (relab u v (mk ms 0)) i = delta i := by
        funext j
        exact if_neg hl
      rw [hX]
      unfold cm delta
      by_cases h1 : j = v
      · rw [if_pos h1, if_neg (by omega)]
      · rw [if_neg h1]
        by_cases h2 : j = u
        · subst h2
          rw [if_pos rfl, if_neg hv]
          omega
        · rw [if_neg h2]

theorem MM_cons (ms : List Nat) (e : Ed) (r : List Ed) (i j : Nat) : MM ms (e :: r) i j = MM ms r i j + (if i ∈ ms ∧ i ≠ mk ms 0 then bv ms e i * bv ms e j else 0) := by
  unfold MM
  split
  · show bv ms e i * bv ms e j + lap ms r i j = _
    omega
  · omega

theorem det_step (ms : List Nat) (e : Ed) (r : List Ed) (n : Nat) (hn : 0 < ms.length) (hms : ∀ x ∈ ms, x < n) (h1 : e.1 < ms.length) (h2 : e.2 < ms.length)
    (he : ∀ e ∈ r, e.1 < ms.length ∧ e.2 < ms.length) (huv : mk ms e.1 ≠ mk ms e.2) :
    det n (MM ms (e :: r)) = det n (MM ms r) + det n (MM (ms.map (relab (mk ms e.1) (mk ms e.2))) r) := by
  have hu := mk_mem ms e.1 h1
  have hv := mk_mem ms e.2 h2
  have hun := hms _ hu
  have hvn := hms _ hv
  rw [det_merged ms r _ _ n hn hu hun hvn huv he]
  have bu : bv ms e (mk ms e.1) = 1 := by
    rw [bv_def, show delta (mk ms e.1) (mk ms e.1) = 1 from if_pos rfl, show delta (mk ms e.1) (mk ms e.2) = 0 from if_neg huv]
    rfl
  have bw : bv ms e (mk ms e.2) = -1 := by
    rw [bv_def, show delta (mk ms e.2) (mk ms e.2) = 1 from if_pos rfl, show delta (mk ms e.2) (mk ms e.1) = 0 from if_neg (Ne.symm huv)]
    rfl
  have bo : ∀ i, i ≠ mk ms e.1 → i ≠ mk ms e.2 → bv ms e i = 0 := fun i q1 q2 => by
    rw [bv_def, show delta i (mk ms e.1) = 0 from if_neg q1, show delta i (mk ms e.2) = 0 from if_neg q2]
    rfl
  have bd : ∀ j, bv ms e j = delta (mk ms e.1) j - delta (mk ms e.2) j := fun j => by
    rw [bv_def]
    unfold delta
    simp only [eq_comm]
  generalize mk ms e.1 = u at *
  generalize mk ms e.2 = v at *
  have hMM : MM ms r = fun i j => MM ms r i j := rfl
  -- what a row outside u, v is
  have hoff : ∀ i, i ≠ u → i ≠ v → ∀ j, MM ms (e :: r) i j = MM ms r i j := fun i q1 q2 j => by
    rw [MM_cons, bo i q1 q2]
    split <;> omega
  by_cases g2 : mk ms 0 = v
  · -- the far one is the ground
    have hrv : relab u v (mk ms 0) = u := if_pos g2
    have hvrow : ∀ j, MM ms r v j = delta v j := fun j => if_neg (fun z => z.2 g2.symm)
    rw [hrv]
    have eL : det n (MM ms (e :: r)) = det n (setR (MM ms r) u (fun j => MM ms r u j + (delta u j - delta v j))) := by
      refine det_congr n _ _ fun i hi j hj => ?_
      by_cases q1 : i = u
      · subst q1
        rw [setR_same, MM_cons, if_pos ⟨hu, fun z => huv (z.trans g2)⟩, bu, bd]
        omega
      · rw [setR_ne _ _ _ _ q1]
        by_cases q2 : i = v
        · subst q2
          rw [MM_cons, if_neg (fun z => z.2 g2.symm)]
          omega
        · exact hoff i q1 q2 j
    have eR : det n (setR (XX ms r u v u) v (fun j => delta v j - delta u j)) = det n (setR (MM ms r) u (delta u)) := by
      have e1 : setR (XX ms r u v u) v (fun j => delta v j - delta u j) = setR (setR (MM ms r) u (delta u)) v (fun j => setR (MM ms r) u (delta u) v j + (-1) * setR (MM ms r) u (delta u) u j) := by
        funext i j
        by_cases q2 : i = v
        · subst q2
          rw [setR_same, setR_same, setR_same, setR_ne _ _ _ _ (Ne.symm huv), hvrow]
          omega
        · rw [setR_ne _ _ _ _ q2, setR_ne _ _ _ _ q2]
          by_cases q1 : i = u
          · subst q1
            rw [setR_same]
            exact if_neg (fun z => z.2 rfl)
          · rw [setR_ne _ _ _ _ q1]
            unfold XX MM
            by_cases q3 : i ∈ ms
            · rw [if_pos ⟨q3, q1⟩, if_neg q1, if_pos ⟨q3, fun z => q2 (z.trans g2)⟩]
            · rw [if_neg (fun z => q3 z.1), if_neg (fun z => q3 z.1)]
      rw [e1, det_rowop n _ v u (-1) hvn hun (Ne.symm huv)]
    have eD : det n (setR (MM ms r) u (fun j => delta u j - delta v j)) = det n (setR (MM ms r) u (delta u)) := by
      have e1 : setR (MM ms r) u (fun j => delta u j - delta v j) = setR (setR (MM ms r) u (delta u)) u (fun j => setR (MM ms r) u (delta u) u j + (-1) * setR (MM ms r) u (delta u) v j) := by
        funext i j
        by_cases q1 : i = u
        · subst q1
          rw [setR_same, setR_same, setR_same, setR_ne _ _ _ _ (Ne.symm huv), hvrow]
          omega
        · rw [setR_ne _ _ _ _ q1, setR_ne _ _ _ _ q1, setR_ne _ _ _ _ q1]
      rw [e1, det_rowop n _ u v (-1) hun hvn huv]
    rw [eL, eR, det_add n _ u _ _ hun, eD]
    congr 2
    exact setR_self _ _
  · have hrv : relab u v (mk ms 0) = mk ms 0 := if_neg g2
    rw [hrv]
    by_cases g1 : mk ms 0 = u
    · -- the near one is the ground
      have hurow : ∀ j, MM ms r u j = delta u j := fun j => if_neg (fun z => z.2 g1.symm)
      have eL : det n (MM ms (e :: r)) = det n (setR (MM ms r) v (fun j => MM ms r v j + (delta v j - delta u j))) := by
        refine det_congr n _ _ fun i hi j hj => ?_
        by_cases q2 : i = v
        · subst q2
          rw [setR_same, MM_cons, if_pos ⟨hv, Ne.symm g2⟩, bw, bd]
          omega
        · rw [setR_ne _ _ _ _ q2]
          by_cases q1 : i = u
          · subst q1
            rw [MM_cons, if_neg (fun z => z.2 g1.symm)]
            omega
          · exact hoff i q1 q2 j
      have eR : setR (XX ms r u v (mk ms 0)) v (fun j => delta v j - delta u j) = setR (MM ms r) v (fun j => delta v j - delta u j) := by
        funext i j
        by_cases q2 : i = v
        · subst q2
          rw [setR_same, setR_same]
        · rw [setR_ne _ _ _ _ q2, setR_ne _ _ _ _ q2]
          unfold XX MM
          by_cases q3 : i ∈ ms ∧ i ≠ mk ms 0
          · rw [if_pos q3, if_pos q3, if_neg (fun z => q3.2 (z.trans g1.symm))]
          · rw [if_neg q3, if_neg q3]
      rw [eL, eR, det_add n _ v _ _ hvn]
      congr 2
      exact setR_self _ _
    · -- neither is
      have hurow : ∀ j, MM ms r u j = lap ms r u j := fun j => if_pos ⟨hu, Ne.symm g1⟩
      have hvrow : ∀ j, MM ms r v j = lap ms r v j := fun j => if_pos ⟨hv, Ne.symm g2⟩
      have eL : det n (MM ms (e :: r)) = det n (setR (setR (MM ms r) u (fun j => MM ms r u j + (delta u j - delta v j))) v (fun j => (-1) * (delta u j - delta v j) + MM ms r v j)) := by
        refine det_congr n _ _ fun i hi j hj => ?_
        by_cases q2 : i = v
        · subst q2
          rw [setR_same, MM_cons, if_pos ⟨hv, Ne.symm g2⟩, bw, bd]
          omega
        · rw [setR_ne _ _ _ _ q2]
          by_cases q1 : i = u
          · subst q1
            rw [setR_same, MM_cons, if_pos ⟨hu, Ne.symm g1⟩, bu, bd]
            omega
          · rw [setR_ne _ _ _ _ q1]
            exact hoff i q1 q2 j
      have eR : setR (XX ms r u v (mk ms 0)) v (fun j => delta v j - delta u j) = setR (setR (MM ms r) u (fun j => MM ms r u j + MM ms r v j)) v (fun j => (-1) * (delta u j - delta v j)) := by
        funext i j
        by_cases q2 : i = v
        · subst q2
          rw [setR_same, setR_same]
          omega
        · rw [setR_ne _ _ _ _ q2, setR_ne _ _ _ _ q2]
          by_cases q1 : i = u
          · subst q1
            rw [setR_same, hurow, hvrow]
            unfold XX
            rw [if_pos ⟨hu, Ne.symm g1⟩, if_pos rfl]
          · rw [setR_ne _ _ _ _ q1]
            unfold XX MM
            by_cases q3 : i ∈ ms ∧ i ≠ mk ms 0
            · rw [if_pos q3, if_pos q3, if_neg q1]
            · rw [if_neg q3, if_neg q3]
      rw [eL, eR, det_lin n _ v (-1) _ _ hvn, det_smul n _ v (-1) _ hvn]
      suffices hbb : ∀ b : Nat → Int, -1 * det n (setR (setR (MM ms r) u (fun j => MM ms r u j + b j)) v b) +
          det n (setR (setR (MM ms r) u (fun j => MM ms r u j + b j)) v (MM ms r v)) =
        det n (MM ms r) + -1 * det n (setR (setR (MM ms r) u (fun j => MM ms r u j + MM ms r v j)) v b) from hbb (fun j => delta u j - delta v j)
      intro b
      have s1 : ∀ x y : Nat → Int, setR (setR (MM ms r) u x) v y = setR (setR (MM ms r) v y) u x := fun x y => setR_comm _ _ _ _ _ huv
      have a1 : det n (setR (setR (MM ms r) u (fun j => MM ms r u j + b j)) v b) = det n (setR (setR (MM ms r) u (MM ms r u)) v b) + det n (setR (setR (MM ms r) u b) v b) := by
        rw [s1, s1, s1, det_add n _ u _ _ hun]
      have a2 : det n (setR (setR (MM ms r) u (fun j => MM ms r u j + b j)) v (MM ms r v)) = det n (MM ms r) + det n (setR (setR (MM ms r) u b) v (MM ms r v)) := by
        rw [s1, s1, det_add n _ u _ _ hun]
        congr 2
        rw [setR_self]
        exact setR_self _ _
      have a3 : det n (setR (setR (MM ms r) u (fun j => MM ms r u j + MM ms r v j)) v b) = det n (setR (setR (MM ms r) u (MM ms r u)) v b) + det n (setR (setR (MM ms r) u (MM ms r v)) v b) := by
        rw [s1, s1, s1, det_add n _ u _ _ hun]
      have a4 := det_swap n (MM ms r) u v hun hvn huv (MM ms r v) b
      have a5 : det n (setR (setR (MM ms r) u b) v b) = 0 := det_rows_eq n _ u v hun hvn huv (by rw [setR_same, setR_ne _ _ _ _ huv, setR_same])
      rw [a1, a2, a3, a4, a5]
      omega

/-- MATRIX AND TREES -/
theorem det_G : ∀ (es : List Ed) (ms : List Nat) (n : Nat), n = ms.length → 0 < n → (∀ x ∈ ms, x < n) → (∀ e ∈ es, e.1 < n ∧ e.2 < n) → det n (MM ms es) = (G ms es : Int)
  | [], ms, n, hn, h0, hms, _ => by
    unfold G
    by_cases h : one ms = true
    · rw [if_pos h]
      have e : det n (MM ms []) = det n delta := by
        refine det_congr n _ _ fun i hi j hj => ?_
        unfold MM
        refine if_neg fun z => z.2 ?_
        unfold one at h
        rw [List.all_eq_true] at h
        exact eq_of_beq (h i z.1)
      rw [e, det_one]
      rfl
    · rw [if_neg h]
      obtain ⟨x, hx, hne⟩ : ∃ x, x ∈ ms ∧ x ≠ mk ms 0 := by
        apply Classical.byContradiction
        intro q
        apply h
        unfold one
        rw [List.all_eq_true]
        intro x hx
        apply Classical.byContradiction
        intro z
        exact q ⟨x, hx, fun w => z (beq_iff_eq.mpr w)⟩
      exact det_row_zero n _ x (hms x hx) (fun j => if_pos ⟨hx, hne⟩)
  | e :: r, ms, n, hn, h0, hms, he => by
    have he1 := he e (List.mem_cons_self ..)
    have her : ∀ e ∈ r, e.1 < n ∧ e.2 < n := fun e q => he e (List.mem_cons_of_mem _ q)
    unfold G
    by_cases h : mk ms e.1 = mk ms e.2
    · rw [if_pos h, Nat.add_zero, ← det_G r ms n hn h0 hms her]
      refine det_congr n _ _ fun i hi j hj => ?_
      rw [MM_cons]
      have hb : bv ms e i = 0 := by
        unfold bv
        rw [h]
        omega
      rw [hb]
      split <;> omega
    · rw [if_neg h]
      subst hn
      rw [det_step ms e r _ h0 hms he1.1 he1.2 her h, det_G r ms _ rfl h0 hms her,
        det_G r (ms.map (relab (mk ms e.1) (mk ms e.2))) _ (by rw [List.length_map]) h0 (fun x hx => ?_) her]
      · omega
      · obtain ⟨o, ho, rfl⟩ := List.mem_map.mp hx
        unfold relab
        split
        · exact hms _ (mk_mem _ _ he1.1)
        · exact hms _ ho

theorem lap_perm (ms : List Nat) (i j : Nat) {es es' : List Ed} (p : es.Perm es') : lap ms es i j = lap ms es' i j := by
  induction p with
  | nil => rfl
  | cons e _ ih => exact congrArg (bv ms e i * bv ms e j + ·) ih
  | swap e f r =>
    show bv ms f i * bv ms f j + (bv ms e i * bv ms e j + lap ms r i j) = bv ms e i * bv ms e j + (bv ms f i * bv ms f j + lap ms r i j)
    omega
  | trans _ _ h1 h2 => exact h1.trans h2
/-- the order of the ties is nothing to how many trees there are -/
theorem G_perm {es es' : List Ed} (p : es.Perm es') (ms : List Nat) (h0 : 0 < ms.length) (hms : ∀ x ∈ ms, x < ms.length) (he : ∀ e ∈ es, e.1 < ms.length ∧ e.2 < ms.length) : G ms es = G ms es' := by
  have q1 := det_G es ms _ rfl h0 hms he
  have q2 := det_G es' ms _ rfl h0 hms (fun e h => he e (p.mem_iff.mpr h))
  have q3 : det ms.length (MM ms es) = det ms.length (MM ms es') := by
    refine det_congr _ _ _ fun i _ j _ => ?_
    unfold MM
    rw [lap_perm ms i j p]
  omega
end K4
end

section
set_option autoImplicit false
/-! The elimination that keeps whole numbers: what stands in it are minors. -/
namespace K4

def WW (A : Mx) (k : Nat) : Mx := fun i => if i < k then A i else delta i
def BB (n : Nat) (A : Mx) (k i j : Nat) : Int := det n (setR (WW A k) j (A i))
def pv' (n : Nat) (A : Mx) (k : Nat) : Int := det n (WW A k)

theorem WW_succ (A : Mx) (k : Nat) : setR (WW A k) k (A k) = WW A (k + 1) := by
  funext i
  by_cases h : i = k
  · subst h
    rw [setR_same]
    exact (if_pos (by omega)).symm
  · rw [setR_ne _ _ _ _ h]
    unfold WW
    by_cases h1 : i < k
    · rw [if_pos h1, if_pos (by omega)]
    · rw [if_neg h1, if_neg (by omega)]
theorem BB_diag (n : Nat) (A : Mx) (k : Nat) : BB n A k k k = pv' n A (k + 1) := by
  unfold BB pv'
  rw [WW_succ]
theorem pv_zero (n : Nat) (A : Mx) : pv' n A 0 = 1 := by
  unfold pv'
  rw [← det_one n]
  exact det_congr n _ _ fun i _ j _ => by
    unfold WW
    rw [if_neg (by omega)]
theorem BB_zero (n : Nat) (A : Mx) (i j : Nat) (hj : j < n) : BB n A 0 i j = A i j := by
  unfold BB
  have e : det n (setR (WW A 0) j (A i)) = det n (setR delta j (fun c => A i j * delta j c)) := by
    refine det_clear n (fun r => r ≠ j) _ _ (fun r _ hr c _ => ?_) (fun r _ hr c _ => ?_) (fun r _ hr c _ hc => ?_)
    · rw [setR_ne _ _ _ _ hr]
      rfl
    · rw [setR_ne _ _ _ _ hr]
    · have h1 : r = j := Classical.byContradiction hr
      have h2 : c = j := Classical.byContradiction hc
      subst h1
      subst h2
      rw [setR_same, setR_same, show delta c c = 1 from if_pos rfl, Int.mul_one]
  rw [e, det_smul n delta j _ _ hj, setR_self, det_one, Int.mul_one]

/-- what the first rows span does not count in a later one -/
theorem det_mod (n : Nat) (A Y : Mx) (j : Nat) (c : Nat → Int) (x : Nat → Int) (hj : j < n) : ∀ k, k ≤ j → (∀ l, l < k → Y l = A l) →
    det n (setR Y j (fun col => sumN k (fun l => c l * A l col) + x col)) = det n (setR Y j x)
  | 0, _, _ => by
    congr 2
    funext col
    show 0 + x col = x col
    omega
  | k + 1, hk, hY => by
    rw [← det_mod n A Y j c x hj k (by omega) (fun l hl => hY l (by omega))]
    have e : (fun col => sumN (k + 1) (fun l => c l * A l col) + x col) = fun col => c k * A k col + (fun col => sumN k (fun l => c l * A l col) + x col) col := by
      funext col
      show sumN k (fun l => c l * A l col) + c k * A k col + x col = c k * A k col + (sumN k (fun l => c l * A l col) + x col)
      omega
    rw [e, det_lin n Y j (c k) (A k) _ hj, det_rows_eq n (setR Y j (A k)) j k hj (by omega) (by omega) (by rw [setR_same, setR_ne _ _ _ _ (by omega), hY k (by omega)])]
    omega

/-- each row, up to a factor: what the first k rows span, and its row of the elimination -/
def Span (n : Nat) (A : Mx) (k i : Nat) : Prop := ∃ (s : Int) (c : Nat → Int), s ≠ 0 ∧ ∀ col, col < n → s * pv' n A k * A i col = sumN k (fun l => c l * A l col) + s * (if col < k then 0 else BB n A k i col)

theorem setR2_congr (n : Nat) (Y : Mx) (r s : Nat) (x x' y y' : Nat → Int) (hx : ∀ c, c < n → x c = x' c) (hy : ∀ c, c < n → y c = y' c) : det n (setR (setR Y r x) s y) = det n (setR (setR Y r x') s y') := by
  refine det_congr n _ _ fun i _ j hj => ?_
  by_cases h1 : i = s
  · subst h1
    rw [setR_same, setR_same]
    exact hy j hj
  · rw [setR_ne _ _ _ _ h1, setR_ne _ _ _ _ h1]
    by_cases h2 : i = r
    · subst h2
      rw [setR_same, setR_same]
      exact hx j hj
    · rw [setR_ne _ _ _ _ h2, setR_ne _ _ _ _ h2]

theorem two_units (n : Nat) (A : Mx) (k j : Nat) (a b : Nat → Int) (hk : k < n) (hj : j < n) (hkj : k < j) (ha : ∀ c, c < k → a c = 0) (hb : ∀ c, c < k → b c = 0) :
    det n (setR (setR (WW A k) k a) j b) = (a k * b j - a j * b k) * pv' n A k := by
  have hne : k ≠ j := by omega
  have e1 : det n (setR (setR (WW A k) k a) j b) = det n (setR (setR (WW A k) k (fun c => a k * delta k c + a j * delta j c)) j (fun c => b k * delta k c + b j * delta j c)) := by
    have key : ∀ x y : Nat → Int, ∀ r, (r ≥ k ∧ r ≠ k ∧ r ≠ j) → ∀ c, setR (setR (WW A k) k x) j y r c = delta r c := by
      intro x y r hr c
      rw [setR_ne _ _ _ _ hr.2.2, setR_ne _ _ _ _ hr.2.1]
      unfold WW
      rw [if_neg (by omega)]
    have dkk : delta k k = 1 := if_pos rfl
    have djj : delta j j = 1 := if_pos rfl
    have dkj : delta k j = 0 := if_neg hne
    have djk : delta j k = 0 := if_neg (Ne.symm hne)
    refine det_clear n (fun r => r ≥ k ∧ r ≠ k ∧ r ≠ j) _ _ (fun r _ hr c _ => key _ _ r hr c) (fun r _ hr c _ => key _ _ r hr c) (fun r _ hr c _ hc => ?_)
    by_cases h1 : r = j
    · subst h1
      rw [setR_same, setR_same]
      by_cases c1 : c < k
      · rw [hb c c1, show delta k c = 0 from if_neg (by omega), show delta r c = 0 from if_neg (by omega)]
        omega
      · by_cases c2 : c = k
        · subst c2
          rw [dkk, djk]
          omega
        · have c3 : c = r := by
            apply Classical.byContradiction
            intro z
            exact hc ⟨by omega, c2, z⟩
          subst c3
          rw [dkj, djj]
          omega
    · rw [setR_ne _ _ _ _ h1, setR_ne _ _ _ _ h1]
      by_cases h2 : r = k
      · subst h2
        rw [setR_same, setR_same]
        by_cases c1 : c < r
        · rw [ha c c1, show delta r c = 0 from if_neg (by omega), show delta j c = 0 from if_neg (by omega)]
          omega
        · by_cases c2 : c = r
          · subst c2
            rw [dkk, djk]
            omega
          · have c3 : c = j := by
              apply Classical.byContradiction
              intro z
              exact hc ⟨by omega, c2, z⟩
            subst c3
            rw [dkj, djj]
            omega
      · rw [setR_ne _ _ _ _ h2, setR_ne _ _ _ _ h2]
  have s1 : ∀ x y : Nat → Int, setR (setR (WW A k) k x) j y = setR (setR (WW A k) j y) k x := fun x y => setR_comm _ _ _ _ _ hne
  have q0 : det n (setR (setR (WW A k) k (delta k)) j (delta j)) = pv' n A k := by
    have w1 : setR (WW A k) k (delta k) = WW A k := by
      have : WW A k k = delta k := if_neg (by omega)
      rw [← this, setR_self]
    have w2 : setR (WW A k) j (delta j) = WW A k := by
      have : WW A k j = delta j := if_neg (by omega)
      rw [← this, setR_self]
    rw [w1, w2]
    rfl
  have q1 : det n (setR (setR (WW A k) k (delta j)) j (delta k)) = - pv' n A k := by
    rw [det_swap n (WW A k) k j hk hj hne, q0]
  have q2 : ∀ x : Nat → Int, det n (setR (setR (WW A k) k x) j x) = 0 := fun x => det_rows_eq n _ k j hk hj hne (by rw [setR_same, setR_ne _ _ _ _ hne, setR_same])
  have lin1 : ∀ (c d : Int) (x y z : Nat → Int), det n (setR (setR (WW A k) k (fun t => c * x t + d * y t)) j z) = c * det n (setR (setR (WW A k) k x) j z) + d * det n (setR (setR (WW A k) k y) j z) := by
    intro c d x y z
    rw [s1, s1, s1, det_lin n _ k c x (fun t => d * y t) hk, det_smul n _ k d y hk]
  have lin2 : ∀ (c d : Int) (x y z : Nat → Int), det n (setR (setR (WW A k) k z) j (fun t => c * x t + d * y t)) = c * det n (setR (setR (WW A k) k z) j x) + d * det n (setR (setR (WW A k) k z) j y) := by
    intro c d x y z
    rw [det_lin n _ j c x (fun t => d * y t) hj, det_smul n _ j d y hj]
  rw [e1, lin1, lin2, lin2, q0, q1, q2, q2, Int.mul_zero, Int.mul_zero, Int.zero_add, Int.add_zero, Int.mul_neg, Int.mul_neg, Int.sub_mul, Int.mul_assoc, Int.mul_assoc]
  omega

theorem mul_helper (a b c d : Int) : a * b * (c * d) = a * c * (b * d) := by
  rw [Int.mul_assoc, Int.mul_assoc, Int.mul_left_comm b c d]

theorem bareiss (n : Nat) (A : Mx) (k i j : Nat) (hk : k < n) (hj : j < n) (hkj : k < j) (hp : pv' n A k ≠ 0) (si : Span n A k i) (sk : Span n A k k) :
    pv' n A k * BB n A (k + 1) i j = BB n A k i j * BB n A k k k - BB n A k i k * BB n A k k j := by
  obtain ⟨s, c, hs, e⟩ := si
  obtain ⟨t, d, ht, f⟩ := sk
  have hne : k ≠ j := by omega
  have s1 : ∀ x y : Nat → Int, setR (setR (WW A k) k x) j y = setR (setR (WW A k) j y) k x := fun x y => setR_comm _ _ _ _ _ hne
  have e0 : BB n A (k + 1) i j = det n (setR (setR (WW A k) k (A k)) j (A i)) := by
    unfold BB
    rw [WW_succ]
  have e1 : t * pv' n A k * (s * pv' n A k * BB n A (k + 1) i j) = det n (setR (setR (WW A k) k (fun col => t * pv' n A k * A k col)) j (fun col => s * pv' n A k * A i col)) := by
    rw [det_smul n _ j _ _ hj, s1 (fun col => t * pv' n A k * A k col), det_smul n _ k _ _ hk, e0, ← s1]
    rw [Int.mul_left_comm]
  have e2 : det n (setR (setR (WW A k) k (fun col => t * pv' n A k * A k col)) j (fun col => s * pv' n A k * A i col)) = det n (setR (setR (WW A k) k (fun col => t * (if col < k then 0 else BB n A k k col))) j (fun col => s * (if col < k then 0 else BB n A k i col))) := by
    rw [setR2_congr n (WW A k) k j _ _ _ _ f e]
    rw [det_mod n A _ j c _ hj k (by omega) (fun l hl => by
      rw [setR_ne _ _ _ _ (by omega)]
      exact if_pos hl)]
    rw [s1, det_mod n A _ k d _ hk k (by omega) (fun l hl => by
      rw [setR_ne _ _ _ _ (by omega)]
      exact if_pos hl), ← s1]
  rw [e2, two_units n A k j _ _ hk hj hkj (fun c hc => by rw [if_pos hc, Int.mul_zero]) (fun c hc => by rw [if_pos hc, Int.mul_zero])] at e1
  rw [if_neg (by omega), if_neg (by omega), if_neg (by omega), if_neg (by omega)] at e1
  rw [mul_helper t _ s _, mul_helper t _ s _] at e1
  have e3 : t * pv' n A k * (s * pv' n A k * BB n A (k + 1) i j) = (t * s * pv' n A k) * (pv' n A k * BB n A (k + 1) i j) := by
    grind
  rw [e3] at e1
  have e4 : (t * s * (BB n A k k k * BB n A k i j) - t * s * (BB n A k k j * BB n A k i k)) * pv' n A k = (t * s * pv' n A k) * (BB n A k i j * BB n A k k k - BB n A k i k * BB n A k k j) := by
    grind
  rw [e4] at e1
  exact Int.eq_of_mul_eq_mul_left (Int.mul_ne_zero (Int.mul_ne_zero ht hs) hp) e1

theorem span_all (n : Nat) (A : Mx) : ∀ k, k ≤ n → (∀ l, l < k → pv' n A l ≠ 0) → ∀ i, Span n A k i
  | 0, _, _, i => ⟨1, fun _ => 0, by decide, fun col hc => by
      show 1 * pv' n A 0 * A i col = 0 + 1 * (if col < 0 then 0 else BB n A 0 i col)
      rw [pv_zero, if_neg (by omega), BB_zero n A i col hc]
      omega⟩
  | k + 1, hk, hp, i => by
    have hpk := hp k (by omega)
    have si := span_all n A k (by omega) (fun l hl => hp l (by omega)) i
    have sk := span_all n A k (by omega) (fun l hl => hp l (by omega)) k
    have hb : ∀ col, k < col → col < n → _ := fun col h1 h2 => bareiss n A k i col (by omega) h2 h1 hpk si sk
    obtain ⟨s, c, hs, e⟩ := si
    obtain ⟨t, d, ht, f⟩ := sk
    refine ⟨s * t * pv' n A k, fun l => if l = k then s * t * pv' n A k * BB n A k i k else t * BB n A k k k * c l - s * BB n A k i k * d l, Int.mul_ne_zero (Int.mul_ne_zero hs ht) hpk, fun col hc => ?_⟩
    have e1 := e col hc
    have f1 := f col hc
    have hsum : sumN (k + 1) (fun l => (if l = k then s * t * pv' n A k * BB n A k i k else t * BB n A k k k * c l - s * BB n A k i k * d l) * A l col) =
        (t * BB n A k k k) * sumN k (fun l => c l * A l col) + (-(s * BB n A k i k)) * sumN k (fun l => d l * A l col) + s * t * pv' n A k * BB n A k i k * A k col := by
      have hl1 : ∀ F : Nat → Int, sumN (k + 1) F = sumN k F + F k := fun _ => rfl
      rw [hl1]
      rw [if_pos rfl]
      congr 1
      rw [show -(s * BB n A k i k) * sumN k (fun l => d l * A l col) = sumN k (fun l => -(s * BB n A k i k) * (d l * A l col) + 0) by
        rw [sumN_lin, sumN_zero k (fun _ => 0) (fun _ _ => rfl)]
        omega, ← sumN_lin]
      refine sumN_congr _ _ _ fun l hl => ?_
      rw [if_neg (by omega), Int.sub_mul, Int.neg_mul, Int.mul_assoc (t * BB n A k k k), Int.mul_assoc (s * BB n A k i k)]
      omega
    rw [hsum, ← BB_diag]
    generalize sumN k (fun l => c l * A l col) = C at *
    generalize sumN k (fun l => d l * A l col) = D at *
    have hC : C = s * pv' n A k * A i col - s * (if col < k then 0 else BB n A k i col) := by omega
    have hD : D = t * pv' n A k * A k col - t * (if col < k then 0 else BB n A k k col) := by omega
    rw [hC, hD]
    by_cases c1 : col < k
    · rw [if_pos c1, if_pos c1, if_pos (show col < k + 1 by omega)]
      grind
    · by_cases c2 : col = k
      · subst c2
        rw [if_neg c1, if_neg c1, if_pos (show col < col + 1 by omega)]
        grind
      · rw [if_neg c1, if_neg c1, if_neg (show ¬ col < k + 1 by omega)]
        have hb1 := hb col (by omega) hc
        grind

/-- one step of the elimination, exact -/
theorem bar_step (n : Nat) (A : Mx) (k i j : Nat) (hk : k < n) (hj : j < n) (hkj : k < j) (hp : ∀ l, l ≤ k → pv' n A l ≠ 0) :
    pv' n A k * BB n A (k + 1) i j = BB n A k i j * BB n A k k k - BB n A k i k * BB n A k k j :=
  bareiss n A k i j hk hj hkj (hp k (Nat.le_refl k)) (span_all n A k (by omega) (fun l hl => hp l (by omega)) i) (span_all n A k (by omega) (fun l hl => hp l (by omega)) k)

theorem BB_abs (n c : Nat) (A : Mx) (hc : 1 ≤ c) (h : ∀ i, i < n → ∀ j, j < n → (A i j).natAbs ≤ c) (k i j : Nat) (hi : i < n) : (BB n A k i j).natAbs ≤ fact n * c ^ n := by
  refine det_abs n c _ fun r hr q hq => ?_
  have hd : ∀ r, (delta r q).natAbs ≤ c := fun r => by
    unfold delta
    split <;> omega
  by_cases h1 : r = j
  · subst h1
    rw [setR_same]
    exact h i hi q hq
  · rw [setR_ne _ _ _ _ h1]
    unfold WW
    split
    · exact h r hr q hq
    · exact hd r

/-! the same over lists, to be reckoned -/
def barF : Nat → Int → List (List Int) → Int
  | 0, last, _ => last
  | _ + 1, last, [] => last
  | n + 1, last, first :: rest => barF n (first.headD 0) (rest.map fun own => List.zipWith (fun o f => (o * first.headD 0 - own.headD 0 * f) / last) own.tail first.tail)
def tab (f : Nat → Nat → Int) (k m : Nat) : List (List Int) := (List.range' k m).map fun i => (List.range' k m).map (f i)
theorem barF_eq (n : Nat) (A : Mx) (hp : ∀ l, l < n → pv' n A l ≠ 0) : ∀ (m k : Nat), k + m = n → barF m (pv' n A k) (tab (BB n A k) k m) = pv' n A n
  | 0, k, h => by
    rw [show k = n by omega]
    rfl
  | m + 1, k, h => by
    have e1 : tab (BB n A k) k (m + 1) = (BB n A k k k :: (List.range' (k + 1) m).map (BB n A k k)) :: (List.range' (k + 1) m).map (fun i => BB n A k i k :: (List.range' (k + 1) m).map (BB n A k i)) := rfl
    rw [e1]
    show barF m (BB n A k k k) _ = _
    rw [BB_diag, ← barF_eq n A hp m (k + 1) (by omega)]
    congr 1
    show _ = (List.range' (k + 1) m).map fun i => (List.range' (k + 1) m).map (BB n A (k + 1) i)
    rw [List.map_map]
    refine List.map_congr_left fun i hi => ?_
    show List.zipWith (fun o f => (o * pv' n A (k + 1) - BB n A k i k * f) / pv' n A k) ((List.range' (k + 1) m).map (BB n A k i)) ((List.range' (k + 1) m).map (BB n A k k)) = _
    rw [List.zipWith_map, List.zipWith_self]
    refine List.map_congr_left fun j hj => ?_
    rw [List.mem_range'_1] at hi hj
    have q := bar_step n A k i j (by omega) (by omega) (by omega) (fun l hl => hp l (by omega))
    rw [← BB_diag, ← q]
    exact Int.mul_ediv_cancel_left _ (hp k (by omega))
/-- the determinant, reckoned -/
theorem bar_det (n : Nat) (A : Mx) (hp : ∀ l, l < n → pv' n A l ≠ 0) : barF n 1 (tab A 0 n) = det n A := by
  have q := barF_eq n A hp n 0 (by omega)
  rw [pv_zero] at q
  have e : tab (BB n A 0) 0 n = tab A 0 n := by
    unfold tab
    refine List.map_congr_left fun i _ => List.map_congr_left fun j hj => ?_
    rw [List.mem_range'_1] at hj
    exact BB_zero n A i j (by omega)
  rw [e] at q
  rw [q]
  unfold pv'
  refine det_congr n _ _ fun i hi j _ => ?_
  unfold WW
  rw [if_pos hi]

/-! the table of a web -/
/-- the ties of an edge list, less the ground -/
def red (N : Nat) (es : List Ed) : Mx := fun i j => lap (List.range N) es (i + 1) (j + 1)
/-- the marks in which all from k + 1 on are ground -/
def gnd (N k : Nat) : List Nat := (List.range N).map fun i => if i ≤ k then i else 0
theorem mk_range (N i : Nat) (h : i < N) : mk (List.range N) i = i := by
  unfold mk
  rw [List.getD_eq_getElem?_getD, List.getElem?_range h]
  rfl
theorem mk_gnd (N k i : Nat) (h : i < N) : mk (gnd N k) i = if i ≤ k then i else 0 := by
  unfold gnd
  rw [mk_map _ _ _ (by rw [List.length_range]; exact h), mk_range N i h]
theorem lap_gnd (N k : Nat) : ∀ (es : List Ed), (∀ e ∈ es, e.1 < N ∧ e.2 < N) → ∀ i j, 0 < i → i ≤ k → 0 < j → j ≤ k → lap (gnd N k) es i j = lap (List.range N) es i j
  | [], _, _, _, _, _, _, _ => rfl
  | e :: r, h, i, j, hi, hik, hj, hjk => by
    obtain ⟨h1, h2⟩ := h e (List.mem_cons_self ..)
    have hd : ∀ i x, 0 < i → i ≤ k → delta i (if x ≤ k then x else 0) = delta i x := fun i x q1 q2 => by
      unfold delta
      by_cases q : x ≤ k
      · rw [if_pos q]
      · rw [if_neg q, if_neg (by omega), if_neg (by omega)]
    have hb : ∀ i, 0 < i → i ≤ k → bv (gnd N k) e i = bv (List.range N) e i := fun i q1 q2 => by
      rw [bv_def, bv_def, mk_gnd N k _ h1, mk_gnd N k _ h2, mk_range N _ h1, mk_range N _ h2, hd _ _ q1 q2, hd _ _ q1 q2]
    show bv (gnd N k) e i * bv (gnd N k) e j + lap (gnd N k) r i j = bv (List.range N) e i * bv (List.range N) e j + lap (List.range N) r i j
    rw [hb i hi hik, hb j hj hjk, lap_gnd N k r (fun e q => h e (List.mem_cons_of_mem _ q)) i j hi hik hj hjk]
theorem gnd_lt (N k x : Nat) (h : x ∈ gnd N k) : x < N := by
  obtain ⟨i, hi, rfl⟩ := List.mem_map.mp h
  rw [List.mem_range] at hi
  split <;> omega
theorem gnd_len (N k : Nat) : (gnd N k).length = N := by
  unfold gnd
  rw [List.length_map, List.length_range]
/-- the leading minors count trees, too -/
theorem pv_red (n : Nat) (es : List Ed) (he : ∀ e ∈ es, e.1 < n + 1 ∧ e.2 < n + 1) (k : Nat) (hk : k ≤ n) : pv' n (red (n + 1) es) k = (G (gnd (n + 1) k) es : Int) := by
  rw [← det_G es (gnd (n + 1) k) (n + 1) (gnd_len _ _).symm (by omega) (fun x hx => gnd_lt _ _ x hx) he]
  have m0 : mk (gnd (n + 1) k) 0 = 0 := by
    rw [mk_gnd _ _ _ (by omega), if_pos (by omega)]
  have e1 : det (n + 1) (MM (gnd (n + 1) k) es) = det (n + 1) (fun i j => if i = 0 ∨ k < i then delta i j else lap (List.range (n + 1)) es i j) := by
    refine det_clear (n + 1) (fun i => i = 0 ∨ k < i) _ _ (fun i hi q j hj => ?_) (fun i hi q j hj => if_pos q) (fun i hi q j hj q2 => ?_)
    · unfold MM
      refine if_neg fun z => ?_
      rw [m0] at z
      rcases q with q | q
      · exact z.2 q
      · obtain ⟨o, ho, e⟩ := List.mem_map.mp z.1
        split at e <;> omega
    · rw [if_neg q]
      unfold MM
      have q3 : i ∈ gnd (n + 1) k := List.mem_map.mpr ⟨i, List.mem_range.mpr hi, if_pos (by omega)⟩
      rw [m0, if_pos ⟨q3, fun z => q (.inl z)⟩]
      exact lap_gnd (n + 1) k es he i j (by omega) (by omega) (by omega) (by omega)
  rw [e1, det_first n _ (fun j hj => if_pos (.inl rfl))]
  unfold pv'
  refine det_congr n _ _ fun i hi j hj => ?_
  unfold WW red
  by_cases h : i < k
  · rw [if_pos h, if_neg (by omega)]
  · rw [if_neg h, if_pos (by omega)]
    unfold delta
    by_cases h2 : i = j
    · rw [if_pos h2, if_pos (by omega)]
    · rw [if_neg h2, if_neg (by omega)]

/-- all hang together by some ties -/
def Conn (N : Nat) (es : List Ed) : Prop := ∀ f : Nat → Nat, (∀ e ∈ es, f e.1 = f e.2) → ∀ i, i < N → f i = f 0
def ConnM (ms : List Nat) (es : List Ed) : Prop := ∀ f : Nat → Nat, (∀ e ∈ es, f (mk ms e.1) = f (mk ms e.2)) → ∀ x ∈ ms, f x = f (mk ms 0)
theorem Conn.toM {N : Nat} {es : List Ed} (c : Conn N es) (ms : List Nat) (h : ms.length = N) : ConnM ms es := fun f hf x hx => by
  obtain ⟨i, hi, rfl⟩ := mem_mk hx
  exact c (fun i => f (mk ms i)) hf i (by omega)
theorem ConnM.merge {ms : List Nat} {e : Ed} {r : List Ed} (c : ConnM ms (e :: r)) (h0 : 0 < ms.length) (he : ∀ e' ∈ e :: r, e'.1 < ms.length ∧ e'.2 < ms.length) : ConnM (ms.map (relab (mk ms e.1) (mk ms e.2))) r := fun f hf x hx => by
  obtain ⟨o, ho, rfl⟩ := List.mem_map.mp hx
  rw [mk_map ms _ 0 h0]
  refine c (fun y => f (relab (mk ms e.1) (mk ms e.2) y)) (fun e' he' => ?_) o ho
  rcases List.mem_cons.mp he' with rfl | q
  · show f (relab _ _ _) = f (relab _ _ _)
    congr 1
    unfold relab
    rw [if_pos rfl]
    split <;> rfl
  · have z := hf e' q
    obtain ⟨z1, z2⟩ := he e' he'
    rw [mk_map ms _ _ z1, mk_map ms _ _ z2] at z
    exact z
theorem G_pos : ∀ (es : List Ed) (ms : List Nat), 0 < ms.length → (∀ e ∈ es, e.1 < ms.length ∧ e.2 < ms.length) → ConnM ms es → 0 < G ms es
  | [], ms, _, _, c => by
    unfold G
    have h : one ms = true := by
      unfold one
      rw [List.all_eq_true]
      intro x hx
      exact beq_iff_eq.mpr (c (fun y => y) (fun _ q => by cases q) x hx)
    rw [if_pos h]
    decide
  | e :: r, ms, h0, he, c => by
    unfold G
    by_cases h : mk ms e.1 = mk ms e.2
    · have := G_pos r ms h0 (fun e q => he e (List.mem_cons_of_mem _ q)) (fun f hf => c f fun e' he' => by
        rcases List.mem_cons.mp he' with rfl | q
        · rw [h]
        · exact hf e' q)
      omega
    · rw [if_neg h]
      have := G_pos r (ms.map (relab (mk ms e.1) (mk ms e.2))) (by rw [List.length_map]; exact h0) (fun e q => by rw [List.length_map]; exact he e (List.mem_cons_of_mem _ q)) (c.merge h0 he)
      omega

theorem lap_abs (ms : List Nat) (i j : Nat) : ∀ (es : List Ed), (lap ms es i j).natAbs ≤ es.length
  | [] => by simp [lap]
  | e :: r => by
    have h1 := lap_abs ms i j r
    show (bv ms e i * bv ms e j + lap ms r i j).natAbs ≤ r.length + 1
    have hb : ∀ i, (bv ms e i).natAbs ≤ 1 := fun i => by
      rw [bv_def]
      unfold delta
      split <;> split <;> omega
    have h2 := Int.natAbs_add_le (bv ms e i * bv ms e j) (lap ms r i j)
    have h3 := Int.natAbs_mul (bv ms e i) (bv ms e j)
    have h4 := Nat.mul_le_mul (hb i) (hb j)
    omega

/-- all that many_in asks of the numbers in its table -/
theorem web_pv (n : Nat) (es : List Ed) (he : ∀ e ∈ es, e.1 < n + 1 ∧ e.2 < n + 1) (c : Conn (n + 1) es) (k : Nat) (hk : k ≤ n) : 0 < pv' n (red (n + 1) es) k := by
  rw [pv_red n es he k hk]
  have := G_pos es (gnd (n + 1) k) (by rw [gnd_len]; omega) (by rw [gnd_len]; exact he) (c.toM _ (gnd_len _ _))
  omega
theorem web_det (n : Nat) (es : List Ed) (he : ∀ e ∈ es, e.1 < n + 1 ∧ e.2 < n + 1) : pv' n (red (n + 1) es) n = (G (List.range (n + 1)) es : Int) := by
  rw [pv_red n es he n (Nat.le_refl n)]
  have e : gnd (n + 1) n = List.range (n + 1) := by
    unfold gnd
    conv => rhs; rw [← List.map_id (List.range (n + 1))]
    refine List.map_congr_left fun i hi => ?_
    rw [List.mem_range] at hi
    rw [if_pos (by omega)]
    rfl
  rw [e]
/-- how many trees, reckoned -/
theorem G_reckon (n : Nat) (es : List Ed) (he : ∀ e ∈ es, e.1 < n + 1 ∧ e.2 < n + 1) (c : Conn (n + 1) es) : (G (List.range (n + 1)) es : Int) = barF n 1 (tab (red (n + 1) es) 0 n) := by
  rw [bar_det n _ (fun l hl => by have := web_pv n es he c l (by omega); omega), ← web_det n es he]
  unfold pv'
  refine (det_congr n _ _ fun i hi j _ => ?_)
  unfold WW
  rw [if_pos hi]
end K4
end

section
set_option autoImplicit false
/-! Trees as lists: by taking and leaving, the program's way, the law's way. -/
namespace K4
abbrev Tie := Nat × Nat
def ed (m : Nat) (t : Tie) : Ed := (t.1, m + t.2)

def grown (ms : List Nat) : List Ed → List Nat
  | [] => ms
  | e :: r => grown (merge ms e) r
def trees (m : Nat) : List Nat → List Tie → List Tie → List (List Tie)
  | ms, acc, [] => if one ms = true then [acc] else []
  | ms, acc, t :: r => (if mk ms (ed m t).1 = mk ms (ed m t).2 then [] else trees m (merge ms (ed m t)) (acc ++ [t]) r) ++ trees m ms acc r

theorem merge_same {ms : List Nat} {e : Ed} (h : mk ms e.1 = mk ms e.2) : merge ms e = ms := if_pos h
theorem merge_diff {ms : List Nat} {e : Ed} (h : mk ms e.1 ≠ mk ms e.2) : merge ms e = ms.map (relab (mk ms e.1) (mk ms e.2)) := if_neg h
theorem merge_len (ms : List Nat) (e : Ed) : (merge ms e).length = ms.length := by
  unfold merge
  split
  · rfl
  · rw [List.length_map]
theorem merge_lt {ms : List Nat} {e : Ed} {N : Nat} (h : ∀ x ∈ ms, x < N) (h1 : e.1 < ms.length) : ∀ x ∈ merge ms e, x < N := by
  intro x hx
  unfold merge at hx
  split at hx
  · exact h x hx
  · obtain ⟨o, ho, rfl⟩ := List.mem_map.mp hx
    unfold relab
    split
    · exact h _ (mk_mem ms _ h1)
    · exact h o ho
theorem grown_len : ∀ (es : List Ed) (ms : List Nat), (grown ms es).length = ms.length
  | [], _ => rfl
  | e :: r, ms => by
    show (grown (merge ms e) r).length = _
    rw [grown_len r, merge_len]
/-- the marks change exactly if the ends are apart -/
theorem merge_eq_iff (ms : List Nat) (e : Ed) (h2 : e.2 < ms.length) : merge ms e = ms ↔ mk ms e.1 = mk ms e.2 := by
  constructor
  · intro h
    apply Classical.byContradiction
    intro q
    rw [merge_diff q] at h
    have z : mk (ms.map (relab (mk ms e.1) (mk ms e.2))) e.2 = mk ms e.2 := congrArg (fun l => mk l e.2) h
    rw [mk_map ms _ _ h2] at z
    unfold relab at z
    rw [if_pos rfl] at z
    exact q z
  · exact merge_same

theorem G_cons (ms : List Nat) (e : Ed) (r : List Ed) : G ms (e :: r) = G ms r + if mk ms e.1 = mk ms e.2 then 0 else G (merge ms e) r := by
  unfold merge
  show G ms r + (if mk ms e.1 = mk ms e.2 then 0 else _) = _
  split <;> rfl
theorem trees_len (m : Nat) : ∀ (T : List Tie) (ms : List Nat) (acc : List Tie), (trees m ms acc T).length = G ms (T.map (ed m))
  | [], ms, acc => by
    unfold trees
    show _ = if one ms = true then 1 else 0
    split <;> rfl
  | t :: r, ms, acc => by
    unfold trees
    rw [List.map_cons, G_cons, List.length_append, trees_len m r ms acc, Nat.add_comm]
    split
    · rfl
    · rw [trees_len m r]

theorem ConnM.nil {ms : List Nat} : ConnM ms [] ↔ one ms = true := by
  unfold one
  rw [List.all_eq_true]
  constructor
  · intro c x hx
    exact beq_iff_eq.mpr (c (fun y => y) (fun _ q => by cases q) x hx)
  · intro h f _ x hx
    rw [eq_of_beq (h x hx)]
theorem ConnM.cons {ms : List Nat} {e : Ed} {r : List Ed} (h0 : 0 < ms.length) (he : ∀ e' ∈ e :: r, e'.1 < ms.length ∧ e'.2 < ms.length) : ConnM ms (e :: r) ↔ ConnM (K4.merge ms e) r := by
  by_cases h : mk ms e.1 = mk ms e.2
  · rw [merge_same h]
    constructor
    · intro c f hf
      refine c f fun e' he' => ?_
      rcases List.mem_cons.mp he' with rfl | q
      · rw [h]
      · exact hf e' q
    · intro c f hf
      exact c f fun e' q => hf e' (List.mem_cons_of_mem _ q)
  · rw [merge_diff h]
    constructor
    · exact fun c => c.merge h0 he
    · intro c f hf x hx
      have hfr : ∀ y, f (relab (mk ms e.1) (mk ms e.2) y) = f y := fun y => by
        unfold relab
        split
        · rename_i q
          rw [q]
          exact hf e (List.mem_cons_self ..)
        · rfl
      have z := c f (fun e' he' => by
        obtain ⟨z1, z2⟩ := he e' (List.mem_cons_of_mem _ he')
        rw [mk_map ms _ _ z1, mk_map ms _ _ z2, hfr, hfr]
        exact hf e' (List.mem_cons_of_mem _ he')) _ (List.mem_map.mpr ⟨x, hx, rfl⟩)
      rw [mk_map ms _ 0 h0, hfr, hfr] at z
      exact z
theorem grown_one : ∀ (es : List Ed) (ms : List Nat), 0 < ms.length → (∀ e ∈ es, e.1 < ms.length ∧ e.2 < ms.length) → (one (grown ms es) = true ↔ ConnM ms es)
  | [], ms, _, _ => ConnM.nil.symm
  | e :: r, ms, h0, he => by
    rw [ConnM.cons h0 he]
    show one (grown (merge ms e) r) = true ↔ _
    exact grown_one r (merge ms e) (by rw [merge_len]; exact h0) (fun e q => by rw [merge_len]; exact he e (List.mem_cons_of_mem _ q))
theorem Conn_iff_M {N : Nat} {es : List Ed} (h0 : 0 < N) (he : ∀ e ∈ es, e.1 < N ∧ e.2 < N) : Conn N es ↔ ConnM (List.range N) es := by
  constructor
  · exact fun c => c.toM _ List.length_range
  · intro c f hf i hi
    have z := c f (fun e q => by
      rw [mk_range N _ (he e q).1, mk_range N _ (he e q).2]
      exact hf e q) i (List.mem_range.mpr hi)
    rw [mk_range N 0 h0] at z
    exact z
theorem G_pos_iff : ∀ (es : List Ed) (ms : List Nat), 0 < ms.length → (∀ e ∈ es, e.1 < ms.length ∧ e.2 < ms.length) → (0 < G ms es ↔ ConnM ms es) := by
  intro es
  induction es with
  | nil =>
    intro ms _ _
    rw [ConnM.nil]
    show 0 < (if one ms = true then 1 else 0) ↔ _
    split
    · rename_i h
      exact ⟨fun _ => h, fun _ => by decide⟩
    · rename_i h
      exact ⟨fun q => absurd q (by decide), fun q => absurd q h⟩
  | cons e r ih =>
    intro ms h0 he
    refine ⟨fun h => ?_, G_pos _ ms h0 he⟩
    have her : ∀ e ∈ r, e.1 < ms.length ∧ e.2 < ms.length := fun e q => he e (List.mem_cons_of_mem _ q)
    rw [G_cons] at h
    by_cases hp : 0 < G ms r
    · have c := (ih ms h0 her).mp hp
      intro f hf
      exact c f fun e' q => hf e' (List.mem_cons_of_mem _ q)
    · split at h
      · omega
      · refine (ConnM.cons h0 he).mpr ((ih _ (by rw [merge_len]; exact h0) (fun e q => by rw [merge_len]; exact her e q)).mp (by omega))

theorem trees_nil {m : Nat} {T : List Tie} {ms : List Nat} {acc : List Tie} (h0 : 0 < ms.length) (he : ∀ e ∈ T.map (ed m), e.1 < ms.length ∧ e.2 < ms.length) (h : ¬ one (grown ms (T.map (ed m))) = true) : trees m ms acc T = [] := by
  apply List.eq_nil_of_length_eq_zero
  rw [trees_len]
  have q := G_pos_iff _ ms h0 he
  rw [← grown_one _ ms h0 he] at q
  apply Classical.byContradiction
  intro z
  exact h (q.mp (by omega))

/-! ### the program's way: laps over the ties -/
def stepP (m : Nat) (rest : List Tie) (t : Tie) (row : List Tie × List Nat) : List (List Tie × List Nat) :=
  (if merge row.2 (ed m t) ≠ row.2 then [(row.1 ++ [t], merge row.2 (ed m t))] else []) ++
  (if merge row.2 (ed m t) = row.2 ∨ one (grown row.2 (rest.map (ed m))) = true then [row] else [])
def runP (m : Nat) : List (List Tie × List Nat) → List Tie → List (List Tie × List Nat)
  | rows, [] => rows
  | rows, t :: r => runP m (rows.flatMap (stepP m r t)) r
theorem runP_flat (m : Nat) : ∀ (T : List Tie) (rows : List (List Tie × List Nat)), runP m rows T = rows.flatMap (fun row => runP m [row] T)
  | [], rows => by
    show rows = rows.flatMap (fun row => [row])
    rw [List.flatMap_singleton']
  | t :: r, rows => by
    show runP m (rows.flatMap (stepP m r t)) r = rows.flatMap (fun row => runP m ([row].flatMap (stepP m r t)) r)
    rw [runP_flat m r, List.flatMap_assoc]
    refine congrArg (fun f => rows.flatMap f) (funext fun row => ?_)
    rw [runP_flat m r ([row].flatMap _)]
    simp
theorem runP_trees (m : Nat) : ∀ (T : List Tie) (acc : List Tie) (ms : List Nat), 0 < ms.length → (∀ e ∈ T.map (ed m), e.1 < ms.length ∧ e.2 < ms.length) → one (grown ms (T.map (ed m))) = true →
    (runP m [(acc, ms)] T).map (·.1) = trees m ms acc T
  | [], acc, ms, _, _, h => by
    unfold trees
    rw [if_pos (show one ms = true from h)]
    rfl
  | t :: r, acc, ms, h0, he, h => by
    have her : ∀ e ∈ r.map (ed m), e.1 < ms.length ∧ e.2 < ms.length := fun e q => he e (List.mem_cons_of_mem _ q)
    obtain ⟨h1, h2⟩ := he (ed m t) (List.mem_cons_self ..)
    have hm : one (grown (merge ms (ed m t)) (r.map (ed m))) = true := h
    show (runP m ([(acc, ms)].flatMap (stepP m r t)) r).map (·.1) = _
    rw [List.flatMap_singleton]
    unfold stepP trees
    by_cases q : mk ms (ed m t).1 = mk ms (ed m t).2
    · have q2 : merge ms (ed m t) = ms := merge_same q
      rw [if_neg (fun z => z q2), if_pos (.inl q2), if_pos q]
      rw [q2] at hm
      exact runP_trees m r acc ms h0 her hm
    · have q2 : merge ms (ed m t) ≠ ms := fun z => q ((merge_eq_iff ms _ h2).mp z)
      rw [if_pos q2, if_neg q]
      have ih := runP_trees m r (acc ++ [t]) (merge ms (ed m t)) (by rw [merge_len]; exact h0) (fun e z => by rw [merge_len]; exact her e z) hm
      by_cases q3 : one (grown ms (r.map (ed m))) = true
      · rw [if_pos (.inr q3), runP_flat, ← ih, ← runP_trees m r acc ms h0 her q3]
        simp
      · rw [if_neg (fun z => z.elim q2 q3), trees_nil h0 her q3, List.append_nil, List.append_nil]
        exact ih

/-! ### the law's way -/
def stepL (m need left : Nat) (t : Tie) (row : List Tie × List Nat) : List (List Tie × List Nat) :=
  (if need ≤ row.1.length + left then [row] else []) ++
  (if mk row.2 (ed m t).1 ≠ mk row.2 (ed m t).2 ∧ row.1.length < need then [(row.1 ++ [t], merge row.2 (ed m t))] else [])
def runL (m need : Nat) : List (List Tie × List Nat) → List Tie → List (List Tie × List Nat)
  | rows, [] => rows
  | rows, t :: r => runL m need (rows.flatMap (stepL m need r.length t)) r
theorem runL_flat (m need : Nat) : ∀ (T : List Tie) (rows : List (List Tie × List Nat)), runL m need rows T = rows.flatMap (fun row => runL m need [row] T)
  | [], rows => by
    show rows = rows.flatMap (fun row => [row])
    rw [List.flatMap_singleton']
  | t :: r, rows => by
    show runL m need (rows.flatMap (stepL m need r.length t)) r = rows.flatMap (fun row => runL m need ([row].flatMap (stepL m need r.length t)) r)
    rw [runL_flat m need r, List.flatMap_assoc]
    refine congrArg (fun f => rows.flatMap f) (funext fun row => ?_)
    rw [runL_flat m need r ([row].flatMap _)]
    simp

/-- how many marks there are -/
def cnt (N : Nat) (ms : List Nat) : Nat := ((List.range N).filter (fun x => decide (x ∈ ms))).length
theorem filter_split (l : List Nat) (hn : l.Nodup) (p : Nat → Bool) (v : Nat) (hv : v ∈ l) (hp : p v = true) : (l.filter p).length = (l.filter (fun x => p x && decide (x ≠ v))).length + 1 := by
  induction l with
  | nil => cases hv
  | cons a l ih =>
    rw [List.nodup_cons] at hn
    by_cases e : a = v
    · subst e
      have h1 : l.filter (fun x => p x && decide (x ≠ a)) = l.filter p := by
        refine List.filter_congr fun x hx => ?_
        have : x ≠ a := fun z => hn.1 (z ▸ hx)
        simp [this]
      rw [List.filter_cons_of_pos hp, List.filter_cons_of_neg (by simp), h1, List.length_cons]
    · have hv2 : v ∈ l := by
        rcases List.mem_cons.mp hv with q | q
        · exact absurd q.symm e
        · exact q
      have ih2 := ih hn.2 hv2
      by_cases hp2 : p a = true
      · rw [List.filter_cons_of_pos hp2, List.filter_cons_of_pos (by simp [hp2, e]), List.length_cons, List.length_cons, ih2]
      · rw [List.filter_cons_of_neg hp2, List.filter_cons_of_neg (by simp [hp2]), ih2]
theorem cnt_merge (N : Nat) (ms : List Nat) (e : Ed) (hlt : ∀ x ∈ ms, x < N) (h1 : e.1 < ms.length) (h2 : e.2 < ms.length) (h : mk ms e.1 ≠ mk ms e.2) : cnt N ms = cnt N (merge ms e) + 1 := by
  have hv := mk_mem ms e.2 h2
  have hu := mk_mem ms e.1 h1
  unfold cnt
  rw [filter_split (List.range N) List.nodup_range (fun x => decide (x ∈ ms)) (mk ms e.2) (List.mem_range.mpr (hlt _ hv)) (decide_eq_true hv)]
  congr 2
  refine List.filter_congr fun x _ => ?_
  rw [merge_diff h]
  rw [Bool.eq_iff_iff]
  simp only [Bool.and_eq_true, decide_eq_true_eq]
  exact (mem_relab hu h).symm
theorem cnt_range (N : Nat) : cnt N (List.range N) = N := by
  unfold cnt
  rw [List.filter_eq_self.mpr (fun x hx => decide_eq_true hx), List.length_range]
theorem cnt_one (N : Nat) (ms : List Nat) (h0 : 0 < ms.length) (hlt : ∀ x ∈ ms, x < N) : one ms = true ↔ cnt N ms = 1 := by
  have h00 := mk_mem ms 0 h0
  have hs : cnt N ms = ((List.range N).filter (fun x => decide (x ∈ ms) && decide (x ≠ mk ms 0))).length + 1 :=
    filter_split (List.range N) List.nodup_range (fun x => decide (x ∈ ms)) (mk ms 0) (List.mem_range.mpr (hlt _ h00)) (decide_eq_true h00)
  rw [hs]
  unfold one
  rw [List.all_eq_true]
  constructor
  · intro h
    have : (List.range N).filter (fun x => decide (x ∈ ms) && decide (x ≠ mk ms 0)) = [] := by
      rw [List.filter_eq_nil_iff]
      intro x _ q
      rw [Bool.and_eq_true, decide_eq_true_eq, decide_eq_true_eq] at q
      exact q.2 (eq_of_beq (h x q.1))
    rw [this]
    rfl
  · intro h x hx
    have h3 : (List.range N).filter (fun x => decide (x ∈ ms) && decide (x ≠ mk ms 0)) = [] := List.eq_nil_of_length_eq_zero (by omega)
    rw [List.filter_eq_nil_iff] at h3
    apply Classical.byContradiction
    intro q
    refine h3 x (List.mem_range.mpr (hlt x hx)) ?_
    rw [Bool.and_eq_true, decide_eq_true_eq, decide_eq_true_eq]
    exact ⟨hx, fun z => q (beq_iff_eq.mpr z)⟩
theorem cnt_pos (N : Nat) (ms : List Nat) (h0 : 0 < ms.length) (hlt : ∀ x ∈ ms, x < N) : 0 < cnt N ms := by
  have h00 := mk_mem ms 0 h0
  have hs := filter_split (List.range N) List.nodup_range (fun x => decide (x ∈ ms)) (mk ms 0) (List.mem_range.mpr (hlt _ h00)) (decide_eq_true h00)
  unfold cnt
  omega

/-- what a tree of the list is -/
theorem trees_mem (m N : Nat) : ∀ (T : List Tie) (ms : List Nat) (acc : List Tie), 0 < ms.length → (∀ x ∈ ms, x < N) → (∀ e ∈ T.map (ed m), e.1 < ms.length ∧ e.2 < ms.length) →
    ∀ x ∈ trees m ms acc T, ∃ y, x = acc ++ y ∧ y.Sublist T ∧ y.length + 1 = cnt N ms ∧ one (grown ms (y.map (ed m))) = true
  | [], ms, acc, h0, hlt, _, x, hx => by
    unfold trees at hx
    split at hx
    · rename_i h
      have e : x = acc := by simpa using hx
      exact ⟨[], by rw [e, List.append_nil], List.Sublist.refl _, ((cnt_one N ms h0 hlt).mp h).symm, h⟩
    · cases hx
  | t :: r, ms, acc, h0, hlt, he, x, hx => by
    have her : ∀ e ∈ r.map (ed m), e.1 < ms.length ∧ e.2 < ms.length := fun e q => he e (List.mem_cons_of_mem _ q)
    obtain ⟨h1, h2⟩ := he (ed m t) (List.mem_cons_self ..)
    unfold trees at hx
    rcases List.mem_append.mp hx with hx | hx
    · split at hx
      · cases hx
      · rename_i q
        obtain ⟨y, e1, e2, e3, e4⟩ := trees_mem m N r (merge ms (ed m t)) (acc ++ [t]) (by rw [merge_len]; exact h0) (merge_lt hlt h1) (fun e z => by rw [merge_len]; exact her e z) x hx
        refine ⟨t :: y, by rw [e1, List.append_assoc]; rfl, e2.cons_cons t, ?_, e4⟩
        have := cnt_merge N ms (ed m t) hlt h1 h2 q
        rw [List.length_cons]
        omega
    · obtain ⟨y, e1, e2, e3, e4⟩ := trees_mem m N r ms acc h0 hlt her x hx
      exact ⟨y, e1, e2.cons t, e3, e4⟩

theorem runL_trees (m N : Nat) : ∀ (T : List Tie) (acc : List Tie) (ms : List Nat), 0 < ms.length → (∀ x ∈ ms, x < N) → (∀ e ∈ T.map (ed m), e.1 < ms.length ∧ e.2 < ms.length) → acc.length + cnt N ms = N →
    (((runL m (N - 1) [(acc, ms)] T).map (·.1)).filter (fun x => x.length == N - 1)).Perm (trees m ms acc T)
  | [], acc, ms, h0, hlt, _, hc => by
    unfold trees
    show (([acc] : List (List Tie)).filter _).Perm _
    have := cnt_pos N ms h0 hlt
    by_cases h : one ms = true
    · have h1 := (cnt_one N ms h0 hlt).mp h
      rw [if_pos h, List.filter_cons_of_pos (by rw [beq_iff_eq]; omega)]
      exact List.Perm.refl _
    · have h1 : ¬ cnt N ms = 1 := fun z => h ((cnt_one N ms h0 hlt).mpr z)
      rw [if_neg h, List.filter_cons_of_neg (by rw [beq_iff_eq]; omega)]
      exact List.Perm.refl _
  | t :: r, acc, ms, h0, hlt, he, hc => by
    have her : ∀ e ∈ r.map (ed m), e.1 < ms.length ∧ e.2 < ms.length := fun e q => he e (List.mem_cons_of_mem _ q)
    obtain ⟨h1, h2⟩ := he (ed m t) (List.mem_cons_self ..)
    show (((runL m (N - 1) ([(acc, ms)].flatMap (stepL m (N - 1) r.length t)) r).map (·.1)).filter _).Perm _
    rw [List.flatMap_singleton]
    unfold stepL trees
    have hleave : (((runL m (N - 1) (if N - 1 ≤ acc.length + r.length then [(acc, ms)] else []) r).map (·.1)).filter (fun x => x.length == N - 1)).Perm (trees m ms acc r) := by
      by_cases q : N - 1 ≤ acc.length + r.length
      · rw [if_pos q]
        exact runL_trees m N r acc ms h0 hlt her hc
      · rw [if_neg q]
        have e1 : runL m (N - 1) [] r = [] := by rw [runL_flat]; rfl
        have e2 : trees m ms acc r = [] := by
          rw [List.eq_nil_iff_forall_not_mem]
          intro x hx
          obtain ⟨y, z1, z2, z3, _⟩ := trees_mem m N r ms acc h0 hlt her x hx
          have := z2.length_le
          omega
        rw [e1, e2]
        exact List.Perm.refl _
    by_cases q : mk ms (ed m t).1 = mk ms (ed m t).2
    · rw [if_pos q, if_neg (show ¬ (mk ms (ed m t).1 ≠ mk ms (ed m t).2 ∧ acc.length < N - 1) from fun z => z.1 q), List.append_nil, List.nil_append]
      exact hleave
    · have hcm := cnt_merge N ms (ed m t) hlt h1 h2 q
      have hpos := cnt_pos N (merge ms (ed m t)) (by rw [merge_len]; exact h0) (merge_lt hlt h1)
      rw [if_neg q, if_pos (show mk ms (ed m t).1 ≠ mk ms (ed m t).2 ∧ acc.length < N - 1 from ⟨q, by omega⟩)]
      have htake := runL_trees m N r (acc ++ [t]) (merge ms (ed m t)) (by rw [merge_len]; exact h0) (merge_lt hlt h1) (fun e z => by rw [merge_len]; exact her e z) (by rw [List.length_append]; show acc.length + 1 + _ = N; omega)
      rw [runL_flat, List.flatMap_append, ← runL_flat, ← runL_flat, List.map_append, List.filter_append]
      exact (List.perm_append_comm).trans (htake.append hleave)

/-! ### some tree -/
def greedy (m : Nat) : List Nat → List Tie → List Tie → List Tie
  | _, acc, [] => acc
  | ms, acc, t :: r => greedy m (merge ms (ed m t)) (if merge ms (ed m t) ≠ ms then acc ++ [t] else acc) r
theorem greedy_mem (m : Nat) : ∀ (T : List Tie) (ms : List Nat) (acc : List Tie), 0 < ms.length → (∀ e ∈ T.map (ed m), e.1 < ms.length ∧ e.2 < ms.length) → one (grown ms (T.map (ed m))) = true → greedy m ms acc T ∈ trees m ms acc T
  | [], ms, acc, _, _, h => by
    unfold trees greedy
    rw [if_pos (show one ms = true from h)]
    exact List.mem_singleton.mpr rfl
  | t :: r, ms, acc, h0, he, h => by
    have her : ∀ e ∈ r.map (ed m), e.1 < ms.length ∧ e.2 < ms.length := fun e q => he e (List.mem_cons_of_mem _ q)
    obtain ⟨h1, h2⟩ := he (ed m t) (List.mem_cons_self ..)
    have hm : one (grown (merge ms (ed m t)) (r.map (ed m))) = true := h
    have ih := fun acc => greedy_mem m r (merge ms (ed m t)) acc (by rw [merge_len]; exact h0) (fun e z => by rw [merge_len]; exact her e z) hm
    unfold trees
    show greedy m (merge ms (ed m t)) (if merge ms (ed m t) ≠ ms then acc ++ [t] else acc) r ∈ _
    by_cases q : mk ms (ed m t).1 = mk ms (ed m t).2
    · have q2 : merge ms (ed m t) = ms := merge_same q
      have := ih acc
      rw [if_neg (show ¬ (merge ms (ed m t) ≠ ms) from fun z => z q2)]
      rw [q2] at this ⊢
      exact List.mem_append_right _ this
    · rw [if_pos (show merge ms (ed m t) ≠ ms from fun z => q ((merge_eq_iff ms _ h2).mp z)), if_neg q]
      exact List.mem_append_left _ (ih _)

theorem G_le : ∀ (es : List Ed) (ms : List Nat), G ms es ≤ 2 ^ es.length
  | [], ms => by
    unfold G
    split <;> simp
  | e :: r, ms => by
    have h1 := G_le r ms
    have h2 := G_le r (merge ms e)
    rw [G_cons, List.length_cons, Nat.pow_succ]
    split <;> omega
end K4
end

section
set_option autoImplicit false
/-! Webs; two glued at HAND 0. -/
namespace K4

theorem one_iff (ms : List Nat) : one ms = true ↔ ∀ i, i < ms.length → mk ms i = mk ms 0 := by
  unfold one
  rw [List.all_eq_true]
  constructor
  · intro h i hi
    exact eq_of_beq (h _ (mk_mem ms i hi))
  · intro h x hx
    obtain ⟨i, hi, rfl⟩ := mem_mk hx
    exact beq_iff_eq.mpr (h i hi)
def em (φ : Nat → Nat) (e : Ed) : Ed := (φ e.1, φ e.2)

theorem G_cons' (ms : List Nat) (e : Ed) (r : List Ed) : G ms (e :: r) = G ms r + if mk ms e.1 = mk ms e.2 then 0 else G (ms.map (relab (mk ms e.1) (mk ms e.2))) r := rfl
theorem G_embed (φ : Nat → Nat) (Ng NB : Nat) (h0 : φ 0 = 0) (hB : 0 < NB) (hφ : ∀ j, j < NB → φ j < Ng) : ∀ (es : List Ed) (ms mB : List Nat) (lam : Nat → Nat), ms.length = Ng → mB.length = NB →
    (∀ e ∈ es, e.1 < NB ∧ e.2 < NB) → (∀ j, j < NB → mk ms (φ j) = lam (mk mB j)) → (∀ x ∈ mB, x < NB) → (∀ a b, a < NB → b < NB → lam a = lam b → a = b) → (∀ x, x < Ng → ∃ j, j < NB ∧ mk ms x = mk ms (φ j)) →
    G ms (es.map (em φ)) = G mB es
  | [], ms, mB, lam, hl, hlB, _, hm, hx, hi, hc => by
    have e : one ms = true ↔ one mB = true := by
      rw [one_iff, one_iff]
      constructor
      · intro h j hj
        rw [hlB] at hj
        have z := h (φ j) (by rw [hl]; exact hφ j hj)
        rw [hm j hj, ← h0, hm 0 hB] at z
        exact hi _ _ (hx _ (mk_mem _ _ (by omega))) (hx _ (mk_mem _ _ (by omega))) z
      · intro h x hxl
        obtain ⟨j, hj, e⟩ := hc x (by omega)
        rw [e, hm j hj, h j (by omega), ← hm 0 hB, h0]
    show (if one ms = true then 1 else 0) = (if one mB = true then 1 else 0)
    by_cases q : one mB = true
    · rw [if_pos q, if_pos (e.mpr q)]
    · rw [if_neg q, if_neg (fun z => q (e.mp z))]
  | e :: r, ms, mB, lam, hl, hlB, he, hm, hx, hi, hc => by
    obtain ⟨h1, h2⟩ := he e (List.mem_cons_self ..)
    have her : ∀ e ∈ r, e.1 < NB ∧ e.2 < NB := fun e q => he e (List.mem_cons_of_mem _ q)
    rw [List.map_cons, G_cons', G_cons', G_embed φ Ng NB h0 hB hφ r ms mB lam hl hlB her hm hx hi hc]
    show _ + (if mk ms (φ e.1) = mk ms (φ e.2) then 0 else G (ms.map (relab (mk ms (φ e.1)) (mk ms (φ e.2)))) (r.map (em φ))) = _
    have u1 := hx _ (mk_mem mB e.1 (by omega))
    have u2 := hx _ (mk_mem mB e.2 (by omega))
    by_cases q : mk mB e.1 = mk mB e.2
    · rw [if_pos q, hm _ h1, hm _ h2, q, if_pos rfl]
    · rw [if_neg q, hm _ h1, hm _ h2, if_neg (fun z => q (hi _ _ u1 u2 z))]
      congr 1
      refine G_embed φ Ng NB h0 hB hφ r _ _ lam (by rw [List.length_map]; exact hl) (by rw [List.length_map]; exact hlB) her (fun j hj => ?_) (fun x hxm => ?_) hi (fun x hxl => ?_)
      · rw [mk_map ms _ _ (by rw [hl]; exact hφ j hj), mk_map mB _ _ (by omega), hm j hj]
        unfold relab
        have u3 := hx _ (mk_mem mB j (by omega))
        by_cases q2 : mk mB j = mk mB e.2
        · rw [if_pos q2, q2, if_pos rfl]
        · rw [if_neg q2, if_neg (fun z => q2 (hi _ _ u3 u2 z))]
      · obtain ⟨o, ho, rfl⟩ := List.mem_map.mp hxm
        unfold relab
        split
        · exact u1
        · exact hx o ho
      · obtain ⟨j, hj, e⟩ := hc x hxl
        refine ⟨j, hj, ?_⟩
        rw [mk_map ms _ _ (by omega), mk_map ms _ _ (by rw [hl]; exact hφ j hj), e]

theorem G_apart (φ : Nat → Nat) (Ng NB : Nat) (h0 : φ 0 = 0) (hB : 0 < NB) (hφ : ∀ j, j < NB → φ j < Ng) (x : Nat) (hx : x < Ng) : ∀ (es : List Ed) (ms : List Nat), ms.length = Ng →
    (∀ e ∈ es, e.1 < NB ∧ e.2 < NB) → (∀ j, j < NB → mk ms x ≠ mk ms (φ j)) → G ms (es.map (em φ)) = 0
  | [], ms, hl, _, hn => by
    show (if one ms = true then 1 else 0) = 0
    refine if_neg fun h => ?_
    have z := (one_iff ms).mp h x (by omega)
    rw [← h0] at z
    exact hn 0 hB z
  | e :: r, ms, hl, he, hn => by
    obtain ⟨h1, h2⟩ := he e (List.mem_cons_self ..)
    have her : ∀ e ∈ r, e.1 < NB ∧ e.2 < NB := fun e q => he e (List.mem_cons_of_mem _ q)
    rw [List.map_cons, G_cons', G_apart φ Ng NB h0 hB hφ x hx r ms hl her hn]
    show 0 + (if mk ms (φ e.1) = mk ms (φ e.2) then 0 else G (ms.map (relab (mk ms (φ e.1)) (mk ms (φ e.2)))) (r.map (em φ))) = 0
    by_cases q : mk ms (φ e.1) = mk ms (φ e.2)
    · rw [if_pos q]
    · rw [if_neg q, G_apart φ Ng NB h0 hB hφ x hx r _ (by rw [List.length_map]; exact hl) her (fun j hj => ?_)]
      rw [mk_map ms _ _ (by omega), mk_map ms _ _ (by rw [hl]; exact hφ j hj)]
      have e1 : relab (mk ms (φ e.1)) (mk ms (φ e.2)) (mk ms x) = mk ms x := if_neg (hn _ h2)
      rw [e1]
      unfold relab
      split
      · exact hn _ h1
      · exact hn _ hj

theorem G_glue (φ ψ : Nat → Nat) (Ng NA NB : Nat) (hA : 0 < NA) (hB : 0 < NB) (p0 : φ 0 = 0) (q0 : ψ 0 = 0) (hφ : ∀ i, i < NA → φ i < Ng) (hψ : ∀ j, j < NB → ψ j < Ng)
    (iφ : ∀ a b, a < NA → b < NA → φ a = φ b → a = b) (iψ : ∀ a b, a < NB → b < NB → ψ a = ψ b → a = b) (dis : ∀ i j, i < NA → j < NB → 0 < j → φ i ≠ ψ j)
    (cov : ∀ x, x < Ng → (∃ i, i < NA ∧ x = φ i) ∨ (∃ j, j < NB ∧ x = ψ j)) (EB : List Ed) (heB : ∀ e ∈ EB, e.1 < NB ∧ e.2 < NB) : ∀ (EA : List Ed) (ms mA : List Nat), ms.length = Ng → mA.length = NA →
    (∀ e ∈ EA, e.1 < NA ∧ e.2 < NA) → (∀ i, i < NA → mk ms (φ i) = φ (mk mA i)) → (∀ x ∈ mA, x < NA) → (∀ j, j < NB → 0 < j → mk ms (ψ j) = ψ j) →
    G ms (EA.map (em φ) ++ EB.map (em ψ)) = G mA EA * G (List.range NB) EB
  | [], ms, mA, hl, hlA, _, hm, hx, hj => by
    show G ms (EB.map (em ψ)) = (if one mA = true then 1 else 0) * _
    have hψ0 : mk ms (ψ 0) = φ (mk mA 0) := by
      rw [q0, ← p0]
      have := hm 0 hA
      rw [p0] at this ⊢
      exact this
    have hm0 := hx _ (mk_mem mA 0 (by omega))
    by_cases q : one mA = true
    · rw [if_pos q, Nat.one_mul]
      have q' := (one_iff mA).mp q
      refine G_embed ψ Ng NB q0 hB hψ EB ms (List.range NB) (fun l => if l = 0 then φ (mk mA 0) else ψ l) hl List.length_range heB (fun j h => ?_) (fun x h => List.mem_range.mp h) (fun a b ha hb e => ?_) (fun x h => ?_)
      · rw [mk_range NB j h]
        by_cases z : j = 0
        · rw [if_pos z, z]
          exact hψ0
        · rw [if_neg z]
          exact hj j h (by omega)
      · have e : (if a = 0 then φ (mk mA 0) else ψ a) = (if b = 0 then φ (mk mA 0) else ψ b) := e
        by_cases za : a = 0
        · by_cases zb : b = 0
          · omega
          · rw [if_pos za, if_neg zb] at e
            exact absurd e (dis _ _ hm0 hb (by omega))
        · by_cases zb : b = 0
          · rw [if_neg za, if_pos zb] at e
            exact absurd e.symm (dis _ _ hm0 ha (by omega))
          · rw [if_neg za, if_neg zb] at e
            exact iψ a b ha hb e
      · rcases cov x h with ⟨i, hi, rfl⟩ | ⟨j, hj2, rfl⟩
        · refine ⟨0, hB, ?_⟩
          rw [hm i hi, q' i (by omega), hψ0]
        · exact ⟨j, hj2, rfl⟩
    · rw [if_neg q, Nat.zero_mul]
      have q' : ¬ ∀ i, i < mA.length → mk mA i = mk mA 0 := fun z => q ((one_iff mA).mpr z)
      obtain ⟨i, hi, hne⟩ : ∃ i, i < NA ∧ mk mA i ≠ mk mA 0 := by
        apply Classical.byContradiction
        intro z
        refine q' fun i hi => Classical.byContradiction fun w => z ⟨i, by omega, w⟩
      have hmi := hx _ (mk_mem mA i (by omega))
      refine G_apart ψ Ng NB q0 hB hψ (φ i) (hφ i hi) EB ms hl heB (fun j hj2 => ?_)
      rw [hm i hi]
      by_cases z : j = 0
      · rw [z, hψ0]
        exact fun w => hne (iφ _ _ hmi hm0 w)
      · rw [hj j hj2 (by omega)]
        exact dis _ _ hmi hj2 (by omega)
  | e :: r, ms, mA, hl, hlA, he, hm, hx, hj => by
    obtain ⟨h1, h2⟩ := he e (List.mem_cons_self ..)
    have her : ∀ e ∈ r, e.1 < NA ∧ e.2 < NA := fun e q => he e (List.mem_cons_of_mem _ q)
    have ih := G_glue φ ψ Ng NA NB hA hB p0 q0 hφ hψ iφ iψ dis cov EB heB r
    rw [List.map_cons, List.cons_append, G_cons', G_cons', ih ms mA hl hlA her hm hx hj]
    show _ + (if mk ms (φ e.1) = mk ms (φ e.2) then 0 else G (ms.map (relab (mk ms (φ e.1)) (mk ms (φ e.2)))) (r.map (em φ) ++ EB.map (em ψ))) = _
    have u1 := hx _ (mk_mem mA e.1 (by omega))
    have u2 := hx _ (mk_mem mA e.2 (by omega))
    by_cases q : mk mA e.1 = mk mA e.2
    · rw [if_pos q, hm _ h1, hm _ h2, q, if_pos rfl, Nat.add_zero, Nat.add_zero]
    · rw [if_neg q, hm _ h1, hm _ h2, if_neg (fun z => q (iφ _ _ u1 u2 z)), Nat.add_mul]
      congr 1
      refine ih _ _ (by rw [List.length_map]; exact hl) (by rw [List.length_map]; exact hlA) her (fun i hi => ?_) (fun x hxm => ?_) (fun j hj2 hj3 => ?_)
      · rw [mk_map ms _ _ (by rw [hl]; exact hφ i hi), mk_map mA _ _ (by omega), hm i hi]
        unfold relab
        have u3 := hx _ (mk_mem mA i (by omega))
        by_cases q2 : mk mA i = mk mA e.2
        · rw [if_pos q2, q2, if_pos rfl]
        · rw [if_neg q2, if_neg (fun z => q2 (iφ _ _ u3 u2 z))]
      · obtain ⟨o, ho, rfl⟩ := List.mem_map.mp hxm
        unfold relab
        split
        · exact u1
        · exact hx o ho
      · rw [mk_map ms _ _ (by rw [hl]; exact hψ j hj2), hj j hj2 hj3]
        exact if_neg (fun z => dis _ _ u2 hj2 hj3 z.symm)

/-! ### webs -/
def ltT (a b : Tie) : Prop := a.1 < b.1 ∨ (a.1 = b.1 ∧ a.2 < b.2)
/-- a web, its ties in any order -/
structure WebU (m n : Nat) (T : List Tie) : Prop where
  hm : 0 < m
  hn : 0 < n
  rng : ∀ t ∈ T, t.1 < m ∧ t.2 < n
  conn : Conn (m + n) (T.map (ed m))
structure Web (m n : Nat) (T : List Tie) : Prop extends WebU m n T where
  asc : T.Pairwise ltT
/-- how many trees -/
def count (m n : Nat) (T : List Tie) : Nat := G (List.range (m + n)) (T.map (ed m))
def treesW (m n : Nat) (T : List Tie) : List (List Tie) := trees m (List.range (m + n)) [] T
section
variable {m n : Nat} {T : List Tie}
theorem WebU.eds (w : WebU m n T) : ∀ e ∈ T.map (ed m), e.1 < m + n ∧ e.2 < m + n := by
  intro e he
  obtain ⟨t, ht, rfl⟩ := List.mem_map.mp he
  have := w.rng t ht
  have := w.hm
  have := w.hn
  unfold ed
  exact ⟨by show t.1 < m + n; omega, by show m + t.2 < m + n; omega⟩
theorem WebU.pos (w : WebU m n T) : 0 < m + n := by
  have := w.hm
  omega
theorem WebU.len0 (w : WebU m n T) : 0 < (List.range (m + n)).length := by
  rw [List.length_range]
  exact w.pos
theorem WebU.eds' (w : WebU m n T) : ∀ e ∈ T.map (ed m), e.1 < (List.range (m + n)).length ∧ e.2 < (List.range (m + n)).length := by
  rw [List.length_range]
  exact w.eds
theorem range_lt' (N : Nat) : ∀ x ∈ List.range N, x < N := fun _ h => List.mem_range.mp h
theorem WebU.grown (w : WebU m n T) : one (K4.grown (List.range (m + n)) (T.map (ed m))) = true :=
  (grown_one _ _ w.len0 w.eds').mpr ((Conn_iff_M w.pos w.eds).mp w.conn)
theorem WebU.perm (w : WebU m n T) {T' : List Tie} (p : T'.Perm T) : WebU m n T' where
  hm := w.hm
  hn := w.hn
  rng := fun t h => w.rng t (p.mem_iff.mp h)
  conn := fun f hf => w.conn f fun e he => hf e ((p.map (ed m)).mem_iff.mpr he)
theorem count_perm (w : WebU m n T) {T' : List Tie} (p : T'.Perm T) : count m n T' = count m n T := by
  unfold count
  refine G_perm (p.map (ed m)) _ w.len0 (fun x hx => by rw [List.length_range]; exact List.mem_range.mp hx) (w.perm p).eds'
theorem treesW_len : (treesW m n T).length = count m n T := trees_len m T _ []
theorem count_pos (w : WebU m n T) : 0 < count m n T := (G_pos_iff _ _ w.len0 w.eds').mpr ((Conn_iff_M w.pos w.eds).mp w.conn)
theorem treesW_mem (w : WebU m n T) : ∀ x ∈ treesW m n T, x.Sublist T ∧ x.length + 1 = m + n ∧ one (K4.grown (List.range (m + n)) (x.map (ed m))) = true := by
  intro x hx
  obtain ⟨y, e1, e2, e3, e4⟩ := trees_mem m (m + n) T _ [] w.len0 (range_lt' _) w.eds' x hx
  rw [List.nil_append] at e1
  subst e1
  rw [cnt_range] at e3
  exact ⟨e2, e3, e4⟩
theorem WebU.len (w : WebU m n T) : m + n ≤ T.length + 1 := by
  have h := count_pos w
  rw [← treesW_len] at h
  obtain ⟨x, hx⟩ := List.exists_mem_of_length_pos h
  obtain ⟨h1, h2, _⟩ := treesW_mem w x hx
  have := h1.length_le
  omega
theorem count_le (m n : Nat) (T : List Tie) : count m n T ≤ 2 ^ T.length := by
  have := G_le (T.map (ed m)) (List.range (m + n))
  rw [List.length_map] at this
  exact this
/-- how many trees, reckoned -/
theorem count_reckon (w : WebU m n T) : (count m n T : Int) = barF (m + n - 1) 1 (tab (red (m + n) (T.map (ed m))) 0 (m + n - 1)) := by
  have e : m + n - 1 + 1 = m + n := by have := w.pos; omega
  have q := G_reckon (m + n - 1) (T.map (ed m)) (by rw [e]; exact w.eds) (by rw [e]; exact w.conn)
  rw [e] at q
  exact q
/-- a web by a look -/
def webOk (m n : Nat) (T : List Tie) : Bool := decide (0 < m) && decide (0 < n) && T.all (fun t => decide (t.1 < m) && decide (t.2 < n)) && one (K4.grown (List.range (m + n)) (T.map (ed m)))
theorem WebU.of_look (h : webOk m n T = true) : WebU m n T := by
  unfold webOk at h
  simp only [Bool.and_eq_true, decide_eq_true_eq, List.all_eq_true] at h
  obtain ⟨⟨⟨h1, h2⟩, h3⟩, h4⟩ := h
  have he : ∀ e ∈ T.map (ed m), e.1 < m + n ∧ e.2 < m + n := by
    intro e he
    obtain ⟨t, ht, rfl⟩ := List.mem_map.mp he
    have := h3 t ht
    exact ⟨by show t.1 < m + n; omega, by show m + t.2 < m + n; omega⟩
  refine ⟨h1, h2, h3, (Conn_iff_M (by omega) he).mpr ((grown_one _ _ (by rw [List.length_range]; omega) (by rw [List.length_range]; exact he)).mp h4)⟩
end

/-! ### glued at HAND 0 -/
def shiftT (m1 n1 : Nat) (t : Tie) : Tie := (if 0 < t.1 then t.1 + m1 - 1 else 0, t.2 + n1)
theorem glue_web {m1 n1 m n : Nat} {T1 T2 : List Tie} (w1 : WebU m1 n1 T1) (w2 : WebU m n T2) :
    WebU (m1 + m - 1) (n1 + n) (T1 ++ T2.map (shiftT m1 n1)) ∧ count (m1 + m - 1) (n1 + n) (T1 ++ T2.map (shiftT m1 n1)) = count m1 n1 T1 * count m n T2 := by
  have a1 := w1.hm
  have a2 := w1.hn
  have b1 := w2.hm
  have b2 := w2.hn
  have eN : m1 + m - 1 + (n1 + n) = m1 + m - 1 + n1 + n := by omega
  let φ : Nat → Nat := fun i => if i < m1 then i else i - m1 + (m1 + m - 1)
  let ψ : Nat → Nat := fun j => if j = 0 then 0 else if j < m then j + m1 - 1 else j - m + (m1 + m - 1 + n1)
  have eA : T1.map (ed (m1 + m - 1)) = (T1.map (ed m1)).map (em φ) := by
    rw [List.map_map]
    refine List.map_congr_left fun t ht => ?_
    have := w1.rng t ht
    show (t.1, m1 + m - 1 + t.2) = (φ t.1, φ (m1 + t.2))
    show (t.1, m1 + m - 1 + t.2) = (if t.1 < m1 then t.1 else _, if m1 + t.2 < m1 then _ else m1 + t.2 - m1 + (m1 + m - 1))
    rw [if_pos this.1, if_neg (by omega)]
    congr 1
    omega
  have eB : (T2.map (shiftT m1 n1)).map (ed (m1 + m - 1)) = (T2.map (ed m)).map (em ψ) := by
    rw [List.map_map, List.map_map]
    refine List.map_congr_left fun t ht => ?_
    have := w2.rng t ht
    show ((if 0 < t.1 then t.1 + m1 - 1 else 0), m1 + m - 1 + (t.2 + n1)) = ((if t.1 = 0 then 0 else if t.1 < m then t.1 + m1 - 1 else _), (if m + t.2 = 0 then 0 else if m + t.2 < m then _ else m + t.2 - m + (m1 + m - 1 + n1)))
    have e2 : m1 + m - 1 + (t.2 + n1) = m + t.2 - m + (m1 + m - 1 + n1) := by omega
    rw [if_neg (show ¬ m + t.2 = 0 by omega), if_neg (show ¬ m + t.2 < m by omega), e2]
    congr 1
    by_cases z : t.1 = 0
    · rw [if_pos z, if_neg (by omega)]
    · rw [if_neg z, if_pos (by omega), if_pos this.1]
  have p0 : φ 0 = 0 := if_pos a1
  have q0 : ψ 0 = 0 := if_pos rfl
  have hφ : ∀ i, i < m1 + n1 → φ i < m1 + m - 1 + (n1 + n) := fun i hi => by
    show (if i < m1 then i else i - m1 + (m1 + m - 1)) < _
    split <;> omega
  have hψ : ∀ j, j < m + n → ψ j < m1 + m - 1 + (n1 + n) := fun j hj => by
    show (if j = 0 then 0 else if j < m then j + m1 - 1 else j - m + (m1 + m - 1 + n1)) < _
    split
    · omega
    · split <;> omega
  have iφ : ∀ a b, a < m1 + n1 → b < m1 + n1 → φ a = φ b → a = b := fun a b ha hb e => by
    have e' : (if a < m1 then a else a - m1 + (m1 + m - 1)) = (if b < m1 then b else b - m1 + (m1 + m - 1)) := e
    split at e' <;> split at e' <;> omega
  have iψ : ∀ a b, a < m + n → b < m + n → ψ a = ψ b → a = b := fun a b ha hb e => by
    have e' : (if a = 0 then 0 else if a < m then a + m1 - 1 else a - m + (m1 + m - 1 + n1)) = (if b = 0 then 0 else if b < m then b + m1 - 1 else b - m + (m1 + m - 1 + n1)) := e
    split at e' <;> split at e' <;> (try split at e') <;> (try split at e') <;> omega
  have dis : ∀ i j, i < m1 + n1 → j < m + n → 0 < j → φ i ≠ ψ j := fun i j hi hj hj0 e => by
    have e' : (if i < m1 then i else i - m1 + (m1 + m - 1)) = (if j = 0 then 0 else if j < m then j + m1 - 1 else j - m + (m1 + m - 1 + n1)) := e
    rw [if_neg (show ¬ j = 0 by omega)] at e'
    split at e' <;> split at e' <;> omega
  have cov : ∀ x, x < m1 + m - 1 + (n1 + n) → (∃ i, i < m1 + n1 ∧ x = φ i) ∨ (∃ j, j < m + n ∧ x = ψ j) := fun x hx => by
    by_cases c1 : x < m1
    · exact .inl ⟨x, by omega, (if_pos c1).symm⟩
    · by_cases c2 : x < m1 + m - 1
      · refine .inr ⟨x - m1 + 1, by omega, ?_⟩
        show x = (if x - m1 + 1 = 0 then 0 else if x - m1 + 1 < m then x - m1 + 1 + m1 - 1 else _)
        rw [if_neg (by omega), if_pos (by omega)]
        omega
      · by_cases c3 : x < m1 + m - 1 + n1
        · refine .inl ⟨x - (m1 + m - 1) + m1, by omega, ?_⟩
          show x = (if x - (m1 + m - 1) + m1 < m1 then _ else x - (m1 + m - 1) + m1 - m1 + (m1 + m - 1))
          rw [if_neg (by omega)]
          omega
        · refine .inr ⟨x - (m1 + m - 1 + n1) + m, by omega, ?_⟩
          show x = (if x - (m1 + m - 1 + n1) + m = 0 then 0 else if x - (m1 + m - 1 + n1) + m < m then _ else x - (m1 + m - 1 + n1) + m - m + (m1 + m - 1 + n1))
          rw [if_neg (by omega), if_neg (by omega)]
          omega
  refine ⟨⟨by omega, by omega, fun t ht => ?_, ?_⟩, ?_⟩
  · rcases List.mem_append.mp ht with h | h
    · have := w1.rng t h
      omega
    · obtain ⟨u, hu, rfl⟩ := List.mem_map.mp h
      have := w2.rng u hu
      unfold shiftT
      refine ⟨?_, by show u.2 + n1 < _; omega⟩
      show (if 0 < u.1 then u.1 + m1 - 1 else 0) < _
      split <;> omega
  · rw [List.map_append, eA, eB]
    intro f hf
    have c1 := w1.conn (fun i => f (φ i)) (fun e he => hf (em φ e) (List.mem_append_left _ (List.mem_map.mpr ⟨e, he, rfl⟩)))
    have c2 := w2.conn (fun i => f (ψ i)) (fun e he => hf (em ψ e) (List.mem_append_right _ (List.mem_map.mpr ⟨e, he, rfl⟩)))
    intro x hx
    rcases cov x hx with ⟨i, hi, rfl⟩ | ⟨j, hj, rfl⟩
    · rw [c1 i hi, p0]
    · rw [c2 j hj, q0]
  · unfold count
    rw [List.map_append, eA, eB]
    have hN : 0 < m1 + m - 1 + (n1 + n) := by omega
    refine G_glue φ ψ _ (m1 + n1) (m + n) (by omega) (by omega) p0 q0 hφ hψ iφ iψ dis cov _ w2.eds _ (List.range (m1 + m - 1 + (n1 + n))) (List.range (m1 + n1)) List.length_range List.length_range w1.eds (fun i hi => ?_) (range_lt' _) (fun j hj _ => ?_)
    · rw [mk_range _ _ (hφ i hi), mk_range _ _ hi]
    · rw [mk_range _ _ (hψ j hj)]
end K4
end

section
set_option Elab.async false
set_option linter.all false
set_option maxRecDepth 100000
set_option maxHeartbeats 4000000
/-! A layer of my own over the readings: what an expression, a statement makes of DATA, the heap out of sight. -/
namespace DD
open PySem PySem.Spec L2

/-! ### data that stand in a heap -/
mutual
inductive Dq (H : Hp) : V → PyData → Prop
  | non : Dq H .non .none
  | bl (b : Bool) : Dq H (.bl b) (.bool b)
  | int (i : Int) : Dq H (.int i) (.int i)
  | str (x : Str) : Dq H (.str x) (.str x)
  | lst {a : Addr} {xs : List V} {ds : List PyData} : H a = some (.lst xs) → DqAll H xs ds → Dq H (.ref a) (.list ds)
  | tup {a : Addr} {xs : List V} {ds : List PyData} : H a = some (.tup xs) → DqAll H xs ds → Dq H (.ref a) (.tuple ds)
inductive DqAll (H : Hp) : List V → List PyData → Prop
  | nil : DqAll H [] []
  | cons {v : V} {vs : List V} {d : PyData} {ds : List PyData} : Dq H v d → DqAll H vs ds → DqAll H (v :: vs) (d :: ds)
end
section
variable {H H' : Hp}
mutual
theorem Dq.mono (e : Same H H') : ∀ (d : PyData) (v : V), Dq H v d → Dq H' v d
  | .none, _, h => by cases h; exact .non
  | .bool _, _, h => by cases h; exact .bl _
  | .int _, _, h => by cases h; exact .int _
  | .str _, _, h => by cases h; exact .str _
  | .list ds, _, h => by
    cases h with
    | lst h1 h2 => exact .lst (e _ _ h1) (DqAll.mono e ds _ h2)
  | .tuple ds, _, h => by
    cases h with
    | tup h1 h2 => exact .tup (e _ _ h1) (DqAll.mono e ds _ h2)
  | .dict _, _, h => by cases h
theorem DqAll.mono (e : Same H H') : ∀ (ds : List PyData) (vs : List V), DqAll H vs ds → DqAll H' vs ds
  | [], _, h => by cases h; exact .nil
  | d :: ds, _, h => by
    cases h with
    | cons h1 h2 => exact .cons (Dq.mono e d _ h1) (DqAll.mono e ds _ h2)
end
variable {K : PySem.W.Frag}
mutual
theorem Dq.dp : ∀ (d : PyData) (v : V), Dq H v d → Dp K H v d
  | .none, _, h => by cases h; exact .non
  | .bool _, _, h => by cases h; exact .bl _
  | .int _, _, h => by cases h; exact .int _
  | .str _, _, h => by cases h; exact .str _
  | .list ds, _, h => by
    cases h with
    | lst h1 h2 => exact .lst (.inl (.inl h1)) (DqAll.dp ds _ h2)
  | .tuple ds, _, h => by
    cases h with
    | tup h1 h2 => exact .tup (.inl (.inl h1)) (DqAll.dp ds _ h2)
  | .dict _, _, h => by cases h
theorem DqAll.dp : ∀ (ds : List PyData) (vs : List V), DqAll H vs ds → DpAll K H vs ds
  | [], _, h => by cases h; exact .nil
  | d :: ds, _, h => by
    cases h with
    | cons h1 h2 => exact .cons (Dq.dp d _ h1) (DqAll.dp ds _ h2)
end
theorem Dq.up {v : V} {d : PyData} (h : Dq H v d) (e : Same H H') : Dq H' v d := Dq.mono e d v h
theorem DqAll.up {vs : List V} {ds : List PyData} (h : DqAll H vs ds) (e : Same H H') : DqAll H' vs ds := DqAll.mono e ds vs h
theorem DqAll.len : ∀ {vs : List V} {ds : List PyData}, DqAll H vs ds → vs.length = ds.length
  | _, _, .nil => rfl
  | _, _, .cons _ h => congrArg (· + 1) h.len
theorem DqAll.get : ∀ {vs : List V} {ds : List PyData} {i : Nat} {d : PyData}, DqAll H vs ds → ds[i]? = some d → ∃ v, vs[i]? = some v ∧ Dq H v d
  | _, _, _, _, .nil, e => by simp at e
  | _, _, 0, _, .cons h _, e => by
    have e' : _ = _ := Option.some.inj e
    subst e'
    exact ⟨_, rfl, h⟩
  | _, _, i + 1, _, .cons _ t, e => DqAll.get (i := i) t e
theorem DqAll.getV : ∀ {vs : List V} {ds : List PyData} {i : Nat} {v : V}, DqAll H vs ds → vs[i]? = some v → ∃ d, ds[i]? = some d ∧ Dq H v d
  | _, _, _, _, .nil, e => by simp at e
  | _, _, 0, _, .cons h _, e => by
    have e' : _ = _ := Option.some.inj e
    subst e'
    exact ⟨_, rfl, h⟩
  | _, _, i + 1, _, .cons _ t, e => DqAll.getV (i := i) t e
theorem DqAll.append : ∀ {vs ws : List V} {ds es : List PyData}, DqAll H vs ds → DqAll H ws es → DqAll H (vs ++ ws) (ds ++ es)
  | _, _, _, _, .nil, h => h
  | _, _, _, _, .cons a t, h => .cons a (t.append h)
theorem DqAll.take : ∀ {vs : List V} {ds : List PyData} (n : Nat), DqAll H vs ds → DqAll H (vs.take n) (ds.take n)
  | _, _, 0, _ => .nil
  | _, _, _ + 1, .nil => .nil
  | _, _, n + 1, .cons a t => .cons a (t.take n)
theorem DqAll.drop : ∀ {vs : List V} {ds : List PyData} (n : Nat), DqAll H vs ds → DqAll H (vs.drop n) (ds.drop n)
  | _, _, 0, h => h
  | _, _, _ + 1, .nil => .nil
  | _, _, n + 1, .cons _ t => t.drop n
theorem DqAll.at {vs : List V} {ds : List PyData} {i : Int} {d : PyData} (h : DqAll H vs ds) (e : atI ds i = some d) : ∃ v, atI vs i = some v ∧ Dq H v d := by
  unfold atI at e ⊢
  rw [h.len]
  obtain ⟨j, hj, e⟩ := Option.bind_eq_some_iff.mp e
  obtain ⟨v, hv, q⟩ := h.get e
  exact ⟨v, by rw [hj]; exact hv, q⟩
theorem Dq.int_inv {v : V} {i : Int} (h : Dq H v (.int i)) : v = .int i := by cases h; rfl
theorem Dq.bl_inv {v : V} {b : Bool} (h : Dq H v (.bool b)) : v = .bl b := by cases h; rfl
theorem Dq.str_inv {v : V} {x : Str} (h : Dq H v (.str x)) : v = .str x := by cases h; rfl
theorem Dq.non_inv {v : V} (h : Dq H v .none) : v = .non := by cases h; rfl
theorem Dq.tup_inv {v : V} {ds : List PyData} (h : Dq H v (.tuple ds)) : ∃ a xs, v = .ref a ∧ H a = some (.tup xs) ∧ DqAll H xs ds := by
  cases h with
  | tup h1 h2 => exact ⟨_, _, rfl, h1, h2⟩
theorem Dq.lst_inv {v : V} {ds : List PyData} (h : Dq H v (.list ds)) : ∃ a xs, v = .ref a ∧ H a = some (.lst xs) ∧ DqAll H xs ds := by
  cases h with
  | lst h1 h2 => exact ⟨_, _, rfl, h1, h2⟩
theorem DqAll.ints : ∀ (ns : List Int), DqAll H (ns.map V.int) (ns.map PyData.int)
  | [] => .nil
  | n :: ns => .cons (.int n) (DqAll.ints ns)
theorem DqAll.ints_inv : ∀ (ns : List Int) (vs : List V), DqAll H vs (ns.map PyData.int) → vs = ns.map V.int
  | [], _, h => by cases h; rfl
  | n :: ns, _, h => by
    cases h with
    | cons h1 h2 => rw [h1.int_inv, DqAll.ints_inv ns _ h2]; rfl
theorem DqAll.bools_inv : ∀ (ns : List Bool) (vs : List V), DqAll H vs (ns.map PyData.bool) → vs = ns.map V.bl
  | [], _, h => by cases h; rfl
  | n :: ns, _, h => by
    cases h with
    | cons h1 h2 => rw [h1.bl_inv, DqAll.bools_inv ns _ h2]; rfl
end

/-! ### a base and the heap around it, grown -/
structure Grow (H0 H H0' H' : Hp) : Prop where
  base : Same H0 H0'
  sub : Same H0' H'
  big : Same H H'
  new : ∀ a o, H0' a = some o → (∃ u, H0 a = some u) ∨ H a = none ∨ ∃ xs, H a = some (.tup xs)
section
variable {H0 H H0' H' H0'' H'' : Hp}
theorem Grow.refl (h : Same H0 H) : Grow H0 H H0 H := ⟨Same.refl _, h, Same.refl _, fun _ o e => .inl ⟨o, e⟩⟩
theorem Grow.trans (g : Grow H0 H H0' H') (k : Grow H0' H' H0'' H'') : Grow H0 H H0'' H'' :=
  ⟨g.base.trans k.base, k.sub, g.big.trans k.big, fun a o e => by
    rcases k.new a o e with ⟨u, h⟩ | h | ⟨xs, h⟩
    · exact g.new a u h
    · exact .inr (.inl (g.big.free h))
    · rcases q : H a with _ | o'
      · exact .inr (.inl rfl)
      · have z := g.big a o' q
        rw [h] at z
        cases z
        exact .inr (.inr ⟨xs, rfl⟩)⟩
theorem same_new {p : Addr} {o : HO} (h : H p = none) : Same H (upd H p o) := fun a u e => by
  rw [upd_ne (ne_of_none e h)]
  exact e
theorem Grow.new1 {p : Addr} {o : HO} (h : Same H0 H) (hp : H p = none) : Grow H0 H (upd H0 p o) (upd H p o) where
  base := same_new (h.free hp)
  sub := fun a u e => by
    by_cases q : a = p
    · subst q
      rw [upd_same] at e ⊢
      exact e
    · rw [upd_ne q] at e ⊢
      exact h a u e
  big := same_new hp
  new := fun a u e => by
    by_cases q : a = p
    · subst q
      exact .inr (.inl hp)
    · rw [upd_ne q] at e
      exact .inl ⟨u, e⟩
/-- a new object that the base leaves out -/
theorem Grow.big1 {p : Addr} {o : HO} (h : Same H0 H) (hp : H p = none) : Grow H0 H H0 (upd H p o) :=
  ⟨Same.refl _, h.trans (same_new hp), same_new hp, fun a u e => .inl ⟨u, e⟩⟩
/-- .. taken in -/
theorem Grow.take {p : Addr} {o : HO} (g : Grow H0 H H0' H') (hp : H p = none) (h0 : H0' p = none) (h : H' p = some o) : Grow H0 H (upd H0' p o) H' where
  base := g.base.trans (same_new h0)
  sub := fun a u e => by
    by_cases q : a = p
    · subst q
      rw [upd_same] at e
      rw [h]
      exact e
    · rw [upd_ne q] at e
      exact g.sub a u e
  big := g.big
  new := fun a u e => by
    by_cases q : a = p
    · subst q
      exact .inr (.inl hp)
    · rw [upd_ne q] at e
      exact g.new a u e
end

/-! ### slots -/
inductive Sl where
  | no | dat (d : PyData) | own (ds : List PyData)
abbrev Env := List Sl
def DatE (H0 : Hp) (σ : St) (ρ : Env) : Prop := ∀ (i : Nat) (d : PyData), ρ[i]? = some (.dat d) → ∃ v, σ[i]? = some (some v) ∧ Dq H0 v d
theorem DatE.up {H0 H1 : Hp} {σ : St} {ρ : Env} (h : DatE H0 σ ρ) (e : Same H0 H1) : DatE H1 σ ρ := fun i d q => by
  obtain ⟨v, h1, h2⟩ := h i d q
  exact ⟨v, h1, h2.up e⟩
theorem DatE.set {H0 : Hp} {σ : St} {ρ : Env} {v : V} {d : PyData} (h : DatE H0 σ ρ) (hl : σ.length = ρ.length) (j : Nat) (q : Dq H0 v d) : DatE H0 (σ.set j (some v)) (ρ.set j (.dat d)) := fun i d' e => by
  by_cases hij : j = i
  · subst hij
    have hj : j < ρ.length := by
      have := (List.getElem?_eq_some_iff.mp e).1
      rwa [List.length_set] at this
    rw [List.getElem?_set_self hj] at e
    cases e
    exact ⟨v, by rw [List.getElem?_set_self (by omega)], q⟩
  · rw [List.getElem?_set_ne hij] at e ⊢
    exact h i d' e
theorem DatE.setNo {H0 : Hp} {σ : St} {ρ : Env} (h : DatE H0 σ ρ) (j : Nat) (x : Option V) (s : Sl) (hs : ∀ d, s ≠ .dat d) : DatE H0 (σ.set j x) (ρ.set j s) := fun i d' e => by
  by_cases hij : j = i
  · subst hij
    have hj : j < ρ.length := by
      have := (List.getElem?_eq_some_iff.mp e).1
      rwa [List.length_set] at this
    rw [List.getElem?_set_self hj] at e
    exact absurd (Option.some.inj e) (hs d')
  · rw [List.getElem?_set_ne hij] at e ⊢
    exact h i d' e

/-! ### what evaluates to what -/
def ED (t : TE) (ρ : Env) (d : PyData) : Prop := ∀ (σ : St) (H0 H : Hp), Same H0 H → σ.length = ρ.length → DatE H0 σ ρ → ∀ Q : VK, (∀ v H0' H', Grow H0 H H0' H' → Dq H0' v d → Q v H') → t σ H Q
/-- a new list, not in the base yet -/
def EL (t : TE) (ρ : Env) (ds : List PyData) : Prop := ∀ (σ : St) (H0 H : Hp), Same H0 H → σ.length = ρ.length → DatE H0 σ ρ → ∀ Q : VK,
  (∀ p vs H0' H', Grow H0 H H0' H' → H p = none → H0' p = none → H' p = some (.lst vs) → DqAll H0' vs ds → Q (.ref p) H') → t σ H Q
def ET (t : TT) (ρ : Env) (b : Bool) : Prop := ∀ (σ : St) (H0 H : Hp), Same H0 H → σ.length = ρ.length → DatE H0 σ ρ → ∀ Q : Bool → Hp → Prop, (∀ H0' H', Grow H0 H H0' H' → Q b H') → t σ H Q
def EA (t : TA) (ρ : Env) (ds : List PyData) : Prop := ∀ (σ : St) (H0 H : Hp), Same H0 H → σ.length = ρ.length → DatE H0 σ ρ → ∀ Q : List V → Hp → Prop, (∀ vs H0' H', Grow H0 H H0' H' → DqAll H0' vs ds → Q vs H') → t σ H Q
def EO (t : TO) (ρ : Env) (o : Option Int) : Prop := ∀ (σ : St) (H0 H : Hp), Same H0 H → σ.length = ρ.length → DatE H0 σ ρ → ∀ Q : Option Int → Hp → Prop, (∀ H0' H', Grow H0 H H0' H' → Q o H') → t σ H Q
/-- a two-place operation, a one-place one, a call, by data -/
def R2D (r : R2) (d e z : PyData) : Prop := ∀ (x y : V) (H0 H : Hp), Same H0 H → Dq H0 x d → Dq H0 y e → ∀ Q : VK, (∀ v H0' H', Grow H0 H H0' H' → Dq H0' v z → Q v H') → r x y H Q
def R1D (r : V → Hp → VK → Prop) (d z : PyData) : Prop := ∀ (x : V) (H0 H : Hp), Same H0 H → Dq H0 x d → ∀ Q : VK, (∀ v H0' H', Grow H0 H H0' H' → Dq H0' v z → Q v H') → r x H Q
def RCD (r : List V → Hp → VK → Prop) (ds : List PyData) (z : PyData) : Prop := ∀ (xs : List V) (H0 H : Hp), Same H0 H → DqAll H0 xs ds → ∀ Q : VK, (∀ v H0' H', Grow H0 H H0' H' → Dq H0' v z → Q v H') → r xs H Q
def RCL (r : List V → Hp → VK → Prop) (ds : List PyData) (zs : List PyData) : Prop := ∀ (xs : List V) (H0 H : Hp), Same H0 H → DqAll H0 xs ds → ∀ Q : VK,
  (∀ p vs H0' H', Grow H0 H H0' H' → H p = none → H0' p = none → H' p = some (.lst vs) → DqAll H0' vs zs → Q (.ref p) H') → r xs H Q
def R2L (r : R2) (d e : PyData) (zs : List PyData) : Prop := ∀ (x y : V) (H0 H : Hp), Same H0 H → Dq H0 x d → Dq H0 y e → ∀ Q : VK,
  (∀ p vs H0' H', Grow H0 H H0' H' → H p = none → H0' p = none → H' p = some (.lst vs) → DqAll H0' vs zs → Q (.ref p) H') → r x y H Q

section
variable {ρ : Env} {ta tb te tx : TE} {t u : TT} {d e z : PyData} {ds es zs : List PyData} {r : R2}
theorem EL.ed {te : TE} (h : EL te ρ ds) : ED te ρ (.list ds) := fun σ H0 H s l q Q k => h σ H0 H s l q Q fun p vs H0' H' g hp h0 h1 a =>
  k _ _ _ (g.take hp h0 h1) (.lst upd_same (a.up (same_new h0)))
theorem ed_var {i : Nat} (h : ρ[i]? = some (.dat d)) : ED (tVar i) ρ d := fun σ H0 H s _ q Q k => by
  obtain ⟨v, h1, h2⟩ := q i d h
  exact ⟨v, h1, k v H0 H (.refl s) h2⟩
theorem ed_c {v : V} (h : ∀ H, Dq H v d) : ED (tC v) ρ d := fun σ H0 H s _ _ Q k => k v H0 H (.refl s) (h H0)
theorem ed_int {i : Int} : ED (tC (.int i)) ρ (.int i) := ed_c fun _ => .int i
theorem ed_bl {b : Bool} : ED (tC (.bl b)) ρ (.bool b) := ed_c fun _ => .bl b
theorem ed_str {x : Str} : ED (tC (.str x)) ρ (.str x) := ed_c fun _ => .str x
theorem ed_non : ED (tC .non) ρ .none := ed_c fun _ => .non
theorem ed_op (ha : ED ta ρ d) (hb : ED tb ρ e) (hr : R2D r d e z) : ED (tOp r ta tb) ρ z := fun σ H0 H s l q Q k =>
  ha σ H0 H s l q _ fun x H1 H1' g1 q1 => hb σ H1 H1' g1.sub l (q.up g1.base) _ fun y H2 H2' g2 q2 =>
    hr x y H2 H2' g2.sub (q1.up g2.base) q2 Q fun v H3 H3' g3 q3 => k v H3 H3' ((g1.trans g2).trans g3) q3
theorem el_op (ha : ED ta ρ d) (hb : ED tb ρ e) (hr : R2L r d e zs) : EL (tOp r ta tb) ρ zs := fun σ H0 H s l q Q k =>
  ha σ H0 H s l q _ fun x H1 H1' g1 q1 => hb σ H1 H1' g1.sub l (q.up g1.base) _ fun y H2 H2' g2 q2 =>
    hr x y H2 H2' g2.sub (q1.up g2.base) q2 Q fun p vs H3 H3' g3 hp h0 h1 q3 => k p vs H3 H3' ((g1.trans g2).trans g3) ((g1.trans g2).big.free hp) h0 h1 q3
theorem ed_un {r : V → Hp → VK → Prop} (ha : ED ta ρ d) (hr : R1D r d z) : ED (tUn r ta) ρ z := fun σ H0 H s l q Q k =>
  ha σ H0 H s l q _ fun x H1 H1' g1 q1 => hr x H1 H1' g1.sub q1 Q fun v H3 H3' g3 q3 => k v H3 H3' (g1.trans g3) q3
theorem ea_nil : EA tNil ρ [] := fun σ H0 H s _ _ Q k => k [] H0 H (.refl s) .nil
theorem ea_cons {tr : TA} (h : ED te ρ d) (hr : EA tr ρ ds) : EA (tCons te tr) ρ (d :: ds) := fun σ H0 H s l q Q k =>
  h σ H0 H s l q _ fun x H1 H1' g1 q1 => hr σ H1 H1' g1.sub l (q.up g1.base) _ fun vs H2 H2' g2 q2 => k (x :: vs) H2 H2' (g1.trans g2) (.cons (q1.up g2.base) q2)
theorem ed_cb {r : List V → Hp → VK → Prop} {ta : TA} (h : EA ta ρ ds) (hr : RCD r ds z) : ED (tCB r ta) ρ z := fun σ H0 H s l q Q k =>
  h σ H0 H s l q _ fun xs H1 H1' g1 q1 => hr xs H1 H1' g1.sub q1 Q fun v H2 H2' g2 q2 => k v H2 H2' (g1.trans g2) q2
theorem el_cb {r : List V → Hp → VK → Prop} {ta : TA} (h : EA ta ρ ds) (hr : RCL r ds zs) : EL (tCB r ta) ρ zs := fun σ H0 H s l q Q k =>
  h σ H0 H s l q _ fun xs H1 H1' g1 q1 => hr xs H1 H1' g1.sub q1 Q fun p vs H2 H2' g2 hp h0 h1 q2 => k p vs H2 H2' (g1.trans g2) (g1.big.free hp) h0 h1 q2
theorem ed_tup {ta : TA} (h : EA ta ρ ds) (hl : ds.length ≤ 100000) : ED (tTup ta) ρ (.tuple ds) := fun σ H0 H s l q Q k =>
  h σ H0 H s l q _ fun xs H1 H1' g1 q1 => ⟨by rw [q1.len]; exact Nat.le_trans hl (by decide), fun p hp => k _ _ _ (g1.trans (.new1 g1.sub hp)) (.tup upd_same (q1.up (same_new (g1.sub.free hp))))⟩
theorem el_lst {ta : TA} (h : EA ta ρ ds) (hl : ds.length ≤ 100000) : EL (tLst ta) ρ ds := fun σ H0 H s l q Q k =>
  h σ H0 H s l q _ fun xs H1 H1' g1 q1 => ⟨by rw [q1.len]; exact Nat.le_trans hl (by decide), fun p hp => k p xs _ _ (g1.trans (.big1 g1.sub hp)) (g1.big.free hp) (g1.sub.free hp) upd_same q1⟩

theorem et_val {b : Bool} (h : ED te ρ (.bool b)) : ET (tB te) ρ b := fun σ H0 H s l q Q k => h σ H0 H s l q _ fun v H1 H1' g q1 => ⟨b, q1.bl_inv, k H1 H1' g⟩
theorem et_test {b : Bool} (h : ED te ρ (.bool b)) : ET (tTest te) ρ b := fun σ H0 H s l q Q k => h σ H0 H s l q _ fun v H1 H1' g q1 => ⟨b, q1.bl_inv, k H1 H1' g⟩
theorem et_not {b : Bool} (h : ET t ρ b) : ET (tNot t) ρ (!b) := fun σ H0 H s l q Q k => h σ H0 H s l q _ fun H1 H1' g => k H1 H1' g
theorem et_and {a b : Bool} (h1 : ET t ρ a) (h2 : a = true → ET u ρ b) : ET (tAnd t u) ρ (a && b) := fun σ H0 H s l q Q k => h1 σ H0 H s l q _ fun H1 H1' g => by
  cases a with
  | true => exact iteT (h2 rfl σ H1 H1' g.sub l (q.up g.base) Q fun H2 H2' g2 => k H2 H2' (g.trans g2))
  | false => exact iteF (k H1 H1' g)
theorem et_or {a b : Bool} (h1 : ET t ρ a) (h2 : a = false → ET u ρ b) : ET (tOr t u) ρ (a || b) := fun σ H0 H s l q Q k => h1 σ H0 H s l q _ fun H1 H1' g => by
  cases a with
  | true => exact iteT (k H1 H1' g)
  | false => exact iteF (h2 rfl σ H1 H1' g.sub l (q.up g.base) Q fun H2 H2' g2 => k H2 H2' (g.trans g2))
theorem ed_andV {a b : Bool} (h1 : ED ta ρ (.bool a)) (h2 : a = true → ED tb ρ (.bool b)) : ED (tAndV ta tb) ρ (.bool (a && b)) := fun σ H0 H s l q Q k => h1 σ H0 H s l q _ fun v H1 H1' g q1 => ⟨a, q1.bl_inv, by
  cases a with
  | true => exact iteT (h2 rfl σ H1 H1' g.sub l (q.up g.base) Q fun v H2 H2' g2 q2 => k v H2 H2' (g.trans g2) q2)
  | false => exact iteF (k _ H1 H1' g (.bl false))⟩
theorem ed_orV {a b : Bool} (h1 : ED ta ρ (.bool a)) (h2 : a = false → ED tb ρ (.bool b)) : ED (tOrV ta tb) ρ (.bool (a || b)) := fun σ H0 H s l q Q k => h1 σ H0 H s l q _ fun v H1 H1' g q1 => ⟨a, q1.bl_inv, by
  cases a with
  | true => exact iteT (k _ H1 H1' g (.bl true))
  | false => exact iteF (h2 rfl σ H1 H1' g.sub l (q.up g.base) Q fun v H2 H2' g2 q2 => k v H2 H2' (g.trans g2) q2)⟩
theorem ed_notV {a : Bool} (h1 : ED ta ρ (.bool a)) : ED (tNotV ta) ρ (.bool (!a)) := fun σ H0 H s l q Q k => h1 σ H0 H s l q _ fun v H1 H1' g q1 => ⟨a, q1.bl_inv, k _ H1 H1' g (.bl _)⟩
theorem ed_if {b : Bool} (h : ET t ρ b) (h1 : b = true → ED ta ρ d) (h2 : b = false → ED tb ρ d) : ED (tIf t ta tb) ρ d := fun σ H0 H s l q Q k => h σ H0 H s l q _ fun H1 H1' g => by
  cases b with
  | true => exact iteT (h1 rfl σ H1 H1' g.sub l (q.up g.base) Q fun v H2 H2' g2 q2 => k v H2 H2' (g.trans g2) q2)
  | false => exact iteF (h2 rfl σ H1 H1' g.sub l (q.up g.base) Q fun v H2 H2' g2 q2 => k v H2 H2' (g.trans g2) q2)
theorem ed_is (h : ED te ρ d) (e : d = z) : ED te ρ z := e ▸ h
theorem el_is (h : EL te ρ ds) (e : ds = zs) : EL te ρ zs := e ▸ h
theorem et_is {a b : Bool} (h : ET t ρ a) (e : a = b) : ET t ρ b := e ▸ h
theorem eo_none : EO tNoPart ρ none := fun σ H0 H s _ _ Q k => k H0 H (.refl s)
theorem eo_some {i : Int} (h : ED te ρ (.int i)) : EO (tPart te) ρ (some i) := fun σ H0 H s l q Q k => h σ H0 H s l q _ fun v H1 H1' g q1 => ⟨i, q1.int_inv, k H1 H1' g⟩

/-! operations by data -/
theorem r2_pure {r : R2} (h : ∀ (x y : V) (H : Hp), Dq H x d → Dq H y e → ∃ v, (∀ H, Dq H v z) ∧ ∀ Q : VK, Q v H → r x y H Q) : R2D r d e z := fun x y H0 H s hx hy Q k => by
  obtain ⟨v, h1, h2⟩ := h x y H (hx.up s) (hy.up s)
  exact h2 Q (k v H0 H (.refl s) (h1 H0))
theorem r2_I {C : Int → Int → Prop} {g : Int → Int → V} {i j : Int} (hc : C i j) (hz : ∀ H, Dq H (g i j) z) : R2D (rI C g) (.int i) (.int j) z := r2_pure fun x y H hx hy =>
  ⟨g i j, hz, fun Q q => ⟨i, j, hx.int_inv, hy.int_inv, hc, q⟩⟩
theorem r2_I0 {g : Int → Int → V} {i j : Int} (hz : ∀ H, Dq H (g i j) z) : R2D (rI0 g) (.int i) (.int j) z := r2_pure fun x y H hx hy =>
  ⟨g i j, hz, fun Q q => ⟨i, j, hx.int_inv, hy.int_inv, q⟩⟩
theorem r1_I {g : Int → V} {i : Int} (hz : ∀ H, Dq H (g i) z) : R1D (rU g) (.int i) z := fun x H0 H s hx Q k => ⟨i, hx.int_inv, k _ H0 H (.refl s) (hz H0)⟩
theorem r2_eqI {i j : Int} : R2D rEq (.int i) (.int j) (.bool (i == j)) := r2_pure fun x y H hx hy => ⟨.bl (i == j), fun _ => .bl _, fun Q q => by
  rw [hx.int_inv, hy.int_inv]
  refine ⟨rfl, ?_⟩
  rw [dec_int]
  exact q⟩
theorem r2_neI {i j : Int} : R2D rNe (.int i) (.int j) (.bool (!(i == j))) := r2_pure fun x y H hx hy => ⟨.bl (!(i == j)), fun _ => .bl _, fun Q q => by
  rw [hx.int_inv, hy.int_inv]
  refine ⟨rfl, ?_⟩
  rw [dec_int]
  exact q⟩
theorem r2_eqB {i j : Bool} : R2D rEq (.bool i) (.bool j) (.bool (i == j)) := r2_pure fun x y H hx hy => ⟨.bl (i == j), fun _ => .bl _, fun Q q => by
  rw [hx.bl_inv, hy.bl_inv]
  refine ⟨rfl, ?_⟩
  rw [dec_bl]
  exact q⟩
theorem r2_neB {i j : Bool} : R2D rNe (.bool i) (.bool j) (.bool (!(i == j))) := r2_pure fun x y H hx hy => ⟨.bl (!(i == j)), fun _ => .bl _, fun Q q => by
  rw [hx.bl_inv, hy.bl_inv]
  refine ⟨rfl, ?_⟩
  rw [dec_bl]
  exact q⟩
theorem r2_eqS {i j : Str} : R2D rEq (.str i) (.str j) (.bool (i == j)) := r2_pure fun x y H hx hy => ⟨.bl (i == j), fun _ => .bl _, fun Q q => by
  rw [hx.str_inv, hy.str_inv]
  refine ⟨rfl, ?_⟩
  rw [dec_str]
  exact q⟩
theorem r2_eqD {K : PySem.W.Frag} (h1 : SeqAt.shaped d = true) (h2 : SeqAt.shaped e = true) : R2D (rEqD K) d e (.bool (PyData.eqv d e)) := r2_pure fun x y H hx hy => ⟨.bl _, fun _ => .bl _, fun Q q => ⟨d, e, hx.dp _ _, hy.dp _ _, h1, h2, q⟩⟩
theorem r2_neD {K : PySem.W.Frag} (h1 : SeqAt.shaped d = true) (h2 : SeqAt.shaped e = true) : R2D (rNeD K) d e (.bool (!PyData.eqv d e)) := r2_pure fun x y H hx hy => ⟨.bl _, fun _ => .bl _, fun Q q => ⟨d, e, hx.dp _ _, hy.dp _ _, h1, h2, q⟩⟩
theorem r2_ixT {K : PySem.W.Frag} {i : Int} (h : atI ds i = some z) : R2D (rIxT K) (.tuple ds) (.int i) z := fun x y H0 H s hx hy Q k => by
  obtain ⟨a, xs, rfl, h1, h2⟩ := hx.tup_inv
  obtain ⟨v, h3, h4⟩ := h2.at h
  rw [hy.int_inv]
  exact ⟨a, xs, i, v, rfl, rfl, .inl (.inl (s _ _ h1)), h3, k v H0 H (.refl s) h4⟩
theorem r2_ixL {K : PySem.W.Frag} {i : Int} (h : atI ds i = some z) : R2D (rIxL K) (.list ds) (.int i) z := fun x y H0 H s hx hy Q k => by
  obtain ⟨a, xs, rfl, h1, h2⟩ := hx.lst_inv
  obtain ⟨v, h3, h4⟩ := h2.at h
  rw [hy.int_inv]
  exact ⟨a, xs, i, v, rfl, rfl, .inl (.inl (s _ _ h1)), h3, k v H0 H (.refl s) h4⟩
theorem r2_catA {K : PySem.W.Frag} (hl : ds.length + es.length ≤ 100000) : R2D (rCatA K) (.tuple ds) (.tuple es) (.tuple (ds ++ es)) := fun x y H0 H s hx hy Q k => by
  obtain ⟨a, xs, rfl, h1, h2⟩ := hx.tup_inv
  obtain ⟨b, ys, rfl, h3, h4⟩ := hy.tup_inv
  refine ⟨a, b, xs, ys, rfl, rfl, .inl (.inl (s _ _ h1)), .inl (.inl (s _ _ h3)), by rw [h2.len, h4.len]; exact Nat.le_trans hl (by decide), fun e => ?_, fun _ e => ?_, fun _ _ p hp => ?_⟩
  · have e0 : ds = [] := List.eq_nil_of_length_eq_zero (by rw [← h2.len, e]; rfl)
    rw [e0] at k
    exact k _ H0 H (.refl s) (.tup h3 h4)
  · have e0 : es = [] := List.eq_nil_of_length_eq_zero (by rw [← h4.len, e]; rfl)
    rw [e0, List.append_nil] at k
    exact k _ H0 H (.refl s) (.tup h1 h2)
  · exact k _ _ _ (.new1 s hp) (.tup upd_same ((h2.append h4).up (same_new (s.free hp))))
theorem r2_cat (hl : ds.length + es.length ≤ 100000) : R2L rCat (.list ds) (.list es) (ds ++ es) := fun x y H0 H s hx hy Q k => by
  obtain ⟨a, xs, rfl, h1, h2⟩ := hx.lst_inv
  obtain ⟨b, ys, rfl, h3, h4⟩ := hy.lst_inv
  exact ⟨a, b, xs, ys, rfl, rfl, s _ _ h1, s _ _ h3, by rw [h2.len, h4.len]; exact Nat.le_trans hl (by decide), fun p hp => k p _ _ _ (.big1 s hp) hp (s.free hp) upd_same (h2.append h4)⟩
theorem DqAll.reps {H : Hp} {xs : List V} {ds : List PyData} (h : DqAll H xs ds) : ∀ n, DqAll H (List.replicate n xs).flatten (List.replicate n ds).flatten
  | 0 => .nil
  | n + 1 => h.append (h.reps n)
theorem rc_len {K : PySem.W.Frag} (h : d = .list ds ∨ d = .tuple ds) : RCD (fun xs H Q => ∃ p ys, xs = [.ref p] ∧ (SqL K H p ys ∨ SqT K H p ys) ∧ Q (.int ys.length) H) [d] (.int (ds.length : Nat)) := fun xs H0 H s hx Q k => by
  cases hx with
  | cons h1 h2 =>
    cases h2
    rcases h with rfl | rfl
    · obtain ⟨a, ys, rfl, h3, h4⟩ := h1.lst_inv
      exact ⟨a, ys, rfl, .inl (.inl (.inl (s _ _ h3))), k _ H0 H (.refl s) (by rw [h4.len]; exact .int _)⟩
    · obtain ⟨a, ys, rfl, h3, h4⟩ := h1.tup_inv
      exact ⟨a, ys, rfl, .inr (.inl (.inl (s _ _ h3))), k _ H0 H (.refl s) (by rw [h4.len]; exact .int _)⟩
theorem rc_tupleOf {K : PySem.W.Frag} (h : d = .list ds ∨ d = .tuple ds) : RCD (fun xs H Q => ∃ p ys, xs = [.ref p] ∧ ((SqL K H p ys ∧ ∀ l, H l = none → Q (.ref l) (upd H l (.tup ys))) ∨ (SqT K H p ys ∧ Q (.ref p) H))) [d] (.tuple ds) := fun xs H0 H s hx Q k => by
  cases hx with
  | cons h1 h2 =>
    cases h2
    rcases h with rfl | rfl
    · obtain ⟨a, ys, rfl, h3, h4⟩ := h1.lst_inv
      exact ⟨a, ys, rfl, .inl ⟨.inl (.inl (s _ _ h3)), fun l hl => k _ _ _ (.new1 s hl) (.tup upd_same (h4.up (same_new (s.free hl))))⟩⟩
    · obtain ⟨a, ys, rfl, h3, h4⟩ := h1.tup_inv
      exact ⟨a, ys, rfl, .inr ⟨.inl (.inl (s _ _ h3)), k _ H0 H (.refl s) (.tup h3 h4)⟩⟩
theorem rc_listOf {K : PySem.W.Frag} (h : d = .list ds ∨ d = .tuple ds) : RCL (fun xs H Q => ∃ p ys, xs = [.ref p] ∧ (SqL K H p ys ∨ SqT K H p ys) ∧ ∀ l, H l = none → Q (.ref l) (upd H l (.lst ys))) [d] ds := fun xs H0 H s hx Q k => by
  cases hx with
  | cons h1 h2 =>
    cases h2
    rcases h with rfl | rfl
    · obtain ⟨a, ys, rfl, h3, h4⟩ := h1.lst_inv
      exact ⟨a, ys, rfl, .inl (.inl (.inl (s _ _ h3))), fun l hl => k l ys _ _ (.big1 s hl) hl (s.free hl) upd_same h4⟩
    · obtain ⟨a, ys, rfl, h3, h4⟩ := h1.tup_inv
      exact ⟨a, ys, rfl, .inr (.inl (.inl (s _ _ h3))), fun l hl => k l ys _ _ (.big1 s hl) hl (s.free hl) upd_same h4⟩
/-- what the data are: their type's name -/
def tyN : PyData → String
  | .none => "NoneType" | .bool _ => "bool" | .int _ => "int" | .str _ => "str" | .list _ => "list" | .tuple _ => "tuple" | .dict _ => "dict"
theorem Dq.ty {K : PySem.W.Frag} {H : Hp} {v : V} {d : PyData} (h : Dq H v d) : TyX K H v (.type (tyN d)) := by
  cases h with
  | non => exact .base .non
  | bl b => exact .base (.bl b)
  | int i => exact .base (.int i)
  | str x => exact .base (.str x)
  | lst h _ => exact .base (.lst h)
  | tup h _ => exact .base (.tup h)
end
end DD
end

section
set_option Elab.async false
set_option linter.all false
set_option maxRecDepth 100000
set_option maxHeartbeats 4000000
/-! Statements, loops, comprehensions, calls, by data. -/
namespace DD
open PySem PySem.Spec L2 RZ

/-! ### wiping -/
def wipeD (ρ : Env) : List Nat → Env
  | [] => ρ
  | v :: vs => (wipeD ρ vs).set v .no
theorem wipeD_len (ρ : Env) : ∀ vs, (wipeD ρ vs).length = ρ.length
  | [] => rfl
  | v :: vs => by unfold wipeD; rw [List.length_set, wipeD_len ρ vs]
theorem DatE.wipe {H0 : Hp} {σ : St} {ρ : Env} (h : DatE H0 σ ρ) : ∀ vs, DatE H0 (L2.wipe σ vs) (wipeD ρ vs)
  | [] => h
  | v :: vs => (h.wipe vs).setNo v none .no (fun _ q => nomatch q)
theorem wipe_set (σ : St) (j : Nat) (x : Option V) : ∀ vs, j ∈ vs → L2.wipe (σ.set j x) vs = L2.wipe σ vs
  | [], h => by cases h
  | v :: vs, h => by
    unfold L2.wipe
    by_cases e : j ∈ vs
    · rw [wipe_set σ j x vs e]
    · have ej : j = v := by
        rcases List.mem_cons.mp h with q | q
        · exact q
        · exact absurd q e
      subst ej
      have key : ∀ us : List Nat, j ∉ us → L2.wipe (σ.set j x) us = (L2.wipe σ us).set j x := by
        intro us
        induction us with
        | nil => intro _; rfl
        | cons u us ih =>
          intro hu
          unfold L2.wipe
          rw [ih (fun q => hu (List.mem_cons_of_mem _ q)), List.set_comm _ _ (fun q => hu (by rw [q]; exact List.mem_cons_self ..))]
      rw [key vs e, List.set_set]
theorem wipe_none (σ : St) : ∀ vs us, (∀ v ∈ us, v ∈ vs) → L2.wipe (L2.wipe σ us) vs = L2.wipe σ vs
  | vs, [], _ => rfl
  | vs, u :: us, h => by
    show L2.wipe ((L2.wipe σ us).set u none) vs = _
    rw [wipe_set _ u none vs (h u (List.mem_cons_self ..)), wipe_none σ vs us (fun v q => h v (List.mem_cons_of_mem _ q))]
theorem wipe_wipe (σ : St) (vs : List Nat) : L2.wipe (L2.wipe σ vs) vs = L2.wipe σ vs := wipe_none σ vs vs (fun _ q => q)

/-! ### targets -/
def setS (σ : St) : List (Nat × V) → St
  | [] => σ
  | (j, v) :: r => setS (σ.set j (some v)) r
def setE (ρ : Env) : List (Nat × PyData) → Env
  | [] => ρ
  | (j, d) :: r => setE (ρ.set j (.dat d)) r
theorem setS_len (σ : St) : ∀ ws, (setS σ ws).length = σ.length
  | [] => rfl
  | (j, v) :: r => by
    show (setS (σ.set j (some v)) r).length = _
    rw [setS_len, List.length_set]
theorem setE_len (ρ : Env) : ∀ ws, (setE ρ ws).length = ρ.length
  | [] => rfl
  | (j, v) :: r => by
    show (setE (ρ.set j (.dat v)) r).length = _
    rw [setE_len, List.length_set]
inductive Match (H0 : Hp) : List (Nat × V) → List (Nat × PyData) → Prop where
  | nil : Match H0 [] []
  | cons {j : Nat} {v : V} {d : PyData} {ws : List (Nat × V)} {us : List (Nat × PyData)} : Dq H0 v d → Match H0 ws us → Match H0 ((j, v) :: ws) ((j, d) :: us)
theorem DatE.setS {H0 : Hp} : ∀ {ws : List (Nat × V)} {us : List (Nat × PyData)} {σ : St} {ρ : Env}, Match H0 ws us → DatE H0 σ ρ → σ.length = ρ.length → DatE H0 (DD.setS σ ws) (setE ρ us)
  | _, _, _, _, .nil, h, _ => h
  | _, _, σ, ρ, .cons q m, h, l => DatE.setS (σ := σ.set _ _) (ρ := ρ.set _ _) m (h.set l _ q) (by rw [List.length_set, List.length_set, l])
theorem wipe_setS {H0 : Hp} (vs : List Nat) : ∀ {ws : List (Nat × V)} {us : List (Nat × PyData)} (σ : St), Match H0 ws us → (∀ u ∈ us, u.1 ∈ vs) → L2.wipe (setS σ ws) vs = L2.wipe σ vs
  | _, _, _, .nil, _ => rfl
  | _, _, σ, .cons q m, h => by
    show L2.wipe (setS (σ.set _ _) _) vs = _
    rw [wipe_setS vs _ m (fun u z => h u (List.mem_cons_of_mem _ z)), wipe_set _ _ _ _ (h _ (List.mem_cons_self ..))]
/-- a target takes the datum d: these slots are set -/
def TgtD (g : TG) (d : PyData) (us : List (Nat × PyData)) : Prop := ∀ (H0 H : Hp) (v : V), Same H0 H → Dq H0 v d → ∃ ws, Match H0 ws us ∧ ∀ (σ : St) (Q : St → Hp → Prop), Q (setS σ ws) H → g v σ H Q
theorem tgt_name {j : Nat} {d : PyData} : TgtD (gName j) d [(j, d)] := fun H0 H v s q => ⟨[(j, v)], .cons q .nil, fun σ Q k => k⟩
theorem tgt_two {K : PySem.W.Frag} {i j : Nat} {d e : PyData} : TgtD (gTup K 2 (gCons (gName i) (gCons (gName j) gNil))) (.tuple [d, e]) [(i, d), (j, e)] := fun H0 H v s q => by
  obtain ⟨a, xs, rfl, h1, h2⟩ := q.tup_inv
  cases h2 with
  | cons q1 h2 =>
    cases h2 with
    | cons q2 h2 =>
      cases h2
      exact ⟨_, .cons q1 (.cons q2 .nil), fun σ Q k => ⟨a, _, rfl, .inl (.inl (s _ _ h1)), rfl, _, _, rfl, _, _, rfl, rfl, k⟩⟩

/-! ### what is walked -/
def SrcD (wi : TI) (ρ : Env) (ds : List PyData) : Prop := ∀ (σ : St) (H0 H : Hp), Same H0 H → σ.length = ρ.length → DatE H0 σ ρ → ∀ R : It → Hp → Prop,
  (∀ J H1 H1', Grow H0 H H1 H1' → (∃ Y, Walk J ds.length (Same H1) Y ∧ ∀ i Hc x Hc', i < ds.length → Y i Hc x Hc' → ∀ Hb, Same H1 Hb → Same Hb Hc → ∃ Hb' d, ds[i]? = some d ∧ Grow Hb Hc Hb' Hc' ∧ Dq Hb' x d) → R J H1') → wi σ H R
section
variable {ρ : Env} {te : TE} {ta : TA} {ds es : List PyData} {K : PySem.W.Frag}
theorem src_list (h : ED te ρ (.list ds)) : SrcD (iList K te) ρ ds := fun σ H0 H s l q R k => h σ H0 H s l q _ fun v H1 H1' g q1 => by
  obtain ⟨a, xs, rfl, h1, h2⟩ := q1.lst_inv
  refine ⟨a, rfl, ⟨xs, .inl (.inl (g.sub _ _ h1))⟩, k _ H1 H1' g ⟨YAt xs, ?_, fun i Hc x Hc' hi y Hb b1 b2 => ?_⟩⟩
  · rw [← h2.len]
    exact walk_list.mono (fun H z => .inl (.inl (z _ _ h1))) (fun _ _ _ _ _ _ y => y)
  · obtain ⟨rfl, y⟩ := y
    obtain ⟨d, e, q⟩ := h2.getV y
    exact ⟨Hb, d, e, .refl b2, q.up b1⟩
theorem src_tup (h : ED te ρ (.tuple ds)) : SrcD (iTup K te) ρ ds := fun σ H0 H s l q R k => h σ H0 H s l q _ fun v H1 H1' g q1 => by
  obtain ⟨a, xs, rfl, h1, h2⟩ := q1.tup_inv
  refine ⟨a, rfl, ⟨xs, .inl (.inl (g.sub _ _ h1))⟩, k _ H1 H1' g ⟨YAt xs, ?_, fun i Hc x Hc' hi y Hb b1 b2 => ?_⟩⟩
  · rw [← h2.len]
    exact walk_tup.mono (fun H z => .inl (.inl (z _ _ h1))) (fun _ _ _ _ _ _ y => y)
  · obtain ⟨rfl, y⟩ := y
    obtain ⟨d, e, q⟩ := h2.getV y
    exact ⟨Hb, d, e, .refl b2, q.up b1⟩
def rngD (lo : Int) (n : Nat) : List PyData := (List.range n).map fun (i : Nat) => .int (lo + i)
theorem rngD_len (lo : Int) (n : Nat) : (rngD lo n).length = n := by simp [rngD]
theorem rngD_get (lo : Int) (n i : Nat) (h : i < n) : (rngD lo n)[i]? = some (.int (lo + i)) := by
  unfold rngD
  rw [List.getElem?_map, List.getElem?_range h]
  rfl
theorem src_rng (lo : Int) (n : Nat) {R : It → Hp → Prop} {H0 H H1 H1' : Hp} (g : Grow H0 H H1 H1')
    (k : ∀ J H1 H1', Grow H0 H H1 H1' → (∃ Y, Walk J (rngD lo n).length (Same H1) Y ∧ ∀ i Hc x Hc', i < (rngD lo n).length → Y i Hc x Hc' → ∀ Hb, Same H1 Hb → Same Hb Hc → ∃ Hb' d, (rngD lo n)[i]? = some d ∧ Grow Hb Hc Hb' Hc' ∧ Dq Hb' x d) → R J H1') : R (Itr lo n) H1' := by
  refine k _ H1 H1' g ⟨YFn fun i => .int (lo + i), ?_, fun i Hc x Hc' hi y Hb b1 b2 => ?_⟩
  · rw [rngD_len]
    exact walk_range.mono (fun _ _ => trivial) (fun _ _ _ _ _ _ y => y)
  · obtain ⟨rfl, rfl⟩ := y
    rw [rngD_len] at hi
    exact ⟨Hb, _, rngD_get lo n i hi, .refl b2, .int _⟩
theorem src_rng1 {n : Int} (h : EA ta ρ [.int n]) (hn : -100000 ≤ n ∧ n ≤ 100000) : SrcD (iRng1 ta) ρ (rngD 0 n.toNat) := fun σ H0 H s l q R k => h σ H0 H s l q _ fun vs H1 H1' g q1 => by
  cases q1 with
  | cons q1 q2 =>
    cases q2
    exact ⟨n, by rw [q1.int_inv], by omega, by omega, src_rng 0 n.toNat g k⟩
theorem src_rng2 {a b : Int} (h : EA ta ρ [.int a, .int b]) (hn : -100000 ≤ a ∧ a ≤ 100000 ∧ -100000 ≤ b ∧ b ≤ 100000) : SrcD (iRng2 ta) ρ (rngD a (b - a).toNat) := fun σ H0 H s l q R k => h σ H0 H s l q _ fun vs H1 H1' g q1 => by
  cases q1 with
  | cons q1 q2 =>
    cases q2 with
    | cons q2 q3 =>
      cases q3
      exact ⟨a, b, by rw [q1.int_inv, q2.int_inv], ⟨by omega, by omega, by omega, by omega⟩, src_rng a (b - a).toNat g k⟩
/-- pairs, new at each turn -/
def prs (ds es : List PyData) : List PyData := (ds.zip es).map fun z => .tuple [z.1, z.2]
theorem pair_new {Hb Hc : Hp} {T : Addr} {x y : V} {d e : PyData} (s : Same Hb Hc) (h : Hc T = none) (q1 : Dq Hb x d) (q2 : Dq Hb y e) : Grow Hb Hc (upd Hb T (.tup [x, y])) (upd Hc T (.tup [x, y])) ∧ Dq (upd Hb T (.tup [x, y])) (.ref T) (.tuple [d, e]) :=
  ⟨.new1 s h, .tup upd_same (.cons (q1.up (same_new (s.free h))) (.cons (q2.up (same_new (s.free h))) .nil))⟩
theorem prs_get {ds es : List PyData} {i : Nat} {d e : PyData} (h1 : ds[i]? = some d) (h2 : es[i]? = some e) : (prs ds es)[i]? = some (.tuple [d, e]) := by
  unfold prs
  have hz : (ds.zip es)[i]? = some (d, e) := List.getElem?_zip_eq_some.mpr ⟨h1, h2⟩
  rw [List.getElem?_map, hz]
  rfl
theorem src_zipL {a b : TE} (h1 : ED a ρ (.list ds)) (h2 : ED b ρ (.list es)) : SrcD (iZipA K (tCons a (tCons b tNil))) ρ (prs ds es) := fun σ H0 H s l q R k =>
  h1 σ H0 H s l q _ fun v H1 H1' g q1 => h2 σ H1 H1' g.sub l (q.up g.base) _ fun u H2 H2' g2 q2 => by
    obtain ⟨p, xs, rfl, e1, a1⟩ := q1.lst_inv
    obtain ⟨p', ys, rfl, e2, a2⟩ := q2.lst_inv
    refine ⟨p, p', xs, ys, rfl, .inl ⟨.inl (.inl (g2.big _ _ (g.sub _ _ e1))), .inl (.inl (g2.sub _ _ e2)), k _ H2 H2' (g.trans g2) ⟨YPair (fun i => xs[i]?) (fun i => ys[i]?), ?_, fun i Hc x Hc' hi y Hb b1 b2 => ?_⟩⟩⟩
    · have e : (prs ds es).length = min xs.length ys.length := by rw [a1.len, a2.len]; simp [prs, List.length_zip]
      exact (walk_zip e).mono (fun H z => ⟨.inl (.inl (z _ _ (g2.base _ _ e1))), .inl (.inl (z _ _ e2))⟩) (fun _ _ _ _ _ _ y => y)
    · obtain ⟨T, x1, y1, rfl, hT, rfl, g1, g3⟩ := y
      obtain ⟨d, f1, f2⟩ := a1.getV g1
      obtain ⟨e, f3, f4⟩ := a2.getV g3
      have pn := pair_new b2 hT ((f2.up g2.base).up b1) (f4.up b1)
      exact ⟨_, _, prs_get f1 f3, pn.1, pn.2⟩
theorem turnsT {a b : Addr} {xs ys : List V} {n : Nat} (hn : n = min xs.length ys.length) : Walk (ItzT K a b) n (fun H => SqT K H a xs ∧ SqT K H b ys) (YPair (fun i => xs[i]?) (fun i => ys[i]?)) := by
  subst hn
  refine ⟨fun i _ hi q => ?_, fun _ q => ⟨xs, ys, q.1, q.2, by omega⟩, fun i H v H' _ q y => ?_⟩
  · have h1 : i < xs.length := by omega
    have h2 : i < ys.length := by omega
    exact ⟨xs, ys, xs[i], ys[i], q.1, q.2, by simp [h1], by simp [h2]⟩
  · obtain ⟨T, x, z, h1, h2, h3, h4, h5⟩ := y
    exact ⟨T, x, z, h1, h2, h3, h4 xs q.1, h5 ys q.2⟩
theorem src_zipT {a b : TE} (h1 : ED a ρ (.tuple ds)) (h2 : ED b ρ (.tuple es)) : SrcD (iZipA K (tCons a (tCons b tNil))) ρ (prs ds es) := fun σ H0 H s l q R k =>
  h1 σ H0 H s l q _ fun v H1 H1' g q1 => h2 σ H1 H1' g.sub l (q.up g.base) _ fun u H2 H2' g2 q2 => by
    obtain ⟨p, xs, rfl, e1, a1⟩ := q1.tup_inv
    obtain ⟨p', ys, rfl, e2, a2⟩ := q2.tup_inv
    refine ⟨p, p', xs, ys, rfl, .inr ⟨.inl (.inl (g2.big _ _ (g.sub _ _ e1))), .inl (.inl (g2.sub _ _ e2)), k _ H2 H2' (g.trans g2) ⟨YPair (fun i => xs[i]?) (fun i => ys[i]?), ?_, fun i Hc x Hc' hi y Hb b1 b2 => ?_⟩⟩⟩
    · have e : (prs ds es).length = min xs.length ys.length := by rw [a1.len, a2.len]; simp [prs, List.length_zip]
      exact (turnsT e).mono (fun H z => ⟨.inl (.inl (z _ _ (g2.base _ _ e1))), .inl (.inl (z _ _ e2))⟩) (fun _ _ _ _ _ _ y => y)
    · obtain ⟨T, x1, y1, rfl, hT, rfl, g1, g3⟩ := y
      obtain ⟨d, f1, f2⟩ := a1.getV g1
      obtain ⟨e, f3, f4⟩ := a2.getV g3
      have pn := pair_new b2 hT ((f2.up g2.base).up b1) (f4.up b1)
      exact ⟨_, _, prs_get f1 f3, pn.1, pn.2⟩
theorem src_enumL (h1 : ED te ρ (.list ds)) : SrcD (iEnum K (tCons te tNil)) ρ (prs (rngD 0 ds.length) ds) := fun σ H0 H s l q R k =>
  h1 σ H0 H s l q _ fun v H1 H1' g q1 => by
    obtain ⟨p, xs, rfl, e1, a1⟩ := q1.lst_inv
    refine ⟨p, xs, rfl, .inl (.inl (g.sub _ _ e1)), k _ H1 H1' g ⟨YPair (fun i => some (.int (i : Nat))) (fun i => xs[i]?), ?_, fun i Hc x Hc' hi y Hb b1 b2 => ?_⟩⟩
    · have e : (prs (rngD 0 ds.length) ds).length = xs.length := by rw [a1.len]; simp [prs, List.length_zip, rngD_len]
      rw [e]
      exact walk_enum.mono (fun H z => .inl (.inl (z _ _ e1))) (fun _ _ _ _ _ _ y => y)
    · obtain ⟨T, x1, y1, rfl, hT, rfl, g1, g3⟩ := y
      obtain ⟨e, f3, f4⟩ := a1.getV g3
      have pn := pair_new (x := .int (i : Nat)) b2 hT (.int _) (f4.up b1)
      rw [← Option.some.inj g1]
      have hi2 : i < ds.length := (List.getElem?_eq_some_iff.mp f3).1
      refine ⟨_, _, prs_get (rngD_get 0 ds.length i hi2) f3, pn.1, ?_⟩
      rw [Int.zero_add]
      exact pn.2
end

/-! ### comprehensions -/
theorem Grow.out {H0 H H0' H' : Hp} {p : Addr} {vs : List V} (g : Grow H0 H H0' H') (h0 : H0 p = none) (h : H p = some (.lst vs)) : H0' p = none := by
  cases e : H0' p with
  | none => rfl
  | some u =>
    rcases g.new p u e with ⟨w, q⟩ | q | ⟨xs, q⟩
    · rw [h0] at q
      cases q
    · rw [h] at q
      cases q
    · rw [h] at q
      cases q
theorem Grow.change {H0 H H0' H' : Hp} {p : Addr} {o : HO} (g : Grow H0 H H0' H') (h0 : H0' p = none) (h : H p = none) : Grow H0 H H0' (upd H' p o) where
  base := g.base
  sub := fun a u e => by
    rw [upd_ne (ne_of_none e h0)]
    exact g.sub a u e
  big := fun a u e => by
    rw [upd_ne (ne_of_none e h)]
    exact g.big a u e
  new := g.new
section
variable {ρ : Env}
theorem el_lc {wi : TI} {g : TG} {tt : TT} {te : TE} {vs : List Nat} {ds : List PyData} (us : Nat → PyData → List (Nat × PyData)) (f : Nat → PyData → Bool) (r : Nat → PyData → PyData) (res : List PyData)
    (hs : SrcD wi ρ ds) (hl : ds.length ≤ 100000) (hg : ∀ i d, ds[i]? = some d → TgtD g d (us i d) ∧ ∀ u ∈ us i d, u.1 ∈ vs)
    (ht : ∀ i d, ds[i]? = some d → ET tt (setE (wipeD ρ vs) (us i d)) (f i d)) (he : ∀ i d, ds[i]? = some d → f i d = true → ED te (setE (wipeD ρ vs) (us i d)) (r i d))
    (hres : res = (ds.zipIdx.filter fun z => f z.2 z.1).map fun z => r z.2 z.1) : EL (tLc wi g tt te vs) ρ res := fun σ H0 H s l q Q k =>
  hs σ H0 H s l q _ fun J H1 H1' g0 ⟨Y, w, hy⟩ => fun D hD => by
    have hD1 : H1 D = none := g0.sub.free hD
    have lw : (wipe σ vs).length = (wipeD ρ vs).length := by rw [wipe_length, wipeD_len, l]
    let acc : Nat → List PyData := fun i => ((ds.zipIdx.take i).filter fun z => f z.2 z.1).map fun z => r z.2 z.1
    have hacc : ∀ i d, ds[i]? = some d → acc (i + 1) = if f i d = true then acc i ++ [r i d] else acc i := fun i d e => by
      have e2 : ds.zipIdx[i]? = some (d, i) := by rw [List.getElem?_zipIdx, e]; simp
      show ((ds.zipIdx.take (i + 1)).filter _).map _ = _
      rw [List.take_add_one, e2]
      show ((ds.zipIdx.take i ++ [(d, i)]).filter _).map _ = _
      rw [List.filter_append, List.map_append]
      by_cases hf : f i d = true
      · rw [if_pos hf, List.filter_cons_of_pos (by exact hf)]
        rfl
      · rw [if_neg hf, List.filter_cons_of_neg (by exact hf)]
        exact List.append_nil _
    have hal : ∀ i, (acc i).length ≤ ds.length := fun i => by
      show (((ds.zipIdx.take i).filter _).map _).length ≤ _
      rw [List.length_map]
      refine Nat.le_trans (List.length_filter_le _ _) ?_
      rw [List.length_take, List.length_zipIdx]
      exact Nat.min_le_right _ _
    refine lc_it w (fun i Hc => ∃ Hb ws, Grow H1 H1' Hb Hc ∧ Hb D = none ∧ Hc D = some (.lst ws) ∧ DqAll Hb ws (acc i)) ⟨H1, [], .big1 g0.sub hD, hD1, upd_same, .nil⟩ (fun i Hc _ ⟨Hb, ws, gb, _⟩ => gb.base.trans gb.sub) (fun i x Hc Hc' hi ⟨Hb, ws, gb, b0, b1, b2⟩ y => ?_) (fun Hc ⟨Hb, ws, gb, b0, b1, b2⟩ => ?_)
    · obtain ⟨Hb', d, ed, gc, qd⟩ := hy i Hc x Hc' hi y Hb gb.base gb.sub
      obtain ⟨hg1, hg2⟩ := hg i d ed
      obtain ⟨ms, mm, hgo⟩ := hg1 Hb' Hc' x gc.sub qd
      have b0' := gc.out b0 b1
      have b1' := gc.big _ _ b1
      have g1 : Grow H1 H1' Hb' Hc' := gb.trans gc
      have q2 : DatE Hb' (setS (wipe σ vs) ms) (setE (wipeD ρ vs) (us i d)) := DatE.setS mm (((q.up g0.base).up g1.base).wipe vs) lw
      have l2 : (setS (wipe σ vs) ms).length = (setE (wipeD ρ vs) (us i d)).length := by rw [setS_len, setE_len, lw]
      refine hgo _ _ ⟨by rw [wipe_setS vs _ mm hg2, wipe_wipe], ?_⟩
      refine ht i d ed _ Hb' Hc' gc.sub l2 q2 _ fun H3 H3' g3 => ?_
      cases hf : f i d with
      | true =>
        refine iteT (he i d ed hf _ H3 H3' g3.sub l2 (q2.up g3.base) _ fun v H4 H4' g4 q4 => ⟨ws, g4.big _ _ (g3.big _ _ b1'), ?_, H4, ws ++ [v], ?_, g4.out (g3.out b0' b1') (g3.big _ _ b1'), upd_same, ?_⟩)
        · rw [b2.len]
          exact Nat.lt_of_le_of_lt (Nat.le_trans (hal i) hl) (by decide)
        · exact ((g1.trans g3).trans g4).change (g4.out (g3.out b0' b1') (g3.big _ _ b1')) hD
        · rw [hacc i d ed, if_pos hf]
          exact (((b2.up gc.base).up g3.base).up g4.base).append (.cons q4 .nil)
      | false =>
        refine iteF ⟨H3, ws, g1.trans g3, g3.out b0' b1', g3.big _ _ b1', ?_⟩
        rw [hacc i d ed, if_neg (by rw [hf]; exact Bool.false_ne_true)]
        exact (b2.up gc.base).up g3.base
    · have ea : acc ds.length = res := by
        rw [hres]
        show ((ds.zipIdx.take ds.length).filter _).map _ = _
        rw [List.take_of_length_le (by rw [List.length_zipIdx]; exact Nat.le_refl _)]
      rw [ea] at b2
      exact k D ws Hb Hc (g0.trans gb) (g0.big.free hD) b0 b1 b2
/-- no test -/
theorem zi_all {α β : Type} (r : Nat → α → β) (xs : List α) : (xs.zipIdx.filter fun z => (fun _ _ => true) z.2 z.1).map (fun z => r z.2 z.1) = xs.zipIdx.map fun z => r z.2 z.1 := by
  rw [List.filter_eq_self.mpr (fun _ _ => rfl)]
theorem zi_map {α β : Type} (r : α → β) : ∀ (xs : List α) (k : Nat), (xs.zipIdx k).map (fun z => r z.1) = xs.map r
  | [], _ => rfl
  | x :: xs, k => by
    rw [List.zipIdx_cons, List.map_cons, List.map_cons, zi_map r xs (k + 1)]
theorem zi_filter {α β : Type} (f : α → Bool) (r : α → β) : ∀ (xs : List α) (k : Nat), ((xs.zipIdx k).filter fun z => f z.1).map (fun z => r z.1) = (xs.filter f).map r
  | [], _ => rfl
  | x :: xs, k => by
    rw [List.zipIdx_cons]
    by_cases h : f x = true
    · rw [List.filter_cons_of_pos (by exact h), List.filter_cons_of_pos h, List.map_cons, List.map_cons, zi_filter f r xs (k + 1)]
    · rw [List.filter_cons_of_neg (by exact h), List.filter_cons_of_neg h, zi_filter f r xs (k + 1)]
/-- [e for x in ..]: what an item makes is a function of the item -/
theorem el_lcM {wi : TI} {te : TE} {j : Nat} {ds : List PyData} (r : PyData → PyData) (hs : SrcD wi ρ ds) (hl : ds.length ≤ 100000) (he : ∀ d, d ∈ ds → ED te ((ρ.set j .no).set j (.dat d)) (r d)) {tt : TT} (ht : ∀ ρ', ET tt ρ' true) :
    EL (tLc wi (gName j) tt te [j]) ρ (ds.map r) :=
  el_lc (fun _ d => [(j, d)]) (fun _ _ => true) (fun _ d => r d) _ hs hl (fun i d e => ⟨tgt_name, fun u hu => by rw [List.mem_singleton.mp hu]; exact List.mem_cons_self ..⟩) (fun _ _ _ => ht _) (fun i d e _ => he d (List.mem_of_getElem? e)) (by
    rw [← zi_map r ds 0]
    exact (zi_all (fun _ d => r d) ds).symm)
theorem el_lcF {wi : TI} {te : TE} {j : Nat} {ds : List PyData} (f : PyData → Bool) (r : PyData → PyData) (hs : SrcD wi ρ ds) (hl : ds.length ≤ 100000) {tt : TT} (ht : ∀ d, d ∈ ds → ET tt ((ρ.set j .no).set j (.dat d)) (f d))
    (he : ∀ d, d ∈ ds → f d = true → ED te ((ρ.set j .no).set j (.dat d)) (r d)) :
    EL (tLc wi (gName j) tt te [j]) ρ ((ds.filter f).map r) :=
  el_lc (fun _ d => [(j, d)]) (fun _ d => f d) (fun _ d => r d) _ hs hl (fun i d e => ⟨tgt_name, fun u hu => by rw [List.mem_singleton.mp hu]; exact List.mem_cons_self ..⟩) (fun i d e => ht d (List.mem_of_getElem? e)) (fun i d e hf => he d (List.mem_of_getElem? e) hf) (zi_filter f r ds 0).symm
theorem et_yes : ∀ ρ', ET tYes ρ' true := fun ρ' σ H0 H s _ _ Q k => k H0 H (.refl s)
/-- [e for x in ..] over coded items -/
theorem el_lcE {ρ : Env} {α : Type} {wi : TI} {te : TE} {j : Nat} (enc : α → PyData) (r : α → PyData) (xs : List α) (hs : SrcD wi ρ (xs.map enc)) (hl : xs.length ≤ 100000) (he : ∀ a, a ∈ xs → ED te ((ρ.set j .no).set j (.dat (enc a))) (r a)) :
    EL (tLc wi (gName j) tYes te [j]) ρ (xs.map r) := by
  refine el_lc (fun _ d => [(j, d)]) (fun _ _ => true) (fun i _ => (xs[i]?.map r).getD .none) _ hs (by rw [List.length_map]; exact hl) (fun i d e => ⟨tgt_name, fun u hu => by rw [List.mem_singleton.mp hu]; exact List.mem_cons_self ..⟩) (fun _ _ _ => et_yes _) (fun i d e _ => ?_) ?_
  · rw [List.getElem?_map] at e
    obtain ⟨a, h1, h2⟩ := Option.map_eq_some_iff.mp e
    subst h2
    rw [h1]
    exact he a (List.mem_of_getElem? h1)
  · rw [List.filter_eq_self.mpr (fun _ _ => rfl)]
    refine List.ext_getElem? fun i => ?_
    rw [List.getElem?_map, List.getElem?_map, List.getElem?_zipIdx, List.getElem?_map]
    cases h : xs[i]? with
    | none => simp [h]
    | some a => simp [h]
theorem el_lcEF {ρ : Env} {α : Type} {wi : TI} {tt : TT} {te : TE} {j : Nat} (enc : α → PyData) (f : α → Bool) (r : α → PyData) (xs : List α) (hs : SrcD wi ρ (xs.map enc)) (hl : xs.length ≤ 100000) (ht : ∀ a, a ∈ xs → ET tt ((ρ.set j .no).set j (.dat (enc a))) (f a))
    (he : ∀ a, a ∈ xs → f a = true → ED te ((ρ.set j .no).set j (.dat (enc a))) (r a)) :
    EL (tLc wi (gName j) tt te [j]) ρ ((xs.filter f).map r) := by
  refine el_lc (fun _ d => [(j, d)]) (fun i _ => (xs[i]?.map f).getD false) (fun i _ => (xs[i]?.map r).getD .none) _ hs (by rw [List.length_map]; exact hl) (fun i d e => ⟨tgt_name, fun u hu => by rw [List.mem_singleton.mp hu]; exact List.mem_cons_self ..⟩) (fun i d e => ?_) (fun i d e hf => ?_) ?_
  · rw [List.getElem?_map] at e
    obtain ⟨a, h1, h2⟩ := Option.map_eq_some_iff.mp e
    subst h2
    rw [h1]
    exact ht a (List.mem_of_getElem? h1)
  · rw [List.getElem?_map] at e
    obtain ⟨a, h1, h2⟩ := Option.map_eq_some_iff.mp e
    subst h2
    rw [h1] at hf ⊢
    exact he a (List.mem_of_getElem? h1) hf
  · have key : ∀ (ys : List α) (k : Nat), (∀ i, i < ys.length → xs[k + i]? = ys[i]?) → (((ys.map enc).zipIdx k).filter fun z => (xs[z.2]?.map f).getD false).map (fun z => (xs[z.2]?.map r).getD .none) = (ys.filter f).map r := by
      intro ys
      induction ys with
      | nil => intro k _; rfl
      | cons y ys ih =>
        intro k hk
        have h0 : xs[k]? = some y := hk 0 (Nat.zero_lt_succ _)
        have ih' := ih (k + 1) fun i hi => by
          have z := hk (i + 1) (Nat.succ_lt_succ hi)
          rw [show k + 1 + i = k + (i + 1) by omega]
          exact z
        rw [List.map_cons, List.zipIdx_cons]
        by_cases hf : f y = true
        · rw [List.filter_cons_of_pos (by show (xs[k]?.map f).getD false = true; rw [h0]; exact hf), List.filter_cons_of_pos hf, List.map_cons, List.map_cons, ih']
          congr 1
          show (xs[k]?.map r).getD .none = r y
          rw [h0]
          rfl
        · rw [List.filter_cons_of_neg (by show ¬ (xs[k]?.map f).getD false = true; rw [h0]; exact hf), List.filter_cons_of_neg hf, ih']
    exact (key xs 0 fun i _ => by rw [Nat.zero_add]).symm
end

/-! ### statements -/
structure StOk (Hi0 Hi H0 H : Hp) (σ : St) (ρ : Env) : Prop where
  gr : Grow Hi0 Hi H0 H
  len : σ.length = ρ.length
  dat : DatE H0 σ ρ
  own : ∀ (i : Nat) (ds : List PyData), ρ[i]? = some (.own ds) → ∃ p vs, σ[i]? = some (some (.ref p)) ∧ H p = some (.lst vs) ∧ H0 p = none ∧ Hi p = none ∧ DqAll H0 vs ds
  dis : ∀ (i j : Nat) (ds es : List PyData) (p : Addr), ρ[i]? = some (.own ds) → ρ[j]? = some (.own es) → σ[i]? = some (some (.ref p)) → σ[j]? = some (some (.ref p)) → i = j
def Ok (Hi0 Hi : Hp) (ρ : Env) (σ : St) (H : Hp) : Prop := ∃ H0, StOk Hi0 Hi H0 H σ ρ
section
variable {Hi0 Hi H0 H H0' H' : Hp} {σ : St} {ρ : Env}
theorem StOk.more (s : StOk Hi0 Hi H0 H σ ρ) (g : Grow H0 H H0' H') : StOk Hi0 Hi H0' H' σ ρ :=
  ⟨s.gr.trans g, s.len, s.dat.up g.base, fun i ds e => by
    obtain ⟨p, vs, h1, h2, h3, h4, h5⟩ := s.own i ds e
    exact ⟨p, vs, h1, g.big _ _ h2, g.out h3 h2, h4, h5.up g.base⟩, s.dis⟩
theorem StOk.setD (s : StOk Hi0 Hi H0 H σ ρ) (j : Nat) {v : V} {d : PyData} (q : Dq H0 v d) : StOk Hi0 Hi H0 H (σ.set j (some v)) (ρ.set j (.dat d)) := by
  have key : ∀ i ds, (ρ.set j (Sl.dat d))[i]? = some (Sl.own ds) → i ≠ j ∧ ρ[i]? = some (Sl.own ds) := fun i ds e => by
    by_cases h : j = i
    · subst h
      have hj := (List.getElem?_eq_some_iff.mp e).1
      rw [List.length_set] at hj
      rw [List.getElem?_set_self hj] at e
      cases e
    · rw [List.getElem?_set_ne h] at e
      exact ⟨fun z => h z.symm, e⟩
  refine ⟨s.gr, by rw [List.length_set, List.length_set, s.len], s.dat.set s.len j q, fun i ds e => ?_, fun i k ds es p e1 e2 e3 e4 => ?_⟩
  · obtain ⟨hn, e'⟩ := key i ds e
    rw [List.getElem?_set_ne (Ne.symm hn)]
    exact s.own i ds e'
  · obtain ⟨n1, e1'⟩ := key i ds e1
    obtain ⟨n2, e2'⟩ := key k es e2
    rw [List.getElem?_set_ne (Ne.symm n1)] at e3
    rw [List.getElem?_set_ne (Ne.symm n2)] at e4
    exact s.dis i k ds es p e1' e2' e3 e4
theorem StOk.setS (s : StOk Hi0 Hi H0 H σ ρ) : ∀ {ws : List (Nat × V)} {us : List (Nat × PyData)}, Match H0 ws us → StOk Hi0 Hi H0 H (DD.setS σ ws) (setE ρ us) := by
  intro ws us m
  induction m generalizing σ ρ with
  | nil => exact s
  | cons q m ih => exact ih (s.setD _ q)
/-- a new list goes to a slot -/
theorem StOk.setO (s : StOk Hi0 Hi H0 H σ ρ) (j : Nat) {p : Addr} {vs : List V} {ds : List PyData} (h : H p = some (.lst vs)) (h0 : H0 p = none) (hi : Hi p = none) (hn : ∀ (i : Nat) es q, ρ[i]? = some (Sl.own es) → σ[i]? = some (some (V.ref q)) → q ≠ p) (a : DqAll H0 vs ds) :
    StOk Hi0 Hi H0 H (σ.set j (some (.ref p))) (ρ.set j (.own ds)) := by
  have hl := s.len
  have key : ∀ i es, (ρ.set j (Sl.own ds))[i]? = some (Sl.own es) → (i = j ∧ j < ρ.length ∧ es = ds) ∨ (i ≠ j ∧ ρ[i]? = some (Sl.own es)) := fun i es e => by
    by_cases h : j = i
    · subst h
      have hj := (List.getElem?_eq_some_iff.mp e).1
      rw [List.length_set] at hj
      rw [List.getElem?_set_self hj] at e
      cases e
      exact .inl ⟨rfl, hj, rfl⟩
    · rw [List.getElem?_set_ne h] at e
      exact .inr ⟨fun z => h z.symm, e⟩
  refine ⟨s.gr, by rw [List.length_set, List.length_set, hl], s.dat.setNo j _ _ (fun _ q => nomatch q), fun i es e => ?_, fun i k es fs q e1 e2 e3 e4 => ?_⟩
  · rcases key i es e with ⟨rfl, hj, rfl⟩ | ⟨hne, e'⟩
    · exact ⟨p, vs, by rw [List.getElem?_set_self (by omega)], h, h0, hi, a⟩
    · rw [List.getElem?_set_ne (Ne.symm hne)]
      exact s.own i es e'
  · rcases key i es e1 with ⟨rfl, hj, rfl⟩ | ⟨n1, e1'⟩
    · rcases key k fs e2 with ⟨rfl, _, _⟩ | ⟨n2, e2'⟩
      · rfl
      · rw [List.getElem?_set_self (by omega)] at e3
        rw [List.getElem?_set_ne (Ne.symm n2)] at e4
        cases e3
        exact absurd rfl (hn k fs _ e2' e4)
    · rcases key k fs e2 with ⟨rfl, hj, _⟩ | ⟨n2, e2'⟩
      · rw [List.getElem?_set_self (by omega)] at e4
        rw [List.getElem?_set_ne (Ne.symm n1)] at e3
        cases e4
        exact absurd rfl (hn i es _ e1' e3)
      · rw [List.getElem?_set_ne (Ne.symm n1)] at e3
        rw [List.getElem?_set_ne (Ne.symm n2)] at e4
        exact s.dis i k es fs q e1' e2' e3 e4
/-- an own list grows -/
theorem StOk.push (s : StOk Hi0 Hi H0 H σ ρ) {j : Nat} {p : Addr} {vs : List V} {ds : List PyData} {v : V} {d : PyData} (hj : ρ[j]? = some (.own ds)) (hs : σ[j]? = some (some (.ref p))) (h : H p = some (.lst vs)) (q : Dq H0 v d) :
    StOk Hi0 Hi H0 (upd H p (.lst (vs ++ [v]))) σ (ρ.set j (.own (ds ++ [d]))) := by
  obtain ⟨p', vs', h1, h2, h3, h4, h5⟩ := s.own j ds hj
  rw [hs] at h1
  cases h1
  rw [h] at h2
  cases h2
  have hjl := (List.getElem?_eq_some_iff.mp hj).1
  have key : ∀ i es, (ρ.set j (Sl.own (ds ++ [d])))[i]? = some (Sl.own es) → (i = j ∧ es = ds ++ [d]) ∨ (i ≠ j ∧ ρ[i]? = some (Sl.own es)) := fun i es e => by
    by_cases h : j = i
    · subst h
      rw [List.getElem?_set_self hjl] at e
      cases e
      exact .inl ⟨rfl, rfl⟩
    · rw [List.getElem?_set_ne h] at e
      exact .inr ⟨fun z => h z.symm, e⟩
  have hown : ∀ i es, (ρ.set j (Sl.own (ds ++ [d])))[i]? = some (Sl.own es) → ∃ es', ρ[i]? = some (Sl.own es') := fun i es e => by
    rcases key i es e with ⟨rfl, _⟩ | ⟨_, e'⟩
    · exact ⟨ds, hj⟩
    · exact ⟨es, e'⟩
  refine ⟨s.gr.change h3 h4, by rw [List.length_set, s.len], fun i d' e => ?_, fun i es e => ?_, fun i k es fs q e1 e2 e3 e4 => ?_⟩
  · refine s.dat i d' ?_
    by_cases h : j = i
    · subst h
      rw [List.getElem?_set_self hjl] at e
      cases e
    · rw [List.getElem?_set_ne h] at e
      exact e
  · rcases key i es e with ⟨rfl, rfl⟩ | ⟨hne, e'⟩
    · exact ⟨p, vs ++ [v], hs, upd_same, h3, h4, h5.append (.cons q .nil)⟩
    · obtain ⟨p2, ws, k1, k2, k3, k4, k5⟩ := s.own i es e'
      have hpp : p2 ≠ p := fun z => hne (s.dis i j es ds p e' hj (z ▸ k1) hs)
      exact ⟨p2, ws, k1, by rw [upd_ne hpp]; exact k2, k3, k4, k5⟩
  · obtain ⟨_, f1⟩ := hown i es e1
    obtain ⟨_, f2⟩ := hown k fs e2
    exact s.dis i k _ _ q f1 f2 e3 e4
/-- an own list is taken into the base -/
theorem StOk.freeze (s : StOk Hi0 Hi H0 H σ ρ) {j : Nat} {ds : List PyData} (hj : ρ[j]? = some (.own ds)) : ∃ H0', StOk Hi0 Hi H0' H σ (ρ.set j (.dat (.list ds))) := by
  obtain ⟨p, vs, h1, h2, h3, h4, h5⟩ := s.own j ds hj
  have hjl := (List.getElem?_eq_some_iff.mp hj).1
  have key : ∀ i es, (ρ.set j (Sl.dat (.list ds)))[i]? = some (Sl.own es) → i ≠ j ∧ ρ[i]? = some (Sl.own es) := fun i es e => by
    by_cases h : j = i
    · subst h
      rw [List.getElem?_set_self hjl] at e
      cases e
    · rw [List.getElem?_set_ne h] at e
      exact ⟨fun z => h z.symm, e⟩
  have sm : Same H0 (upd H0 p (.lst vs)) := same_new h3
  refine ⟨upd H0 p (.lst vs), s.gr.take h4 h3 h2, by rw [List.length_set, s.len], fun i d e => ?_, fun i es e => ?_, fun i k es fs q e1 e2 e3 e4 => ?_⟩
  · by_cases h : j = i
    · subst h
      rw [List.getElem?_set_self hjl] at e
      cases e
      exact ⟨.ref p, h1, .lst upd_same (h5.up sm)⟩
    · rw [List.getElem?_set_ne h] at e
      obtain ⟨v, k1, k2⟩ := s.dat i d e
      exact ⟨v, k1, k2.up sm⟩
  · obtain ⟨hne, e'⟩ := key i es e
    obtain ⟨p2, ws, k1, k2, k3, k4, k5⟩ := s.own i es e'
    have hpp : p2 ≠ p := fun z => hne (s.dis i j es ds p e' hj (z ▸ k1) h1)
    exact ⟨p2, ws, k1, k2, by rw [upd_ne hpp]; exact k3, k4, k5.up sm⟩
  · exact s.dis i k es fs q (key i es e1).2 (key k fs e2).2 e3 e4
end

/-- goes on, in the state ρ' -/
def RN (t : TS) (ρ ρ' : Env) : Prop := ∀ (Hi0 Hi : Hp) (D : Ends) (σ : St) (H : Hp), Ok Hi0 Hi ρ σ H → (∀ σ' H', Ok Hi0 Hi ρ' σ' H' → D.nx σ' H') → t D σ H
/-- hands back d -/
def RR (t : TS) (ρ : Env) (d : PyData) : Prop := ∀ (Hi0 Hi : Hp) (D : Ends) (σ : St) (H : Hp), Ok Hi0 Hi ρ σ H → (∀ v H0' H', Grow Hi0 Hi H0' H' → Dq H0' v d → D.rt v H') → t D σ H
/-- hands back a new list -/
def RL (t : TS) (ρ : Env) (ds : List PyData) : Prop := ∀ (Hi0 Hi : Hp) (D : Ends) (σ : St) (H : Hp), Ok Hi0 Hi ρ σ H → (∀ p vs H0' H', Grow Hi0 Hi H0' H' → Hi p = none → H0' p = none → H' p = some (.lst vs) → DqAll H0' vs ds → D.rt (.ref p) H') → t D σ H
section
variable {ρ ρ' ρ'' : Env} {t u : TS} {te : TE} {d e : PyData} {ds es : List PyData}
theorem rn_seq (h1 : RN t ρ ρ') (h2 : RN u ρ' ρ'') : RN (tSeq t u) ρ ρ'' := fun Hi0 Hi D σ H o k => h1 Hi0 Hi { D with nx := u D } σ H o fun σ' H' o' => h2 Hi0 Hi D σ' H' o' k
theorem rr_seq (h1 : RN t ρ ρ') (h2 : RR u ρ' d) : RR (tSeq t u) ρ d := fun Hi0 Hi D σ H o k => h1 Hi0 Hi { D with nx := u D } σ H o fun σ' H' o' => h2 Hi0 Hi D σ' H' o' k
theorem rl_seq (h1 : RN t ρ ρ') (h2 : RL u ρ' ds) : RL (tSeq t u) ρ ds := fun Hi0 Hi D σ H o k => h1 Hi0 Hi { D with nx := u D } σ H o fun σ' H' o' => h2 Hi0 Hi D σ' H' o' k
theorem rr_first (h1 : RR t ρ d) : RR (tSeq t u) ρ d := fun Hi0 Hi D σ H o k => h1 Hi0 Hi { D with nx := u D } σ H o k
theorem rn_next : RN tNext ρ ρ := fun Hi0 Hi D σ H o k => k σ H o
theorem rr_ret (h : ED te ρ d) : RR (tRet te) ρ d := fun Hi0 Hi D σ H ⟨H0, s⟩ k => h σ H0 H s.gr.sub s.len s.dat _ fun v H1 H1' g q => k v H1 H1' (s.gr.trans g) q
theorem rl_ret (h : EL te ρ ds) : RL (tRet te) ρ ds := fun Hi0 Hi D σ H ⟨H0, s⟩ k => h σ H0 H s.gr.sub s.len s.dat _ fun p vs H1 H1' g hp h0 h1 q => k p vs H1 H1' (s.gr.trans g) (s.gr.big.free hp) h0 h1 q
theorem RL.rr {t : TS} (h : RL t ρ ds) : RR t ρ (.list ds) := fun Hi0 Hi D σ H o k => h Hi0 Hi D σ H o fun p vs H1 H1' g hp h0 h1 q => k _ _ _ (g.take hp h0 h1) (.lst upd_same (q.up (same_new h0)))
theorem rn_asg {i : Nat} (h : ED te ρ d) : RN (tAsg te (gName i)) ρ (ρ.set i (.dat d)) := fun Hi0 Hi D σ H ⟨H0, s⟩ k => h σ H0 H s.gr.sub s.len s.dat _ fun v H1 H1' g q => k _ _ ⟨H1, (s.more g).setD i q⟩
theorem ownNe {Hi0 Hi H0 H H1 H1' : Hp} {σ : St} {p : Addr} (s : StOk Hi0 Hi H0 H σ ρ) (hp : H p = none) (i : Nat) (es : List PyData) (q : Addr) (h : ρ[i]? = some (Sl.own es)) (h2 : σ[i]? = some (some (V.ref q))) : q ≠ p := fun z => by
  obtain ⟨p', vs, h1, h3, _⟩ := s.own i es h
  rw [h2] at h1
  cases h1
  rw [z, hp] at h3
  cases h3
theorem rn_asgL {i : Nat} (h : EL te ρ ds) : RN (tAsg te (gName i)) ρ (ρ.set i (.own ds)) := fun Hi0 Hi D σ H ⟨H0, s⟩ k => h σ H0 H s.gr.sub s.len s.dat _ fun p vs H1 H1' g hp h0 h1 q =>
  k _ _ ⟨H1, (s.more g).setO i h1 h0 (s.gr.big.free hp) (ownNe (H1 := H1) (H1' := H1') s hp) q⟩
theorem rn_tgt {g : TG} {us : List (Nat × PyData)} (h : ED te ρ d) (hg : TgtD g d us) : RN (tAsg te g) ρ (setE ρ us) := fun Hi0 Hi D σ H ⟨H0, s⟩ k => h σ H0 H s.gr.sub s.len s.dat _ fun v H1 H1' gr q => by
  obtain ⟨ws, m, go⟩ := hg H1 H1' v gr.sub q
  exact go σ _ (k _ _ ⟨H1, (s.more gr).setS m⟩)
theorem rn_parDD {i j : Nat} {a b : TE} (h1 : ED a ρ d) (h2 : ED b ρ e) : RN (tPar i j (tCons a (tCons b tNil))) ρ ((ρ.set i (.dat d)).set j (.dat e)) := fun Hi0 Hi D σ H ⟨H0, s⟩ k =>
  h1 σ H0 H s.gr.sub s.len s.dat _ fun v H1 H1' g q => h2 σ H1 H1' g.sub s.len (s.dat.up g.base) _ fun w H2 H2' g2 q2 => ⟨v, w, rfl, k _ _ ⟨H2, (((s.more g).more g2).setD i (q.up g2.base)).setD j q2⟩⟩
theorem rn_parLD {i j : Nat} {a b : TE} (h1 : EL a ρ ds) (h2 : ED b ρ e) : RN (tPar i j (tCons a (tCons b tNil))) ρ ((ρ.set i (.own ds)).set j (.dat e)) := fun Hi0 Hi D σ H ⟨H0, s⟩ k =>
  h1 σ H0 H s.gr.sub s.len s.dat _ fun p vs H1 H1' g hp h0 h1 q => h2 σ H1 H1' g.sub s.len (s.dat.up g.base) _ fun w H2 H2' g2 q2 => ⟨_, w, rfl, k _ _ ⟨H2, (((s.more g).more g2).setO i (g2.big _ _ h1) (g2.out h0 h1) (s.gr.big.free hp) (ownNe (H1 := H1) (H1' := H1') s hp) (q.up g2.base)).setD j q2⟩⟩
theorem rn_parDL {i j : Nat} {a b : TE} (hij : i ≠ j) (h1 : ED a ρ d) (h2 : EL b ρ es) : RN (tPar i j (tCons a (tCons b tNil))) ρ ((ρ.set i (.dat d)).set j (.own es)) := fun Hi0 Hi D σ H ⟨H0, s⟩ k =>
  h1 σ H0 H s.gr.sub s.len s.dat _ fun v H1 H1' g q => h2 σ H1 H1' g.sub s.len (s.dat.up g.base) _ fun p vs H2 H2' g2 hp h0 h1 q2 => by
    have s2 := ((s.more g).more g2).setD i (q.up g2.base)
    refine ⟨_, _, rfl, k _ _ ⟨H2, s2.setO j h1 h0 ((s.gr.trans g).big.free hp) (fun k es z e1 e2 => ?_) q2⟩⟩
    by_cases hk : i = k
    · subst hk
      have hk2 := (List.getElem?_eq_some_iff.mp e1).1
      rw [List.length_set] at hk2
      rw [List.getElem?_set_self hk2] at e1
      cases e1
    · rw [List.getElem?_set_ne hk] at e1 e2
      exact ownNe (H1 := H1) (H1' := H1') (s.more g) hp k es z e1 e2
theorem rn_if {c : TT} {b : Bool} (h : ET c ρ b) (h1 : b = true → RN t ρ ρ') (h2 : b = false → RN u ρ ρ') : RN (tIfS c t u) ρ ρ' := fun Hi0 Hi D σ H ⟨H0, s⟩ k => h σ H0 H s.gr.sub s.len s.dat _ fun H1 H1' g => by
  cases b with
  | true => exact iteT (h1 rfl Hi0 Hi D σ H1' ⟨H1, s.more g⟩ k)
  | false => exact iteF (h2 rfl Hi0 Hi D σ H1' ⟨H1, s.more g⟩ k)
theorem rr_if {c : TT} {b : Bool} (h : ET c ρ b) (h1 : b = true → RR t ρ d) (h2 : b = false → RR u ρ d) : RR (tIfS c t u) ρ d := fun Hi0 Hi D σ H ⟨H0, s⟩ k => h σ H0 H s.gr.sub s.len s.dat _ fun H1 H1' g => by
  cases b with
  | true => exact iteT (h1 rfl Hi0 Hi D σ H1' ⟨H1, s.more g⟩ k)
  | false => exact iteF (h2 rfl Hi0 Hi D σ H1' ⟨H1, s.more g⟩ k)
/-- if c: return .., then the rest -/
theorem rr_ifR {c : TT} {v : TS} {b : Bool} (h : ET c ρ b) (h1 : b = true → RR t ρ d) (h2 : b = false → RR v ρ d) : RR (tSeq (tIfS c t tNext) v) ρ d := fun Hi0 Hi D σ H ⟨H0, s⟩ k => h σ H0 H s.gr.sub s.len s.dat _ fun H1 H1' g => by
  cases b with
  | true => exact iteT (h1 rfl Hi0 Hi { D with nx := v D } σ H1' ⟨H1, s.more g⟩ k)
  | false => exact iteF (h2 rfl Hi0 Hi D σ H1' ⟨H1, s.more g⟩ k)
theorem rn_app {K : PySem.W.Frag} {j : Nat} (hj : ρ[j]? = some (.own ds)) (hl : ds.length < 100000) (h : ED te ρ d) : RN (tDrop (tBM K "list" rAppend (tVar j) (tCons te tNil))) ρ (ρ.set j (.own (ds ++ [d]))) := fun Hi0 Hi D σ H ⟨H0, s⟩ k => by
  obtain ⟨p, vs, h1, h2, h3, h4, h5⟩ := s.own j ds hj
  refine ⟨.ref p, h1, .inl ⟨rfl, _, .inl (.inl h2)⟩, h σ H0 H s.gr.sub s.len s.dat _ fun v H1 H1' g q => ⟨p, vs, v, rfl, rfl, g.big _ _ h2, ?_, k _ _ ⟨H1, (s.more g).push hj h1 (g.big _ _ h2) q⟩⟩⟩
  rw [h5.len]
  exact Nat.lt_of_lt_of_le hl (by decide)
theorem rn_drop (h : ED te ρ d) : RN (tDrop te) ρ ρ := fun Hi0 Hi D σ H ⟨H0, s⟩ k => h σ H0 H s.gr.sub s.len s.dat _ fun v H1 H1' g q => k _ _ ⟨H1, s.more g⟩
theorem rn_freeze {j : Nat} (hj : ρ[j]? = some (.own ds)) (h : RN t (ρ.set j (.dat (.list ds))) ρ') : RN t ρ ρ' := fun Hi0 Hi D σ H ⟨H0, s⟩ k => h Hi0 Hi D σ H (s.freeze hj) k
theorem rr_freeze {j : Nat} (hj : ρ[j]? = some (.own ds)) (h : RR t (ρ.set j (.dat (.list ds))) d) : RR t ρ d := fun Hi0 Hi D σ H ⟨H0, s⟩ k => h Hi0 Hi D σ H (s.freeze hj) k
theorem rl_freeze {j : Nat} (hj : ρ[j]? = some (.own ds)) (h : RL t (ρ.set j (.dat (.list ds))) es) : RL t ρ es := fun Hi0 Hi D σ H ⟨H0, s⟩ k => h Hi0 Hi D σ H (s.freeze hj) k
theorem rn_is (h : RN t ρ ρ') (e : ρ' = ρ'') : RN t ρ ρ'' := e ▸ h
theorem rr_is (h : RR t ρ d) (e1 : d = e) : RR t ρ e := e1 ▸ h
/-- what is known of a slot may be forgotten -/
theorem StOk.lose {Hi0 Hi H0 H : Hp} {σ : St} (s : StOk Hi0 Hi H0 H σ ρ) (j : Nat) : StOk Hi0 Hi H0 H σ (ρ.set j .no) := by
  have key : ∀ i (s : Sl), s ≠ .no → (ρ.set j Sl.no)[i]? = some s → ρ[i]? = some s := fun i s hs e => by
    by_cases h : j = i
    · subst h
      have hj := (List.getElem?_eq_some_iff.mp e).1
      rw [List.length_set] at hj
      rw [List.getElem?_set_self hj] at e
      cases e
      exact absurd rfl hs
    · rw [List.getElem?_set_ne h] at e
      exact e
  exact ⟨s.gr, by rw [List.length_set, s.len], fun i d e => s.dat i d (key i _ (fun q => nomatch q) e), fun i ds e => s.own i ds (key i _ (fun q => nomatch q) e), fun i k ds es p e1 e2 => s.dis i k ds es p (key i _ (fun q => nomatch q) e1) (key k _ (fun q => nomatch q) e2)⟩
theorem rn_lose (j : Nat) (h : RN t ρ ρ') : RN t ρ (ρ'.set j .no) := fun Hi0 Hi D σ H o k => h Hi0 Hi D σ H o fun σ' H' ⟨H0, s⟩ => k σ' H' ⟨H0, s.lose j⟩

def un (A B : Hp) : Hp := fun a => match A a with
  | some o => some o
  | none => B a
theorem un_none {A B : Hp} {a : Addr} : un A B a = none ↔ A a = none ∧ B a = none := by
  unfold un
  cases A a with
  | none => simp
  | some o => simp
theorem rn_for {wi : TI} {g : TG} {tb : TS} (ρs : Nat → Env) (hs : SrcD wi (ρs 0) ds) (hb : ∀ i d, ds[i]? = some d → ∃ us, TgtD g d us ∧ RN tb (setE (ρs i) us) (ρs (i + 1))) : RN (tFor wi g tb) (ρs 0) (ρs ds.length) := fun Hi0 Hi D σ H ⟨H0, s⟩ k =>
  hs σ H0 H s.gr.sub s.len s.dat _ fun J H1 H1' g1 ⟨Y, w, hy⟩ => by
    have s1 := s.more g1
    refine for_it w (fun i σ' Hc => ∃ Hb, StOk Hi0 Hi Hb Hc σ' (ρs i) ∧ Same H1 Hb) ⟨H1, s1, Same.refl _⟩ (fun i σ' Hc _ ⟨Hb, sb, sm⟩ => sm.trans sb.gr.sub) (fun i x σ' Hc Hc' hi ⟨Hb, sb, sm⟩ y => ?_) (fun σ' Hc ⟨Hb, sb, _⟩ => k σ' Hc ⟨Hb, sb⟩)
    obtain ⟨Hb', d, ed, gc, qd⟩ := hy i Hc x Hc' hi y Hb sm sb.gr.sub
    obtain ⟨us, hg, hr⟩ := hb i d ed
    obtain ⟨ws, mm, go⟩ := hg Hb' Hc' x gc.sub qd
    refine go σ' _ ?_
    have s2 := (sb.more gc).setS mm
    have sm2 : Same H1 Hb' := sm.trans gc.base
    have hu : StOk H1 (un H1 Hi) Hb' Hc' (DD.setS σ' ws) (setE (ρs i) us) := by
      refine ⟨⟨sm2, s2.gr.sub, fun a o e => ?_, fun a o e => ?_⟩, s2.len, s2.dat, fun i ds e => ?_, s2.dis⟩
      · unfold un at e
        cases q : H1 a with
        | some o' =>
          rw [q] at e
          cases e
          exact s2.gr.sub _ _ (sm2 _ _ q)
        | none =>
          rw [q] at e
          exact s2.gr.big _ _ e
      · cases q : H1 a with
        | some o' => exact .inl ⟨o', rfl⟩
        | none =>
          rcases s2.gr.new a o e with ⟨z, h⟩ | h | ⟨xs, h⟩
          · rw [s1.gr.base _ _ h] at q
            cases q
          · exact .inr (.inl (un_none.mpr ⟨q, h⟩))
          · exact .inr (.inr ⟨xs, by unfold un; rw [q]; exact h⟩)
      · obtain ⟨p, vs, h1, h2, h3, h4, h5⟩ := s2.own i ds e
        exact ⟨p, vs, h1, h2, h3, un_none.mpr ⟨sm2.free h3, h4⟩, h5⟩
    have fin : ∀ σ'' H'', Ok H1 (un H1 Hi) (ρs (i + 1)) σ'' H'' → ∃ Hb, StOk Hi0 Hi Hb H'' σ'' (ρs (i + 1)) ∧ Same H1 Hb := fun σ'' H'' ⟨Hz, sz⟩ => by
      refine ⟨Hz, ⟨⟨s1.gr.base.trans sz.gr.base, sz.gr.sub, fun a o e => ?_, fun a o e => ?_⟩, sz.len, sz.dat, fun i ds e => ?_, sz.dis⟩, sz.gr.base⟩
      · refine sz.gr.big a o ?_
        unfold un
        cases q : H1 a with
        | some o' =>
          have e1 := s1.gr.big _ _ e
          have e2 := s1.gr.sub _ _ q
          rw [e1] at e2
          cases e2
          rfl
        | none => exact e
      · rcases sz.gr.new a o e with ⟨z, h⟩ | h | ⟨xs, h⟩
        · exact s1.gr.new a z h
        · exact .inr (.inl (un_none.mp h).2)
        · unfold un at h
          cases q : H1 a with
          | some o' => exact s1.gr.new a o' q
          | none =>
            rw [q] at h
            exact .inr (.inr ⟨xs, h⟩)
      · obtain ⟨p, vs, h1, h2, h3, h4, h5⟩ := sz.own i ds e
        exact ⟨p, vs, h1, h2, h3, (un_none.mp h4).2, h5⟩
    exact hr H1 (un H1 Hi) { D with nx := _, ct := _, bk := D.nx } _ _ ⟨Hb', hu⟩ fun σ'' H'' o => fin σ'' H'' o
end

/-! ### defs: a promise by data -/
/-- R: which data make which datum -/
def Pure (R : List PyData → PyData → Prop) : Sp := fun vs H Q _ => ∃ H0 ds d, Same H0 H ∧ DqAll H0 vs ds ∧ R ds d ∧ ∀ v H0' H', Grow H0 H H0' H' → Dq H0' v d → Q v H'
/-- the answer a new list -/
def PureL (R : List PyData → List PyData → Prop) : Sp := fun vs H Q _ => ∃ H0 ds es, Same H0 H ∧ DqAll H0 vs ds ∧ R ds es ∧ ∀ p ws H0' H', Grow H0 H H0' H' → H p = none → H0' p = none → H' p = some (.lst ws) → DqAll H0' ws es → Q (.ref p) H'
section
variable {ρ : Env} {ta : TA} {ds es : List PyData} {d : PyData} {E : XK}
theorem ed_call {R : List PyData → PyData → Prop} (h : EA ta ρ ds) (hr : R ds d) : ED (tCall (Pure R) [] E ta) ρ d := fun σ H0 H s l q Q k => h σ H0 H s l q _ fun vs H1 H1' g q1 => by
  rw [List.append_nil]
  exact ⟨H1, ds, d, g.sub, q1, hr, fun v H2 H2' g2 q2 => k v H2 H2' (g.trans g2) q2⟩
theorem el_call {R : List PyData → List PyData → Prop} (h : EA ta ρ ds) (hr : R ds es) : EL (tCall (PureL R) [] E ta) ρ es := fun σ H0 H s l q Q k => h σ H0 H s l q _ fun vs H1 H1' g q1 => by
  rw [List.append_nil]
  exact ⟨H1, ds, es, g.sub, q1, hr, fun p ws H2 H2' g2 hp h0 h1 q2 => k p ws H2 H2' (g.trans g2) (g.big.free hp) h0 h1 q2⟩
def startE (n : Nat) (ds : List PyData) : Env := ds.map .dat ++ List.replicate (n - ds.length) .no
theorem startE_ok {N : List Str} {vs : List V} {H0 H : Hp} (s : Same H0 H) (a : DqAll H0 vs ds) : StOk H0 H H0 H (L2.start N vs) (startE N.length ds) := by
  have hno : ∀ (i : Nat) (x : Sl), (startE N.length ds)[i]? = some x → x = .no ∨ ∃ d, ds[i]? = some d ∧ x = .dat d := fun i x e => by
    unfold startE at e
    by_cases h : i < ds.length
    · rw [List.getElem?_append_left (by rw [List.length_map]; exact h), List.getElem?_map] at e
      obtain ⟨d, h1, h2⟩ := Option.map_eq_some_iff.mp e
      exact .inr ⟨d, h1, h2.symm⟩
    · rw [List.getElem?_append_right (by rw [List.length_map]; omega), List.getElem?_replicate] at e
      split at e
      · exact .inl (Option.some.inj e).symm
      · cases e
  refine ⟨.refl s, ?_, fun i d e => ?_, fun i es e => ?_, fun i j es fs p e => ?_⟩
  · unfold L2.start startE
    rw [List.length_append, List.length_append, List.length_map, List.length_map, List.length_replicate, List.length_replicate, a.len]
  · rcases hno i _ e with z | ⟨d', h1, h2⟩
    · cases z
    · cases h2
      obtain ⟨v, h3, h4⟩ := a.get h1
      refine ⟨v, ?_, h4⟩
      unfold L2.start
      rw [List.getElem?_append_left (by rw [List.length_map]; exact (List.getElem?_eq_some_iff.mp h3).1), List.getElem?_map, h3]
      rfl
  · rcases hno i _ e with z | ⟨d', h1, h2⟩
    · cases z
    · cases h2
  · rcases hno i _ e with z | ⟨d', h1, h2⟩
    · cases z
    · cases h2
theorem pure_run {R : List PyData → PyData → Prop} {N : List Str} {t : TS} (h : ∀ ds d, R ds d → RR t (startE N.length ds) d) (vs : List V) (H : Hp) (Q : VK) (E : XK) (hp : Pure R vs H Q E) : t { nx := fun _ H' => Q .non H', rt := Q } (L2.start N vs) H := by
  obtain ⟨H0, ds, d, s, a, r, k⟩ := hp
  exact h ds d r H0 H _ _ H ⟨H0, startE_ok s a⟩ k
theorem pureL_run {R : List PyData → List PyData → Prop} {N : List Str} {t : TS} (h : ∀ ds es, R ds es → RL t (startE N.length ds) es) (vs : List V) (H : Hp) (Q : VK) (E : XK) (hp : PureL R vs H Q E) : t { nx := fun _ H' => Q .non H', rt := Q } (L2.start N vs) H := by
  obtain ⟨H0, ds, es, s, a, r, k⟩ := hp
  exact h ds es r H0 H _ _ H ⟨H0, startE_ok s a⟩ k
theorem pure_len {R : List PyData → PyData → Prop} {n : Nat} (h : ∀ ds d, R ds d → ds.length = n) (vs : List V) (H : Hp) (Q : VK) (E : XK) (hp : Pure R vs H Q E) : vs.length = n := by
  obtain ⟨H0, ds, d, s, a, r, k⟩ := hp
  rw [a.len]
  exact h ds d r
theorem pureL_len {R : List PyData → List PyData → Prop} {n : Nat} (h : ∀ ds d, R ds d → ds.length = n) (vs : List V) (H : Hp) (Q : VK) (E : XK) (hp : PureL R vs H Q E) : vs.length = n := by
  obtain ⟨H0, ds, d, s, a, r, k⟩ := hp
  rw [a.len]
  exact h ds d r
/-- a value handed on as it is -/
theorem PureL.imp {R : List PyData → List PyData → Prop} : ∀ vs H Q E, Pure (fun ds d => ∃ es, d = .list es ∧ R ds es) vs H Q E → PureL R vs H Q E := fun vs H Q E ⟨H0, ds, d, s, a, ⟨es, e, r⟩, k⟩ =>
  ⟨H0, ds, es, s, a, r, fun p ws H1 H1' g hp h0 h1 q => by
    subst e
    exact k _ _ _ (g.take hp h0 h1) (.lst upd_same (q.up (same_new h0)))⟩
end
end DD
end

section
set_option Elab.async false
set_option linter.all false
set_option maxRecDepth 100000
set_option maxHeartbeats 4000000
/-! Rules of my own: sorted over data. -/
namespace DD
open PySem PySem.Spec L2 RZ PyProof.Rows PySem.W PySem.Calls

section
variable {prog : Program} {w : World} {A : Around} {E : Value → Shared → Prop} {s : Shared}
/-- sorted(x), however x's items are gathered -/
theorem sorted_gath {x : Value} {vs : List Value} {Q : Value → Shared → Prop}
    (gath : ∀ (P : List Value → Shared → Prop) (E' : Value → Shared → Prop), (∀ (h' : Heap) (tk : Nat), (∀ b o, s.heap.get? b = some o → h'.get? b = some o) → P vs { s with heap := h', toks := tk }) → wpAny (model prog w) A.in1 (collect x) P E' s) (hL : vs.length ≤ sizeLine)
    (S : ∀ (h' : Heap) (tk : Nat), (∀ b o, s.heap.get? b = some o → h'.get? b = some o) → ∃ κ, SortsAt prog w A.in1.in1 { s with heap := sortingHeap (h'.push (seqObj "list" vs.toArray 0)) h'.objs.size vs, toks := tk } κ vs ∧
      Q (.ref h'.objs.size) { s with heap := sortedHeap (h'.push (seqObj "list" vs.toArray 0)) h'.objs.size vs (sortVals κ false vs vs).toArray, toks := tk }) :
    wpAny (model prog w) A (call (.builtin "sorted") [x]) Q E s := by
  refine call_function_entry_kw kind_sorted plain_sorted entry_sorted (args_sorted1 _) ?_
  unfold Builtin.«sorted»
  refine wpAny_bind (m := checkCount "sorted" 1 1 _) (wpAny_pure ?_)
  refine wpAny_bind (gath _ _ fun h' tk keep => ?_)
  obtain ⟨κ, hs, hq⟩ := S h' tk keep
  refine wpAny_bind (wpAny_newList ?_ hL)
  have hnew : (h'.push (seqObj "list" vs.toArray 0)).get? h'.objs.size = some (seqObj "list" vs.toArray 0) := Heap.get?_push_size _ rfl
  show wpAny _ _ _ _ _ { s with heap := h'.push (seqObj "list" vs.toArray 0), toks := tk }
  refine wpAny_bind (wpAny_holding (wpAny_call_entry_kw slot_list_sort ⟨_, hnew, rfl⟩ entry_list_sort ?body (args_list_sort _)))
  case body =>
    show wpAny (model prog w) A.in1.in1 (Builtin.«list.sort» ⟨[.ref h'.objs.size], []⟩) _ _ _
    refine wpAny_mono (list_sort_vals (s := { s with heap := h'.push (seqObj "list" vs.toArray 0), toks := tk }) (P := fun f s' => f = .done (.ret .none) ∧ Q (.ref h'.objs.size) s') hnew hs hL ⟨rfl, hq⟩) (fun f s' hf => ?_) fun _ _ e => e
    obtain ⟨rfl, hq'⟩ := hf
    exact ⟨_, rfl, wpAny_pure ⟨_, rfl, hq'⟩⟩
end

section
variable {X : Cx}
/-- the items of a list or tuple as data, sorted: a new list -/
def rSortQ : List V → Hp → VK → Prop := fun vs H Q => ∃ a xs ds, vs = [.ref a] ∧ (H a = some (.lst xs) ∨ H a = some (.tup xs)) ∧ DqAll H xs ds ∧ AllAlike ds ∧ Sortable ds ∧ ds.length ≤ 100000 ∧ (∀ d ∈ ds, d.depth ≤ 30) ∧
  ∀ (p : Addr) (zs : List (V × PyData)), H p = none → zs.Perm (xs.zip ds) → zs.map (·.2) = ds.mergeSort (dataLe false id) → Q (.ref p) (upd H p (.lst (zs.map (·.1))))

theorem DqAll.of_zip {H : Hp} : ∀ {zs : List (V × PyData)}, (∀ z ∈ zs, Dq H z.1 z.2) → DqAll H (zs.map (·.1)) (zs.map (·.2))
  | [], _ => .nil
  | z :: zs, h => .cons (h z (List.mem_cons_self ..)) (DqAll.of_zip fun y hy => h y (List.mem_cons_of_mem _ hy))
theorem DqAll.zip {H : Hp} : ∀ {xs : List V} {ds : List PyData}, DqAll H xs ds → ∀ z ∈ xs.zip ds, Dq H z.1 z.2
  | _, _, .nil, z, h => by cases h
  | _, _, .cons a t, z, h => by
    rcases List.mem_cons.mp h with e | h
    · rw [e]; exact a
    · exact t.zip z h
theorem vals_each : ∀ {its : List Value} {zs : List (V × PyData)}, EachIs (fun u (b : V × PyData) => RelV b.1 u) its zs → Vals (zs.map (·.1)) its
  | _, _, .nil => .nil
  | _, _, .cons h t => .cons h (vals_each t)
theorem each_vals : ∀ {xs : List V} {its : List Value} {ds : List PyData}, Vals xs its → xs.length = ds.length → EachIs (fun u (b : V × PyData) => RelV b.1 u) its (xs.zip ds)
  | _, _, ds, .nil, hl => by
    cases ds with
    | nil => exact .nil
    | cons d ds => simp at hl
  | _, _, ds, .cons r t, hl => by
    cases ds with
    | nil => simp at hl
    | cons d ds => exact .cons r (each_vals t (by simpa using hl))
/-- behind the gathering all is alike, whatever was walked -/
theorem sort_data {pins : List (Addr × Obj)} {σ : L2.St} {H : Hp} {s : Shared} {u : Value} {its : List Value} {xs : List V} {ds : List PyData} {Q : VK} (hu : X.A.units + 64 < cLine) (I : Inv X pins σ H s)
    (gath : ∀ (P : List Value → Shared → Prop) (E' : Value → Shared → Prop), (∀ (h' : Heap) (tk : Nat), (∀ b o, s.heap.get? b = some o → h'.get? b = some o) → P its { s with heap := h', toks := tk }) → wpAny (model X.prog X.w) X.A.in1 (collect u) P E' s)
    (rv : Vals xs its) (a : DqAll H xs ds) (hal : AllAlike ds) (hk : Sortable ds) (hl : ds.length ≤ 100000) (hd : ∀ d ∈ ds, d.depth ≤ 30) (q : ∀ (p : Addr) (zs : List (V × PyData)), H p = none → zs.Perm (xs.zip ds) → zs.map (·.2) = ds.mergeSort (dataLe false id) → Q (.ref p) (upd H p (.lst (zs.map (·.1))))) :
    wpAny (model X.prog X.w) X.A (call (.builtin "sorted") [u]) (EP X pins σ Q) X.xe s := by
  have hlen : its.length = ds.length := by rw [← rv.length, a.len]
  have hz : ds.length ≤ sizeLine := Nat.le_trans hl (by decide)
  have hmap : (xs.zip ds).map (·.2) = ds := List.map_snd_zip (by rw [a.len]; exact Nat.le_refl _)
  have e1 := each_vals rv a.len
  refine sorted_gath gath (by rw [hlen]; exact hz) fun h' tk keep => ?_
  have keep2 : ∀ b o, s.heap.get? b = some o → (sortingHeap (h'.push (seqObj "list" its.toArray 0)) h'.objs.size its).get? b = some o := fun b o e =>
    sortingHeap_old (Nat.ne_of_lt (Heap.lt_size (keep b o e))) (Heap.get?_push_of_some _ (keep b o e))
  obtain ⟨as, hr⟩ := Dp.readsAll I ds xs its (a.dp _ _) rv
  have er : EachIs (fun v d => ∃ as, Reads (sortingHeap (h'.push (seqObj "list" its.toArray 0)) h'.objs.size its) v d as) its ds := by
    have hr' : ReadsAll s.heap its (ds.map id) as := by rw [List.map_id]; exact hr
    exact (readsAll_each (β := PyData) id hr').mono fun _ _ ⟨as, r⟩ => ⟨as, PyProof.Rows.Reads.keeps keep2 r⟩
  have er2 : EachIs (fun v (b : V × PyData) => ∃ as, Reads (sortingHeap (h'.push (seqObj "list" its.toArray 0)) h'.objs.size its) v b.2 as) its (xs.zip ds) := by
    have z : EachIs (fun v d => ∃ as, Reads (sortingHeap (h'.push (seqObj "list" its.toArray 0)) h'.objs.size its) v d as) its ((xs.zip ds).map (·.2)) := by rw [hmap]; exact er
    exact each_of_map (fun b : V × PyData => b.2) z
  refine ⟨dataKind (sortingHeap (h'.push (seqObj "list" its.toArray 0)) h'.objs.size its) ds, SortsAt.data (s := { s with heap := sortingHeap (h'.push (seqObj "list" its.toArray 0)) h'.objs.size its, toks := tk }) er hal hk (fun d h => ?_), ?_⟩
  · have h30 := hd d h
    show X.A.units + 1 + 1 + d.depth < cLine
    omega
  · have eo := sortVals_data (h' := sortingHeap (h'.push (seqObj "list" its.toArray 0)) h'.objs.size its) (R := fun u (b : V × PyData) => RelV b.1 u) (enc := fun b : V × PyData => b.2) false e1 er2 (by rw [hmap]; exact hal)
    rw [hmap] at eo
    have hms : ((xs.zip ds).mergeSort (dataLe false fun b : V × PyData => b.2)).map (·.2) = ds.mergeSort (dataLe false id) := by
      have z := List.map_mergeSort (r := dataLe false fun b : V × PyData => b.2) (s := dataLe false id) (f := fun b : V × PyData => b.2) (l := xs.zip ds) (fun _ _ _ _ => rfl)
      rw [hmap] at z
      exact z
    have rv2 := vals_each eo
    have I1 : Inv X pins σ H { s with heap := h', toks := tk } := I.kept keep
    have hn : H h'.objs.size = none := I1.hok.fresh (Nat.le_refl _)
    obtain ⟨ep, hat⟩ := sortedHeap_at (vs := its) (n := 0) (out := (sortVals (dataKind (sortingHeap (h'.push (seqObj "list" its.toArray 0)) h'.objs.size its) ds) false its its).toArray) (show (h'.push (seqObj "list" its.toArray 0)).get? h'.objs.size = some (seqObj "list" its.toArray 0) from Heap.get?_push_size _ rfl)
    refine ⟨.ref h'.objs.size, _, I1.laid (a := h'.objs.size) (o := .lst (((xs.zip ds).mergeSort (dataLe false fun b : V × PyData => b.2)).map (·.1))) (t' := tk) (fun b o e => ?_) (Nat.le_refl _) ⟨?_, _, ep, rv2, ?_⟩, rfl, q _ _ hn (List.mergeSort_perm _ _) hms⟩
    · have lt := Heap.lt_size e
      rw [sortedHeap_old (Nat.ne_of_lt lt) (by rw [size_push']; exact Nat.lt_succ_of_lt lt)]
      exact Heap.get?_push_of_some _ e
    · rw [List.length_map, (List.mergeSort_perm _ _).length_eq, List.length_zip, a.len, Nat.min_self]
      exact hz
    · exact hat
theorem cr_sortQ (hu : X.A.units + 64 < cLine) : CallR X (.builtin "sorted") rSortQ := by
  intro pins s σ H vs us Q I r h
  obtain ⟨a, xs, ds, rfl, hx, hd, hal, hk, hl, hdp, q⟩ := h
  rw [Vals.ref1 r]
  have hz : ds.length ≤ sizeLine := Nat.le_trans hl (by decide)
  rcases hx with hx | hx
  · obtain ⟨its, rv, ⟨o, n, ho, hc, _, hdat⟩, _⟩ := I.list (.inl (.inl hx))
    exact sort_data hu I (fun P E' k => wpAny_collect_seq a (.inl rfl) ho hc hdat (fun h' keep => k h' s.toks keep) (by rw [List.size_toArray, ← rv.length, hd.len]; exact hz)) rv hd hal hk hl hdp q
  · obtain ⟨its, rv, ⟨o, ho, hc, n, hdat⟩, _⟩ := I.tuple (.inl (.inl hx))
    exact sort_data hu I (fun P E' k => wpAny_collect_seq a (.inr rfl) ho hc hdat (fun h' keep => k h' s.toks keep) (by rw [List.size_toArray, ← rv.length, hd.len]; exact hz)) rv hd hal hk hl hdp q
/-- by data -/
theorem rc_sortQ {d : PyData} {ds : List PyData} (h : d = .list ds ∨ d = .tuple ds) (hal : AllAlike ds) (hk : Sortable ds) (hl : ds.length ≤ 100000) (hdp : ∀ d ∈ ds, d.depth ≤ 30) : RCL rSortQ [d] (ds.mergeSort (dataLe false id)) := fun xs H0 H s hx Q k => by
  cases hx with
  | cons h1 h2 =>
    cases h2
    rcases h with rfl | rfl
    · obtain ⟨a, ys, rfl, h3, h4⟩ := h1.lst_inv
      refine ⟨a, ys, ds, rfl, .inl (s _ _ h3), h4.up s, hal, hk, hl, hdp, fun p zs hp hw e => k p _ _ _ (.big1 s hp) hp (s.free hp) upd_same ?_⟩
      rw [← e]
      exact DqAll.of_zip fun z hz => h4.zip z (hw.mem_iff.mp hz)
    · obtain ⟨a, ys, rfl, h3, h4⟩ := h1.tup_inv
      refine ⟨a, ys, ds, rfl, .inr (s _ _ h3), h4.up s, hal, hk, hl, hdp, fun p zs hp hw e => k p _ _ _ (.big1 s hp) hp (s.free hp) upd_same ?_⟩
      rw [← e]
      exact DqAll.of_zip fun z hz => h4.zip z (hw.mem_iff.mp hz)
end
end DD
end

section
set_option Elab.async false
set_option linter.all false
set_option maxRecDepth 100000
set_option maxHeartbeats 4000000
/-! for i, x in enumerate(t), t a tuple. -/
namespace DD
open PySem PySem.Spec L2 RZ
open PySem (F.called_enumerate)

theorem meets_enumT (t : Addr) (items : Array Value) :
    Meets (Builtin.«enumerate.__new__» ⟨[.type "enumerate", .ref t], []⟩) (fun _ R s => s.heap.IsTuple t items ∧
      R (.ok (.ret (.ref (s.heap.push { cls := .type "tuple_iterator", data := .fields #[.ref t, .int 0 0] }).objs.size)))
        { s with heap := (s.heap.push { cls := .type "tuple_iterator", data := .fields #[.ref t, .int 0 0] }).push { cls := .type "enumerate", data := .fields #[.none, .bool false, .ref s.heap.objs.size, rawInt 0, .none, .none] } }) :=
  .of_wp fun prog w A R s h => by
    obtain ⟨hp, g, d, tk, os⟩ := s
    obtain ⟨ht, h⟩ := h
    have sb := sub_enumerate
    have tup : ∀ {A' : Around} {E' : Value → Shared → Prop} {Q' : Value → Shared → Prop}, Q' (.ref hp.objs.size) ⟨hp.push { cls := .type "tuple_iterator", data := .fields #[.ref t, .int 0 0] }, g, d, tk, os⟩ → wpAny (model prog w) A' (pyIter (.ref t)) Q' E' ⟨hp, g, d, tk, os⟩ :=
      fun q => (begins_tuple t items).iter prog w _ _ ⟨hp, g, d, tk, os⟩ _ ht q
    wp_walk using tup
    refine wpAny_stack_any fun st => wpAny_pure ?_
    split
    · rename_i c _ _ _ _ _
      cases (c == Value.type "enumerate")
      all_goals
        wp_walk using tup
        exact ⟨_, rfl, h⟩
    · wp_walk using tup
      exact ⟨_, rfl, h⟩
section
variable {prog : Program} {w : World} {A : Around} {E : Value → Shared → Prop} {s : Shared}
theorem call_enumT {t : Addr} {items : Array Value} {Q : Value → Shared → Prop} (ht : s.heap.IsTuple t items)
    (h : ∀ h', IsEnum h' (s.heap.objs.size + 1) s.heap.objs.size 0 .none → h'.IsTupleIter s.heap.objs.size t 0 → (∀ b o, s.heap.get? b = some o → h'.get? b = some o) → Q (.ref (s.heap.objs.size + 1)) { s with heap := h' }) :
    wpAny (model prog w) A (call (.type "enumerate") [.ref t]) Q E s := by
  refine callType_new F.called_enumerate (by decide) (F.typeCall_enumerate_1 _) (F.newCall_enumerate_1 _) (fun obj => F.args_object_init_2 obj _) F.entry_enumerate_new (meets_enumT t items) ⟨ht, ?_⟩
  have size1 : (s.heap.push { cls := .type "tuple_iterator", data := .fields #[.ref t, .int 0 0] }).objs.size = s.heap.objs.size + 1 := Heap.size_push ..
  show _ ∧ _
  rw [size1]
  have made : IsEnum ((s.heap.push { cls := .type "tuple_iterator", data := .fields #[.ref t, .int 0 0] }).push
      { cls := .type "enumerate", data := .fields #[.none, .bool false, .ref s.heap.objs.size, rawInt 0, .none, .none] }) (s.heap.objs.size + 1) s.heap.objs.size 0 .none := by
    have z := Heap.get?_push_size (s.heap.push { cls := .type "tuple_iterator", data := .fields #[.ref t, .int 0 0] })
      (o := { cls := .type "enumerate", data := .fields #[.none, .bool false, .ref s.heap.objs.size, rawInt 0, .none, .none] }) rfl
    rw [size1] at z
    exact z
  exact ⟨⟨_, made, rfl⟩, h _ made ⟨_, Heap.get?_push_of_some _ (Heap.get?_push_size _ rfl), rfl, rfl⟩ fun b o x => Heap.get?_push_of_some _ (Heap.get?_push_of_some _ x)⟩
end

def IteT (K : PySem.W.Frag) (a : Addr) : It :=
  ⟨fun i H => ∃ (xs : List V) (x : V), SqT K H a xs ∧ xs[i]? = some x, fun i H v H' => ∃ T x, v = .ref T ∧ H T = none ∧ H' = upd H T (.tup [.int (i : Nat), x]) ∧ ∀ xs, SqT K H a xs → xs[i]? = some x, fun i H => ∃ xs : List V, SqT K H a xs ∧ xs.length ≤ i⟩
theorem Inv.tup_inj {X : Cx} {pins : List (Addr × Obj)} {σ : St} {H : Hp} {s : Shared} (I : Inv X pins σ H s) {a : Addr} {xs ys : List V} (h1 : SqT X.K H a xs) (h2 : SqT X.K H a ys) : xs = ys := by
  obtain ⟨its, r1, ⟨o, ho, _, n, hd⟩, _⟩ := I.tuple h1
  obtain ⟨its2, r2, ⟨o2, ho2, _, n2, hd2⟩, _⟩ := I.tuple h2
  rw [ho] at ho2
  cases ho2
  rw [hd] at hd2
  have e : its = its2 := by
    have q : its.toArray = its2.toArray := by injection hd2
    simpa using q
  subst e
  exact r1.inj r2
theorem turn_enumT {P : Program} {w : World} {K : PySem.W.Frag} {elts : List Expr} {kk : Nat} {tpos : Pos} (a e it : Addr) :
    Turn P w K (.Tuple elts kk tpos) (IteT K a) [e, it] e (fun i h => (∃ old, IsEnum h e it ((i : Nat) : Int) old) ∧ h.IsTupleIter it a i ∧ e ≠ it) where
  mem := by simp
  obj := fun i h st b hb => by
    obtain ⟨⟨old, he⟩, ⟨o, ho, _, hd⟩, _⟩ := st
    rcases List.mem_cons.mp hb with q | q
    · rw [q]
      exact ⟨_, he, fun v z => nomatch z⟩
    · rw [List.mem_singleton.mp q]
      exact ⟨o, ho, fun v z => by rw [hd] at z; cases z⟩
  keep := fun i h h' st k => by
    obtain ⟨⟨old, he⟩, hi, hn⟩ := st
    exact ⟨⟨old, k e (by simp) _ he⟩, hi.at fun o q => k it (by simp) o q, hn⟩
  item := by
    intro X hP hw hK hc i pins s σ H E I hf st hg
    subst hP hw hK
    obtain ⟨⟨old, he⟩, hit, hne⟩ := st
    obtain ⟨xs, x, hq, hx⟩ := hg
    obtain ⟨its, rv, p, _⟩ := I.tuple hq
    obtain ⟨u, hu, ru⟩ := rv.get hx
    have lte : e < s.heap.objs.size := Heap.lt_size he
    have lti : it < s.heap.objs.size := by obtain ⟨_, q, _⟩ := hit; exact Heap.lt_size q
    have na : a ≠ it := by
      intro z
      obtain ⟨o, ho, _, n, hd⟩ := p
      obtain ⟨o2, ho2, _, hd2⟩ := hit
      rw [z, ho2] at ho
      cases ho
      rw [hd] at hd2
      cases hd2
    have nae : e ∉ [it, a] := by
      intro z
      rcases List.mem_cons.mp z with z | z
      · exact hne z
      · obtain ⟨o, ho, hcl, _⟩ := p
        rw [← List.mem_singleton.mp z, he] at ho
        cases ho
        exact absurd (show Value.type "enumerate" = Value.type "tuple" from hcl) (by decide)
    have hlt : i < its.toArray.size := by
      rw [List.size_toArray]
      exact (List.getElem?_eq_some_iff.mp hu).1
    refine wpAny_pyNext_enum_itemD (Draws.tuple (prog := X.prog) (w := X.w) (A := X.A.in1) (I.ok.hd hc) it a na its.toArray) he ⟨hit, p⟩ hlt hne nae fun x' h' tk hP ho hst' hT hsz hk => ?_
    have ex' : x' = u := by
      have z : its.toArray[i]? = some x' := hP
      rw [List.getElem?_toArray, hu] at z
      exact (Option.some.inj z).symm
    subst ex'
    refine ⟨_, rfl, wpAny_letOwnedTupleGo_enum (s := { s with heap := h', toks := tk + 1 }) ho fun h'' he' sb => ?_⟩
    have hT2 : h''.get? s.heap.objs.size = some { cls := .type "tuple", data := .seq #[.int i tk, x'] } := (sb.2 _ (Nat.ne_of_gt lte)).trans hT
    have new : ObjOk X.prog X.w (upd H s.heap.objs.size (.tup [.int (i : Nat), x])) h'' s.heap.objs.size (.tup [.int (i : Nat), x]) :=
      ⟨by show 2 ≤ sizeLine; decide, [.int i tk, x'], .cons ⟨_, rfl⟩ (.cons ru .nil), ⟨_, hT2, rfl, _, rfl⟩⟩
    have I1 : Inv X pins σ (upd H s.heap.objs.size (.tup [.int (i : Nat), x])) { s with heap := h'', toks := tk + 1 } :=
      I.turnedNew (ch := [e, it]) (fun b ob hb q => (sb.2 b (fun z => hb (by simp [z]))).trans (hk b ob (fun z => hb (by simp [z])) (fun z => hb (by simp [z])) q)) hf (Nat.le_refl _) new
    refine ⟨.ref s.heap.objs.size, _, I1, rfl, ⟨_, x, rfl, I.hok.fresh (Nat.le_refl _), rfl, fun ys hy => by rw [Inv.tup_inj I hy hq]; exact hx⟩, ⟨⟨x', ?_⟩, hst'.1.at fun o q => (sb.2 it (Ne.symm hne)).trans q, hne⟩, fun b hb => ?_⟩
    · have e1 : ((i + 1 : Nat) : Int) = (i : Int) + 1 := by omega
      rw [e1]
      exact he'
    · have below : b < s.heap.objs.size := by
        rcases List.mem_cons.mp hb with z | z
        · rw [z]; exact lte
        · rw [List.mem_singleton.mp z]; exact lti
      rw [upd_ne (Nat.ne_of_lt below)]
      exact (hf b hb).1
  done := by
    intro X hP hw hK hc i pins s σ H E I hf st hg
    subst hP hw hK
    obtain ⟨⟨old, he⟩, hit, hne⟩ := st
    obtain ⟨xs, hq, hx⟩ := hg
    obtain ⟨its, rv, p, _⟩ := I.tuple hq
    obtain ⟨f0, f1, f2, f3, f4, f5⟩ := hf it (by simp)
    have na : a ≠ it := by
      intro z
      obtain ⟨o, ho, _, n, hd⟩ := p
      obtain ⟨o2, ho2, _, hd2⟩ := hit
      rw [z, ho2] at ho
      cases ho
      rw [hd] at hd2
      cases hd2
    have hlen := rv.length
    have T : s.TypeIs (.ref e) "enumerate" := ⟨_, he, rfl⟩
    unfold pyNext
    refine wpAny_bind (wpAny_attempt (wpAny_callSpecial?_slot (name := Str.ofString "__next__") T F.slot_enumerate_next
      (wpAny_call_entry F.slot_enumerate_next T F.entry_enumerate_next ?_ (F.args_enumerate_next_1 _))))
    show wpAny _ _ (field (.ref e) 2 >>= _) _ _ _
    refine wpAny_bind (wpAny_field he rfl (x := .ref it) rfl ?_)
    refine wpAny_bind (wpAny_nextOf_tuple_end (I.ok.hd hc) hit p (by rw [List.getElem?_toArray, List.getElem?_eq_none_iff]; omega) fun h' x' he' hx' => ?_)
    obtain ⟨o, ho, hcl⟩ := hx'
    refine wpAny_bind (wpAny_isInstance (T := "StopIteration") (b := true) ⟨o, ho, hcl⟩ isSubtype_stop ?_)
    exact wpAny_pure ⟨rfl, I.turned (t' := s.toks) (fun b o hb q => he' b o hb q) f0 f1 f3 f4 f5⟩
  self := fun A i s Q E st h => let ⟨⟨_, he⟩, _⟩ := st; wpAny_pyIter_enum he h
def iEnumT (K : PySem.W.Frag) (ta : TA) : TI := fun σ H R => ta σ H fun vs H1 => ∃ a xs, vs = [.ref a] ∧ SqT K H1 a xs ∧ R (IteT K a) H1
theorem pi_enumT {X : Cx} {e : Expr} {ta : TA} {p pos tpos : Pos} {elts : List Expr} {kk : Nat} (hg : Gl X "enumerate") (hm : X.mg "enumerate" = none) (ha : PA X [e] ta) (hs : starEach [e] X.env = [(false, eval e X.env)] := by rfl) :
    PI X (.Tuple elts kk tpos) (.Call (.Name "enumerate" p) [e] [] pos) (iEnumT X.K ta) := by
  refine ⟨fun pins s σ H R I h => ?_⟩
  refine PyProof.Rows.Call_ (ld_blt I hg hm PyProof.Rows.boot_enumerate (PyProof.Rows.callWith_type1 (thn (ha.run pos pins s σ H _ I h) fun us s1 ⟨vs, H1, I1, r1, q1⟩ => ?_) hs rfl))
  obtain ⟨a, xs, ex, hq, q⟩ := q1
  subst ex
  cases r1 with
  | cons r rr =>
    cases rr
    cases r
    obtain ⟨its, rv, p', _⟩ := I1.tuple hq
    refine call_enumT p' fun h' he hit hk => wpAny_pyIter_enum he ?_
    have I2 : Inv X pins σ H1 { s1 with heap := h' } := I1.kept (t' := s1.toks) hk
    refine ⟨s1.heap.objs.size + 1, [s1.heap.objs.size + 1, s1.heap.objs.size], _, _, H1, rfl, I2, turn_enumT a (s1.heap.objs.size + 1) s1.heap.objs.size, ⟨⟨.none, he⟩, hit, Nat.succ_ne_self _⟩, fun b hb => ?_, q⟩
    have above : s1.heap.objs.size ≤ b := by
      rcases List.mem_cons.mp hb with z | z
      · rw [z]; exact Nat.le_add_right _ _
      · rw [List.mem_singleton.mp z]; exact Nat.le_refl _
    exact I1.fpOk above (I1.hok.fresh above)
theorem walk_enumT {K : PySem.W.Frag} {a : Addr} {xs : List V} : Walk (IteT K a) xs.length (fun H => SqT K H a xs) (YPair (fun i => some (.int (i : Nat))) (fun i => xs[i]?)) := by
  refine ⟨fun i _ hi q => ⟨xs, xs[i], q, by simp [hi]⟩, fun _ q => ⟨xs, q, Nat.le_refl _⟩, fun i H v H' _ q y => ?_⟩
  obtain ⟨T, x, h1, h2, h3, h4⟩ := y
  exact ⟨T, .int (i : Nat), x, h1, h2, h3, rfl, h4 xs q⟩
theorem src_enumT {K : PySem.W.Frag} {ρ : Env} {te : TE} {ds : List PyData} (h1 : ED te ρ (.tuple ds)) : SrcD (iEnumT K (tCons te tNil)) ρ (prs (rngD 0 ds.length) ds) := fun σ H0 H s l q R k =>
  h1 σ H0 H s l q _ fun v H1 H1' g q1 => by
    obtain ⟨p, xs, rfl, e1, a1⟩ := q1.tup_inv
    refine ⟨p, xs, rfl, .inl (.inl (g.sub _ _ e1)), k _ H1 H1' g ⟨YPair (fun i => some (.int (i : Nat))) (fun i => xs[i]?), ?_, fun i Hc x Hc' hi y Hb b1 b2 => ?_⟩⟩
    · have e : (prs (rngD 0 ds.length) ds).length = xs.length := by rw [a1.len]; simp [prs, List.length_zip, rngD_len]
      rw [e]
      exact walk_enumT.mono (fun H z => .inl (.inl (z _ _ e1))) (fun _ _ _ _ _ _ y => y)
    · obtain ⟨T, x1, y1, rfl, hT, rfl, g1, g3⟩ := y
      obtain ⟨e, f3, f4⟩ := a1.getV g3
      have pn := pair_new (x := .int (i : Nat)) b2 hT (.int _) (f4.up b1)
      rw [← Option.some.inj g1]
      have hi2 : i < ds.length := (List.getElem?_eq_some_iff.mp f3).1
      refine ⟨_, _, prs_get (rngD_get 0 ds.length i hi2) f3, pn.1, ?_⟩
      rw [Int.zero_add]
      exact pn.2
end DD
end

section
set_option Elab.async false
set_option linter.all false
set_option maxRecDepth 100000
set_option maxHeartbeats 4000000
/-! More rules of my own: in a tuple, isinstance by data, len(set(..)), sets of tuples, an own class raised without a word. -/
namespace DD
open PySem PySem.Spec L2 RZ
open PyProof.Rows (boot_set firstMet firstMet_succ firstMet_any step_dedup args_cons args_nil callWith_builtin1 callWith_type1)

section
variable {X : Cx}
/-! x in t -/
def rInT (K : PySem.W.Frag) : R2 := fun x y H Q => ∃ d ds, Dp K H x d ∧ Dp K H y (.tuple ds) ∧ SeqAt.shaped d = true ∧ SeqAt.shaped (.tuple ds) = true ∧ Q (.bl (ds.any fun z => PyData.eqv z d)) H
def rNiT (K : PySem.W.Frag) : R2 := fun x y H Q => ∃ d ds, Dp K H x d ∧ Dp K H y (.tuple ds) ∧ SeqAt.shaped d = true ∧ SeqAt.shaped (.tuple ds) = true ∧ Q (.bl (!ds.any fun z => PyData.eqv z d)) H
theorem op_inT (hu : X.A.units + 65 < cLine) : OpR X (compareOp .In) (rInT X.K) := by
  intro pins s σ H x y v u Q I rx ry h
  obtain ⟨d, ds, hd, he, sd, se, q⟩ := h
  obtain ⟨_, p1⟩ := Dp.reads I d x v hd rx
  obtain ⟨_, p2⟩ := Dp.reads I (.tuple ds) y u he ry
  exact SeqAt.in_tuple_reads p2 p1 (SeqAt.canLay_of_shaped se) (SeqAt.canLay_of_shaped sd) (PyProof.Rows.room_in_shaped sd hu) ⟨.bl _, H, I, rfl, q⟩
theorem op_niT (hu : X.A.units + 65 < cLine) : OpR X (compareOp .NotIn) (rNiT X.K) := by
  intro pins s σ H x y v u Q I rx ry h
  obtain ⟨d, ds, hd, he, sd, se, q⟩ := h
  obtain ⟨_, p1⟩ := Dp.reads I d x v hd rx
  obtain ⟨_, p2⟩ := Dp.reads I (.tuple ds) y u he ry
  exact SeqAt.notIn_tuple_reads p2 p1 (SeqAt.canLay_of_shaped se) (SeqAt.canLay_of_shaped sd) (PyProof.Rows.room_in_shaped sd hu) ⟨.bl _, H, I, rfl, q⟩
theorem r2_inT {K : PySem.W.Frag} {d : PyData} {ds : List PyData} (h1 : SeqAt.shaped d = true) (h2 : SeqAt.shaped (.tuple ds) = true) : R2D (rInT K) d (.tuple ds) (.bool (ds.any fun z => PyData.eqv z d)) :=
  r2_pure fun x y H hx hy => ⟨.bl _, fun _ => .bl _, fun Q q => ⟨d, ds, hx.dp _ _, hy.dp _ _, h1, h2, q⟩⟩
theorem r2_niT {K : PySem.W.Frag} {d : PyData} {ds : List PyData} (h1 : SeqAt.shaped d = true) (h2 : SeqAt.shaped (.tuple ds) = true) : R2D (rNiT K) d (.tuple ds) (.bool (!ds.any fun z => PyData.eqv z d)) :=
  r2_pure fun x y H hx hy => ⟨.bl _, fun _ => .bl _, fun Q q => ⟨d, ds, hx.dp _ _, hy.dp _ _, h1, h2, q⟩⟩

/-! isinstance by data -/
theorem ed_isi {K : PySem.W.Frag} {ρ : Env} {te : TE} {d : PyData} {n : String} {b : Bool} (h : ED te ρ d) (hb : kitB (tyN d) n = some b) : ED (tCB (rIsi K) (tCons te (tCons (tC (.ty n)) tNil))) ρ (.bool b) := fun σ H0 H s l q Q k =>
  h σ H0 H s l q _ fun v H1 H1' g q1 => ⟨v, .ty n, _, _, b, rfl, .ty n, (q1.up g.sub).ty, kit_ty hb, k _ H1 H1' g (.bl b)⟩
theorem ed_isi2 {K : PySem.W.Frag} {ρ : Env} {te : TE} {d : PyData} {n m : String} {b c : Bool} (h : ED te ρ d) (hb : kitB (tyN d) n = some b) (hc : kitB (tyN d) m = some c) :
    ED (tCB (rIsiT K) (tCons te (tCons (tTup (tCons (tC (.ty n)) (tCons (tC (.ty m)) tNil))) tNil))) ρ (.bool (b || c)) := fun σ H0 H s l q Q k =>
  h σ H0 H s l q _ fun v H1 H1' g q1 => ⟨by show 2 ≤ sizeLine; decide, fun p hp => ⟨v, p, [.ty n, .ty m], _, [.type n, .type m], (b || c), rfl, upd_same, .cons (.ty n) (.cons (.ty m) .nil), ((q1.up g.sub).up (same_new hp)).ty, by
    cases b with
    | true => exact kitAny_cons (kit_ty hb) (fun z => nomatch z) (fun _ => rfl)
    | false => exact kitAny_cons (kit_ty hb) (fun _ => kitAny_cons (kit_ty hc) (fun z => by rw [z]; exact kitAny_nil) (fun z => by rw [z]; rfl)) (fun z => nomatch z), k _ _ _ (g.trans (.big1 g.sub hp)) (.bl _)⟩⟩

/-! len(set(xs)), xs a list of ints -/
def tLenSetG (K : PySem.W.Frag) (ta : TE) : TE := fun σ H Q => ta σ H fun x H1 => ∃ (l : Addr) (ns : List Int), x = V.ref l ∧ SqL K H1 l (ns.map V.int) ∧ ns.length < 64 ∧ Q (.int ((firstMet (fun i => ns.getD i 0) ns.length).length : Nat)) H1
theorem pe_lenSetG {a : Expr} {ta : TE} {p p2 q pos : Pos} (hc : X.calm = true) (hg : Gl X "len") (hm : X.mg "len" = none) (hg2 : Gl X "set") (hm2 : X.mg "set" = none) (ha : PE X a ta)
    (na : starEach [a] X.env = (false, eval a X.env) :: starEach [] X.env := by rfl) : PE X (.Call (.Name "len" p) [.Call (.Name "set" p2) [a] [] q] [] pos) (tLenSetG X.K ta) := by
  refine ⟨fun pins s σ H Q I h => ?_⟩
  refine PyProof.Rows.Call_ (ld_blt I hg hm PySem.boot_len (callWith_builtin1 (args_cons ?_ rfl) rfl rfl))
  refine PyProof.Rows.Call_ (ld_blt I hg2 hm2 boot_set (callWith_type1 (args_cons (thn (ha.run pins s σ H _ I h) fun v s1 ⟨x, H1, I1, r1, q1⟩ => args_nil ?_) na) na rfl))
  obtain ⟨l, ns, rfl, hl, h64, fin⟩ := q1
  cases r1
  obtain ⟨its, r, pl, _⟩ := I1.list hl
  have size : its.toArray.size = ns.length := by rw [List.size_toArray, ← r.length, List.length_map]
  refine call_set_list (I1.ok.hd hc) pl.isList (ns := ns) (by simpa using r.ints) (by unfold scanBound; omega) fun h' tk hS hk => ?_
  rw [size] at hS
  refine args_nil ?_
  have hle := PyProof.Rows.firstMet_length_le (fun i => ns.getD i 0) ns.length
  obtain ⟨o, es, ep, t, ho, hex, hd, _, _, _, hf, hn⟩ := hS
  have I2 : Inv X pins σ H1 { s1 with heap := h', toks := tk } := I1.kept fun b o e => hk b o (Heap.lt_size e) e
  exact call_len_set ho hex hd hf (by rw [hn]; omega) ⟨.int ((firstMet (fun i => ns.getD i 0) ns.length).length : Nat), H1, I2.tok _, ⟨_, by rw [hn]⟩, fin⟩
theorem ed_lenSet {K : PySem.W.Frag} {ρ : Env} {te : TE} {ns : List Int} (h : ED te ρ (.list (ns.map .int))) (hl : ns.length < 64) : ED (tLenSetG K te) ρ (.int ((firstMet (fun i => ns.getD i 0) ns.length).length : Nat)) := fun σ H0 H s l q Q k =>
  h σ H0 H s l q _ fun v H1 H1' g q1 => by
    obtain ⟨a, xs, rfl, h1, h2⟩ := q1.lst_inv
    have e := DqAll.ints_inv ns xs h2
    subst e
    exact ⟨a, ns, rfl, .inl (.inl (g.sub _ _ h1)), hl, k _ H1 H1' g (.int _)⟩
/-- one number is met, exactly if all are alike -/
theorem met_one (ns : List Int) (h0 : 0 < ns.length) : (firstMet (fun i => ns.getD i 0) ns.length).length = 1 ↔ ∀ x ∈ ns, x = ns.getD 0 0 := by
  have hmap : (List.range ns.length).map (fun i => ns.getD i 0) = ns := by
    refine List.ext_getElem (by rw [List.length_map, List.length_range]) fun i h1 h2 => ?_
    rw [List.getElem_map, List.getElem_range, List.getD_eq_getElem?_getD, List.getElem?_eq_getElem h2]
    rfl
  have hany := fun k => firstMet_any (fun i => ns.getD i 0) ns.length k
  rw [hmap] at hany
  have hmem0 : ns.getD 0 0 ∈ ns := by
    rw [List.getD_eq_getElem?_getD, List.getElem?_eq_getElem h0]
    exact List.getElem_mem h0
  constructor
  · intro h x hx
    obtain ⟨c, hc⟩ := List.length_eq_one_iff.mp h
    have key : ∀ y ∈ ns, y = c := fun y hy => by
      have z := hany y
      rw [hc, show (ns.any fun x => x == y) = true from List.any_eq_true.mpr ⟨y, hy, beq_self_eq_true y⟩] at z
      simp only [List.any_cons, List.any_nil, Bool.or_false, beq_iff_eq] at z
      exact z.symm
    rw [key x hx, key _ hmem0]
  · intro h
    have key : ∀ i, 0 < i → i ≤ ns.length → firstMet (fun i => ns.getD i 0) i = [ns.getD 0 0] := by
      intro i
      induction i with
      | zero => intro z; omega
      | succ i ih =>
        intro _ hi
        rw [firstMet_succ]
        by_cases e : i = 0
        · subst e
          rfl
        · rw [ih (by omega) (by omega)]
          have hx : ns.getD i 0 = ns.getD 0 0 := by
            refine h _ ?_
            rw [List.getD_eq_getElem?_getD, List.getElem?_eq_getElem (show i < ns.length by omega)]
            exact List.getElem_mem _
          show step_dedup [ns.getD 0 0] (ns.getD i 0) = _
          rw [hx]
          unfold step_dedup
          simp
    rw [key _ h0 (Nat.le_refl _)]
    rfl

/-! an own class of error, without a word: X() -/
theorem pmk_own0 {C : Addr} {bmB : List Value} {B newId initId : String} {x : Str} {p pos : Pos} (F : ExcBaseFacts B newId initId bmB) (q : PySem.W.excIn X.K C bmB newId = true) (gC : X.mg x = some (.ref C)) (kC : PySem.W.keepIn X.K (.ref C) = true) (r : Raises X (.ref C)) (hg : Gl X x)
    (hdb : (x == ("__debug__" : Str)) = false := by decide) : PMk X (.Call (.Name x p) [] [] pos) (fun _ H Q => Q (.ref C) none H) := by
  intro pins s σ H Q I h
  refine wpAny_Call_Name_kw (ld_glob I hg gC ?_ hdb)
  refine PySem.W.callWith_K0 I.kIn kC ?_
  show wpAny _ _ (call (.ref C) []) _ _ _
  obtain ⟨bm, N, nm, qn, bs, hdct, sn, sub, ab, col, dd, k0, k1, k2, k3, k5, mN, hC, hN, hni, T⟩ := exc_obj I.kIn q
  exact wpAny_call_exc_subT F T hC hN hni (fun h' e hm => mk_of I hm r h (I.hok.gone hm.new)) (Nat.zero_le _)
end
end DD
end

section
set_option Elab.async false
set_option linter.all false
set_option maxRecDepth 100000
set_option maxHeartbeats 8000000
/-! set(t), t a tuple of tuples of ints; sorted(set(t)). -/
namespace DD
open PySem PySem.Spec L2 RZ PyProof.Rows

/-- a set as it is made -/
abbrev blank (w : World) : Obj := { cls := .type "set", dict := none, data := .set #[] 0 (.fresh 0 0 (!w.params.followText "set-order")) }
section
variable {P : Program} {w : World} {A : Around} {E : Value → Shared → Prop} {s : Shared}
theorem none_above {h : Heap} {b : Addr} (hb : h.objs.size ≤ b) : h.get? b = none := by
  cases q : h.get? b with
  | none => rfl
  | some o => exact absurd (Nat.lt_of_lt_of_le (Heap.lt_size q) hb) (Nat.lt_irrefl _)
theorem call_setT {t : Addr} {items : Array Value} (ks : List (Addr × List Int)) {Q : Value → Shared → Prop} (hh : A.handled = none) (ht : s.heap.IsTuple t items) (hit : items.toList = ks.map fun p => Value.ref p.1)
    (hk : ∀ p ∈ ks, IsT P w s.heap p.2 p.1) (hfew : ks.length < 64) (hu : A.units + 3 < cLine)
    (fin : ∀ (h' : Heap) (tk : Nat) L es ep st, SetTR P w h' s.heap.objs.size L es ep st → Got ks ks.length L → (∀ b o, s.heap.get? b = some o → h'.get? b = some o) → Q (.ref s.heap.objs.size) { s with heap := h', toks := tk }) :
    wpAny (model P w) A (call (.type "set") [.ref t]) Q E s := by
  have hsz : items.size = ks.length := by
    have z := congrArg List.length hit
    rwa [Array.length_toList, List.length_map] at z
  obtain ⟨c, tl, f1⟩ := F.called_set.mro
  have f2 := F.called_set.made
  have f3 := F.called_set.sub
  refine wpAny_call (codeAny_of_tree ?_)
  show wpAny _ _ (callAny (.type "set") _) _ _ _
  refine wpAny_pure ⟨Code.quiet_builtin _ (by decide +kernel), codeAny_builtin F.entry_type_call ?_⟩
  rw [Around.under_plain (weight_type_call_type "set" [.ref t] []) rfl]
  have f4 := F.called_set.notType
  have f5 := F.called_set.canCreate
  have f6 := F.typeCall_set_1 (.ref t)
  repeat (any_goals (first | assumption | wp_step))
  refine codeAny_mono (code_set_led1 (.ref t) (E := E) (Q₁ := fun obj s1 => obj = .ref s.heap.objs.size ∧ s1 = { s with heap := s.heap.push (blank w) }) ⟨rfl, rfl⟩) fun r s1 hr => ?_
  cases r with
  | error e => exact hr
  | ok fl =>
    cases fl with
    | ret obj =>
      obtain ⟨rfl, rfl⟩ := hr
      have at0 : (s.heap.push (blank w)).get? s.heap.objs.size = some (blank w) := Heap.get?_push_size _ rfl
      have ty0 : Shared.TypeIs { s with heap := s.heap.push (blank w) } (.ref s.heap.objs.size) "set" := ⟨_, at0, rfl⟩
      have f7 := F.called_set.init.lookup
      have f8 := F.called_set.init.bind (.ref s.heap.objs.size)
      repeat (any_goals (first | assumption | wp_step))
      refine codeAny_mono (codeAny_call_builtin (R := wants (fun r s2 => r = .none ∧ ∃ h' tk L es ep st, s2 = { s with heap := h', toks := tk } ∧ SetTR P w h' s.heap.objs.size L es ep st ∧ Got ks ks.length L ∧
          (∀ b o, s.heap.get? b = some o → h'.get? b = some o)) E) F.called_set.init.plain F.entry_set_init (check_set_init_1 ty0 ?_)) fun r2 s2 hr2 => ?_
      · have lt : t < s.heap.objs.size := by obtain ⟨o, ho, _⟩ := ht; exact Heap.lt_size ho
        have ht1 : (s.heap.push (blank w)).IsTuple t items := ht.push _
        obtain ⟨⟨c0, d0, x0, l0⟩, hol, hc, n, hd⟩ := id ht1
        simp only at hc hd
        subst hc hd
        have g1 := F.sub_tuple_set
        have g2 := F.sub_tuple_frozenset
        have g3 : (Value.type "tuple" == Value.type "dict") = false := by decide
        unfold Builtin.«set.__init__» noKeywords Builtin.Frozenset.updateFrom
        generalize hI : pyIter = iter
        wp_walk
        subst hI
        refine wpAny_pyIter_tuple ht1 ?_
        refine wpAny_bind (wpAny_runValue ?_)
        have size1 : (s.heap.push (blank w)).objs.size = s.heap.objs.size + 1 := Heap.size_push ..
        have hn : A.in1.in1.in1.handled = none := by simp [hh]
        have apart : t ≠ (s.heap.push (blank w)).objs.size := by
          rw [size1]
          exact Nat.ne_of_lt (Nat.lt_succ_of_lt lt)
        have out : s.heap.objs.size ∉ [(s.heap.push (blank w)).objs.size, t] := fun z => by
          rcases List.mem_cons.mp z with z | z
          · rw [size1] at z
            exact absurd z (Nat.ne_of_lt (Nat.lt_succ_self _))
          · exact absurd (List.mem_singleton.mp z) (Nat.ne_of_gt lt)
        refine set_update_tups ((Walks.tuple hn _ t apart items).toS) s.heap.objs.size out ks hsz hfew (fun i v hv => ?_) s.heap hk (none_above (Nat.le_refl _)) (fun b hb => none_above (by
            rw [List.mem_singleton.mp hb, size1]
            exact Nat.le_succ _)) hu (items.size - 0) 0 _ (by omega) (Nat.zero_le _)
          ⟨⟨_, Heap.get?_push_size _ rfl, rfl, rfl⟩, ht1.push _⟩ (fun b o e => Heap.get?_push_of_some _ (Heap.get?_push_of_some _ e)) ⟨[], #[], 0, _, setTR_fresh (Heap.get?_push_of_some _ at0), Got.zero ks⟩ ?last
        · have z : items.toList[i]? = some v := by rw [Array.getElem?_toList]; exact hv
          rw [hit, List.getElem?_map] at z
          obtain ⟨p, h1, h2⟩ := Option.map_eq_some_iff.mp z
          exact ⟨p, h1, h2.symm⟩
        case last =>
          intro s' L es ep st hm hS g' hkp
          obtain ⟨h', gens', drawn', tk', os'⟩ := s'
          have e1 : gens' = s.gens := hm.gens
          have e2 : drawn' = s.drawn := hm.drawn
          have e3 : os' = s.os := hm.os
          subst e1 e2 e3
          show wpAny _ _ _ _ _ _
          refine wpAny_pure ?_
          show wpAny _ _ (ret Value.none) _ _ _
          rw [hsz] at g'
          exact wpAny_pure ⟨rfl, h', tk', L, es, ep, st, rfl, hS, g', hkp⟩
      · cases r2 with
        | error e => exact hr2
        | ok fl2 =>
          cases fl2 with
          | ret r =>
            obtain ⟨rfl, h', tk, L, es, ep, st, rfl, hS, g', hk'⟩ := hr2
            repeat (any_goals (first | assumption | wp_step))
            exact fin _ _ _ _ _ _ hS g' hk'
          | _ => exact hr2.elim
    | _ => exact hr.elim
end
section
variable {X : Cx}
def rSetT (K : PySem.W.Frag) (P : Program) (w : World) : List V → Hp → VK → Prop := fun xs H Q => ∃ (t : Addr) (ks : List (Addr × List Int)), xs = [V.ref t] ∧ SqT K H t (ks.map fun p => V.ref p.1) ∧ (∀ p ∈ ks, SqT K H p.1 (p.2.map V.int)) ∧ ks.length < 64 ∧
  ∀ a L, H a = none → (∀ p ∈ L, p ∈ ks) → (∀ p ∈ ks, p.2 ∈ L.map (·.2)) → Q (.ref a) (upd H a (SetTO P w a L))
theorem cr_setT (hc : X.calm = true) (hu : X.A.units + 64 < cLine) : CallR X (.type "set") (rSetT X.K X.prog X.w) := by
  intro pins s σ H xs us Q I r h
  obtain ⟨t, ks, rfl, hl, hk, hf, q⟩ := h
  rw [Vals.ref1 r]
  obtain ⟨its, rv, pt, _⟩ := I.tuple hl
  have hn : H s.heap.objs.size = none := I.hok.fresh (Nat.le_refl _)
  refine call_setT (P := X.prog) (w := X.w) ks (I.ok.hd hc) pt (by simpa using refs_of_vals rv) (fun p hp => I.isT (hk p hp)) hf (by omega) fun h' tk L es ep st R g k => ?_
  exact ⟨.ref s.heap.objs.size, upd H s.heap.objs.size (SetTO X.prog X.w s.heap.objs.size L), I.laid (t' := tk) k (Nat.le_refl _) (setTO_new R.t0), rfl,
    q _ L hn (fun p hp => List.mem_of_mem_take (g.sub p hp)) fun p hp => g.all p (by rw [List.take_length]; exact hp)⟩
end
end DD
end

section
set_option Elab.async false
set_option linter.all false
set_option maxRecDepth 100000
set_option maxHeartbeats 4000000
/-! A dict with tuple keys: written with one pair, its keys sorted. -/
namespace DD
open PySem PySem.Spec L2 RZ PyProof.Rows PySem.W

section
variable {X : Cx}
/-- {k: v}, k a tuple -/
def tDispT (tk tv : TE) : TE := fun σ H Q => ∀ p, H p = none → tk σ (upd H p (.dT [])) fun x H1 => tv σ H1 fun y H2 => ∃ (a : Addr) (ks : List L2.Key), x = .ref a ∧ H2 a = some (.tup (ks.map kV)) ∧ H2 p = some (.dT []) ∧ Q (.ref p) (upd H2 p (.dT [(ks, y)]))
theorem pe_dispT {k v : Expr} {pos : Pos} {tk tv : TE} (hu : X.A.units + 1 < cLine) (hk : PE X k tk) (hv : PE X v tv) : PE X (.Dict [some k] [v] pos) (tDispT tk tv) := by
  refine ⟨fun pins s σ H Q I q => ?_⟩
  have hn := I.hok.fresh (Nat.le_refl s.heap.objs.size)
  have I1 := I.laid (a := s.heap.objs.size) (o := .dT []) (h' := s.heap.push { cls := .type "dict", data := .dict #[] }) (t' := s.toks) (fun _ _ q => Heap.get?_push_of_some _ q) (Nat.le_refl _) (dt_empty s.heap I.big)
  have pr : PPs X pos [some k] [v] [(tk, tv)] := pps_cons hk hv pps_nil
  rw [arm_eval_Dict, show (evalEachOpt [some k] X.env).zip ((evalEach [v] X.env).map fun v => do let x ← v; standAt pos; pure x) = (pairTrees [some k] [v] X.env pos).map fun p => (some p.1, p.2) from rfl, dictDisplay_pairs _ (by intro z; cases z) (by show 1 < 17; decide)]
  refine wpAny_bind (wpAny_standAt (wpAny_bind (wpAny_subDictH (knd := tupleKind (mixKind X.prog X.w)) (A := X.A) (Q := fun d s' => wpAny (model X.prog X.w) X.A (pure (Value.ref d)) (EP X pins σ Q) X.xe s') (show X.A.units < cLine by omega) (by show 1 ≤ 15; decide)
    (thn (pr.run pins { s with heap := s.heap.push { cls := .type "dict", data := .dict #[] } } σ _ (fun ps H2 => match ps with
      | [(x, y)] => ∃ (a : Addr) (ks : List L2.Key), x = .ref a ∧ H2 a = some (.tup (ks.map kV)) ∧ H2 s.heap.objs.size = some (.dT []) ∧ Q (.ref s.heap.objs.size) (upd H2 s.heap.objs.size (.dT [(ks, y)]))
      | _ => False) I1 (q _ hn)) fun vs s2 ⟨ps, H2, I2, rel, q2⟩ => ?_))))
  rcases ps with _ | ⟨⟨x, y⟩, _ | ⟨p2, more⟩⟩
  · exact q2.elim
  · obtain ⟨a, ks, ex, ea, ed, q2⟩ := q2
    subst ex
    cases rel with
    | @cons _ z0 _ _ r1 r2 =>
      cases r2
      obtain ⟨u, v'⟩ := z0
      obtain ⟨r1, r3⟩ := r1
      cases (show u = Value.ref a from r1)
      obtain ⟨_, lo, xs, rel, dd⟩ := dt_of I2.hok ed
      cases rel
      refine ⟨[(ks, a, v')], ⟨rfl, rfl, key_of I2.hok ea, trivial⟩, dd, fun h' tk' dd' hs => wpAny_pure ⟨.ref s.heap.objs.size, _, ?_, rfl, q2⟩⟩
      obtain ⟨o, es, ep, hq, h2, h3, h4, _, h5⟩ := dd'
      refine d_write I2 (by rw [ed]; exact True.intro) hs ⟨o, hq⟩ ⟨by show 1 ≤ sizeLine; decide, lo, _, .cons ⟨rfl, ?_, r3⟩ .nil, o, es, ep, hq, h2, h3, h4, h5⟩
      rw [upd_ne (ne_of ea ed (fun z => nomatch z))]
      exact ea
  · exact q2.elim

/-- sorted(d): the keys, as data -/
def rSortDT : List V → Hp → VK → Prop := fun vs H Q => ∃ (d : Addr) (kvs : List (List L2.Key × V)) (ds : List PyData), vs = [.ref d] ∧ H d = some (.dT kvs) ∧ AllAlike ds ∧ Sortable ds ∧ ds.length ≤ 100000 ∧ (∀ d ∈ ds, d.depth ≤ 30) ∧
  (∀ bs, IsKeys H kvs bs → DqAll H (bs.map V.ref) ds) ∧ ∀ (p : Addr) (bs : List Addr) (zs : List (V × PyData)), IsKeys H kvs bs → H p = none → zs.Perm ((bs.map V.ref).zip ds) → zs.map (·.2) = ds.mergeSort (dataLe false id) → Q (.ref p) (upd H p (.lst (zs.map (·.1))))
theorem cr_sortDT (hc : X.calm = true) (hu : X.A.units + 64 < cLine) : CallR X (.builtin "sorted") rSortDT := by
  intro pins s σ H vs us Q I r h
  obtain ⟨d, kvs, ds, rfl, hd, hal, hk, hl, hdp, hq, q⟩ := h
  rw [Vals.ref1 r]
  obtain ⟨z, lo, ks, pr, o, es, ep, ho, hx, hdt, he, hn⟩ := (show ObjOk X.prog X.w H s.heap d (.dT kvs) from I.hok d _ hd)
  have keys := isKeys_of pr
  have a := hq _ keys
  have l1 : es.size = ks.length := size_of_entries he
  have rv : Vals ((ks.map fun x => x.2.1).map V.ref) ((ks.map fun x => x.2.1).map Value.ref) := vals_refs _
  refine sort_data hu I (fun P E' k => kdu_collect (A := X.A.in1) (kdl_raw lo hx hdt) (I.ok.hd hc) ho (by rw [l1, ← Paired.length pr]; exact z) fun h' tk acc hkp it => ?_) rv a hal hk hl hdp (fun p zs hp hw e => q p _ zs keys hp hw e)
  have ea : acc.toList = (ks.map fun x => x.2.1).map Value.ref := by
    rw [List.map_map]
    refine List.ext_getElem? fun j => ?_
    rw [List.getElem?_map]
    cases hj : acc.toList[j]? with
    | none =>
      have h1 := List.getElem?_eq_none_iff.mp hj
      rw [Array.length_toList, it.1] at h1
      rw [List.getElem?_eq_none (by omega)]
      rfl
    | some v =>
      obtain ⟨en, hen, hv⟩ := it.2 j v (by rw [← Array.getElem?_toList]; exact hj)
      have qe := entry_at he j
      rw [hen] at qe
      obtain ⟨b, hb, e2⟩ := Option.map_eq_some_iff.mp qe.symm
      rw [hb, hv, ← e2]
      rfl
  rw [ea]
  exact k h' tk hkp
end
end DD
end

section
set_option Elab.async false
set_option linter.all false
set_option maxRecDepth 100000
set_option maxHeartbeats 4000000
/-! The text's defs by place, and what the top has left of them. -/
namespace K4P
open PySem PySem.Spec L2 RZ DD
def topS (i : Nat) : Stmt := PySem.Challenge.pw_eachhandtied_k04_whole_all_trees_and_how.main.body.getD i (.Pass ⟨0, 0, 0, 0⟩)
abbrev FnP (K : PySem.W.Frag) (x : Str) (st : Stmt) (f : Addr) (fd : FuncData) : Prop := FunD K x x (defArgs st) (defBody st) (defScope st) [] [] f fd

abbrev s_is_number : Stmt := topS 4
theorem sc_is_number : FnScope ["thing"] ["thing"] (defScope s_is_number) := ⟨rfl, rfl, rfl, by decide +kernel, rfl, by decide +kernel, by decide +kernel⟩

abbrev s_is_from : Stmt := topS 5
theorem sc_is_from : FnScope ["thing", "least"] ["thing", "least"] (defScope s_is_from) := ⟨rfl, rfl, rfl, by decide +kernel, rfl, by decide +kernel, by decide +kernel⟩

abbrev s_is_long : Stmt := topS 6
theorem sc_is_long : FnScope ["thing", "length"] ["thing", "length"] (defScope s_is_long) := ⟨rfl, rfl, rfl, by decide +kernel, rfl, by decide +kernel, by decide +kernel⟩

abbrev s_tupled : Stmt := topS 7
theorem sc_tupled : FnScope ["value", "own"] ["value"] (defScope s_tupled) := ⟨rfl, rfl, rfl, by decide +kernel, rfl, by decide +kernel, by decide +kernel⟩

abbrev s_ascends : Stmt := topS 8
theorem sc_ascends : FnScope ["row", "k"] ["row"] (defScope s_ascends) := ⟨rfl, rfl, rfl, by decide +kernel, rfl, by decide +kernel, by decide +kernel⟩

abbrev s_are_numbers : Stmt := topS 9
theorem sc_are_numbers : FnScope ["thing", "own"] ["thing"] (defScope s_are_numbers) := ⟨rfl, rfl, rfl, by decide +kernel, rfl, by decide +kernel, by decide +kernel⟩

abbrev s_is_pair : Stmt := topS 11
theorem sc_is_pair : FnScope ["thing"] ["thing"] (defScope s_is_pair) := ⟨rfl, rfl, rfl, by decide +kernel, rfl, by decide +kernel, by decide +kernel⟩

abbrev s_is_tie_of : Stmt := topS 12
theorem sc_is_tie_of : FnScope ["many", "number", "thing"] ["many", "number", "thing"] (defScope s_is_tie_of) := ⟨rfl, rfl, rfl, by decide +kernel, rfl, by decide +kernel, by decide +kernel⟩

abbrev s_marked : Stmt := topS 13
theorem sc_marked : FnScope ["marks", "many", "tie", "near", "far", "own"] ["marks", "many", "tie"] (defScope s_marked) := ⟨rfl, rfl, rfl, by decide +kernel, rfl, by decide +kernel, by decide +kernel⟩

abbrev s_grown_from : Stmt := topS 14
theorem sc_grown_from : FnScope ["marks", "many", "ties", "tie"] ["marks", "many", "ties"] (defScope s_grown_from) := ⟨rfl, rfl, rfl, by decide +kernel, rfl, by decide +kernel, by decide +kernel⟩

abbrev s_hangs_in : Stmt := topS 15
theorem sc_hangs_in : FnScope ["many", "number", "ties"] ["many", "number", "ties"] (defScope s_hangs_in) := ⟨rfl, rfl, rfl, by decide +kernel, rfl, by decide +kernel, by decide +kernel⟩

abbrev s_is_web : Stmt := topS 16
theorem sc_is_web : FnScope ["thing", "own"] ["thing"] (defScope s_is_web) := ⟨rfl, rfl, rfl, by decide +kernel, rfl, by decide +kernel, by decide +kernel⟩

abbrev s_sure_web : Stmt := topS 17
theorem sc_sure_web : FnScope ["web", "own"] ["web"] (defScope s_sure_web) := ⟨rfl, rfl, rfl, by decide +kernel, rfl, by decide +kernel, by decide +kernel⟩

abbrev s_is_tree_in : Stmt := topS 20
theorem sc_is_tree_in : FnScope ["web", "thing", "own"] ["web", "thing"] (defScope s_is_tree_in) := ⟨rfl, rfl, rfl, by decide +kernel, rfl, by decide +kernel, by decide +kernel⟩

abbrev s_some_in : Stmt := topS 21
theorem sc_some_in : FnScope ["web", "found", "marks", "tie", "later"] ["web"] (defScope s_some_in) := ⟨rfl, rfl, rfl, by decide +kernel, rfl, by decide +kernel, by decide +kernel⟩

abbrev s_table_in : Stmt := topS 22
theorem sc_table_in : FnScope ["web", "size", "rows", "hand", "task", "far", "place", "row"] ["web"] (defScope s_table_in) := ⟨rfl, rfl, rfl, by decide +kernel, rfl, by decide +kernel, by decide +kernel⟩

abbrev s_many_in : Stmt := topS 23
theorem sc_many_in : FnScope ["web", "rows", "last", "place", "first", "row", "own", "end"] ["web"] (defScope s_many_in) := ⟨rfl, rfl, rfl, by decide +kernel, rfl, by decide +kernel, by decide +kernel⟩

abbrev s_all_in : Stmt := topS 24
theorem sc_all_in : FnScope ["web", "rows", "place", "tie", "longer", "rest", "tree", "marks", "later", "own"] ["web"] (defScope s_all_in) := ⟨rfl, rfl, rfl, by decide +kernel, rfl, by decide +kernel, by decide +kernel⟩

abbrev s_is_tree : Stmt := topS 25
theorem sc_is_tree : FnScope ["web", "thing"] ["web", "thing"] (defScope s_is_tree) := ⟨rfl, rfl, rfl, by decide +kernel, rfl, by decide +kernel, by decide +kernel⟩

abbrev s_some_tree : Stmt := topS 26
theorem sc_some_tree : FnScope ["web"] ["web"] (defScope s_some_tree) := ⟨rfl, rfl, rfl, by decide +kernel, rfl, by decide +kernel, by decide +kernel⟩

abbrev s_many_trees : Stmt := topS 27
theorem sc_many_trees : FnScope ["web"] ["web"] (defScope s_many_trees) := ⟨rfl, rfl, rfl, by decide +kernel, rfl, by decide +kernel, by decide +kernel⟩

abbrev s_all_trees : Stmt := topS 28
theorem sc_all_trees : FnScope ["web"] ["web"] (defScope s_all_trees) := ⟨rfl, rfl, rfl, by decide +kernel, rfl, by decide +kernel, by decide +kernel⟩

abbrev s_l_box : Stmt := topS 30
theorem sc_l_box : FnScope ["_law_script", "_law_k", "_law_bit_so"] ["_law_script", "_law_k"] (defScope s_l_box) := ⟨rfl, rfl, rfl, by decide +kernel, rfl, by decide +kernel, by decide +kernel⟩

abbrev s_l_take : Stmt := topS 31
theorem sc_l_take : FnScope ["_law_tin", "_law_below_so", "_law_drawn", "_law_once_so", "_law_wide_so", "_law_twice_so"] ["_law_tin", "_law_below_so"] (defScope s_l_take) := ⟨rfl, rfl, rfl, by decide +kernel, rfl, by decide +kernel, by decide +kernel⟩

abbrev s_l_cells : Stmt := topS 32
theorem sc_l_cells : FnScope ["_law_script", "_law_most_so", "_law_cells_so", "_law_k", "_law_bit_so", "_law_at_so"] ["_law_script", "_law_most_so"] (defScope s_l_cells) := ⟨rfl, rfl, rfl, by decide +kernel, rfl, by decide +kernel, by decide +kernel⟩

abbrev s_l_of : Stmt := topS 33
theorem sc_l_of : FnScope ["_law_tin", "_law_goods_so"] ["_law_tin", "_law_goods_so"] (defScope s_l_of) := ⟨rfl, rfl, rfl, by decide +kernel, rfl, by decide +kernel, by decide +kernel⟩

abbrev s_l_pick : Stmt := topS 34
theorem sc_l_pick : FnScope ["_law_tin", "_law_goods_so", "_law_count_so", "_law_pool_so", "_law_found", "_law_lap"] ["_law_tin", "_law_goods_so", "_law_count_so"] (defScope s_l_pick) := ⟨rfl, rfl, rfl, by decide +kernel, rfl, by decide +kernel, by decide +kernel⟩

abbrev s_l_lists : Stmt := topS 35
theorem sc_l_lists : FnScope ["_law_matter", "_law_bit"] ["_law_matter"] (defScope s_l_lists) := ⟨rfl, rfl, rfl, by decide +kernel, rfl, by decide +kernel, by decide +kernel⟩

abbrev s_l_same : Stmt := topS 36
theorem sc_l_same : FnScope ["_law_got", "_law_due", "_law_mine", "_law_its"] ["_law_got", "_law_due"] (defScope s_l_same) := ⟨rfl, rfl, rfl, by decide +kernel, rfl, by decide +kernel, by decide +kernel⟩

abbrev s_l_spoil : Stmt := topS 37
theorem sc_l_spoil : FnScope ["_law_matter"] ["_law_matter"] (defScope s_l_spoil) := ⟨rfl, rfl, rfl, by decide +kernel, rfl, by decide +kernel, by decide +kernel⟩

abbrev s_l_marks : Stmt := topS 38
theorem sc_l_marks : FnScope ["_law_many_so", "_law_pairs_so", "_law_marks_so", "_law_one", "_law_two", "_law_near", "_law_far", "_law_own"] ["_law_many_so", "_law_pairs_so"] (defScope s_l_marks) := ⟨rfl, rfl, rfl, by decide +kernel, rfl, by decide +kernel, by decide +kernel⟩

abbrev s_l_hangs : Stmt := topS 39
theorem sc_l_hangs : FnScope ["_law_net_here", "_law_bonds_so", "_law_marks_so", "_law_own"] ["_law_net_here", "_law_bonds_so"] (defScope s_l_hangs) := ⟨rfl, rfl, rfl, by decide +kernel, rfl, by decide +kernel, by decide +kernel⟩

abbrev s_l_all_trees : Stmt := topS 40
theorem sc_l_all_trees : FnScope ["_law_net_here", "_law_need_so", "_law_found", "_law_k", "_law_bond", "_law_later_so", "_law_left_so", "_law_boughs", "_law_marks_so", "_law_near", "_law_far", "_law_own"] ["_law_net_here"] (defScope s_l_all_trees) := ⟨rfl, rfl, rfl, by decide +kernel, rfl, by decide +kernel, by decide +kernel⟩

abbrev s_l_net : Stmt := topS 41
theorem sc_l_net : FnScope ["_law_tin", "_law_most_so", "_law_m", "_law_n", "_law_bonds_so", "_law_hands_so", "_law_tasks_so", "_law_left_so", "_law_own", "_law_lap"] ["_law_tin", "_law_most_so"] (defScope s_l_net) := ⟨rfl, rfl, rfl, by decide +kernel, rfl, by decide +kernel, by decide +kernel⟩

abbrev s_l_all_tied : Stmt := topS 42
theorem sc_l_all_tied : FnScope ["_law_m", "_law_n", "_law_found", "_law_own", "_law_its"] ["_law_m", "_law_n"] (defScope s_l_all_tied) := ⟨rfl, rfl, rfl, by decide +kernel, rfl, by decide +kernel, by decide +kernel⟩

abbrev s_l_ring : Stmt := topS 43
theorem sc_l_ring : FnScope ["_law_many_so", "_law_found", "_law_own"] ["_law_many_so"] (defScope s_l_ring) := ⟨rfl, rfl, rfl, by decide +kernel, rfl, by decide +kernel, by decide +kernel⟩

abbrev s_l_house : Stmt := topS 44
theorem sc_l_house : FnScope [] [] (defScope s_l_house) := ⟨rfl, rfl, rfl, by decide +kernel, rfl, by decide +kernel, by decide +kernel⟩

abbrev s_l_house_tree : Stmt := topS 45
theorem sc_l_house_tree : FnScope [] [] (defScope s_l_house_tree) := ⟨rfl, rfl, rfl, by decide +kernel, rfl, by decide +kernel, by decide +kernel⟩

abbrev s_l_any_tree : Stmt := topS 46
theorem sc_l_any_tree : FnScope ["_law_tin", "_law_net_here", "_law_marks_so", "_law_found", "_law_bond", "_law_near", "_law_far", "_law_own"] ["_law_tin", "_law_net_here"] (defScope s_l_any_tree) := ⟨rfl, rfl, rfl, by decide +kernel, rfl, by decide +kernel, by decide +kernel⟩

abbrev s_l_heard : Stmt := topS 47
theorem sc_l_heard : FnScope ["_law_net_here", "error"] ["_law_net_here"] (defScope s_l_heard) := ⟨rfl, rfl, rfl, by decide +kernel, rfl, by decide +kernel, by decide +kernel⟩

abbrev s_l_is_bush : Stmt := topS 48
theorem sc_l_is_bush : FnScope ["_law_net_here", "_law_told", "_law_own"] ["_law_net_here", "_law_told"] (defScope s_l_is_bush) := ⟨rfl, rfl, rfl, by decide +kernel, rfl, by decide +kernel, by decide +kernel⟩

abbrev s_l_hand_right : Stmt := topS 49
theorem sc_l_hand_right : FnScope ["_law_turn_so", "_law_house_here", "_law_lone", "_law_got", "_law_due", "_law_round_so", "_law_wide", "_law_six_so", "_law_more_so", "_law_own"] ["_law_turn_so"] (defScope s_l_hand_right) := ⟨rfl, rfl, rfl, by decide +kernel, rfl, by decide +kernel, by decide +kernel⟩

abbrev s_l_right : Stmt := topS 50
theorem sc_l_right : FnScope ["_law_tin", "_law_net_here", "_law_soft", "_law_due", "_law_told", "_law_m", "_law_n", "_law_whole_so", "_law_tail_so", "_law_others_so", "_law_glue_so", "_law_many_so", "_law_own"] ["_law_tin"] (defScope s_l_right) := ⟨rfl, rfl, rfl, by decide +kernel, rfl, by decide +kernel, by decide +kernel⟩

abbrev s_law_ : Stmt := topS 51
theorem sc_law_ : FnScope ["_law_script", "_law_tin"] ["_law_script"] (defScope s_law_) := ⟨rfl, rfl, rfl, by decide +kernel, rfl, by decide +kernel, by decide +kernel⟩

structure Tx (K : PySem.W.Frag) (mg : Str → Option Value) where
  f_is_number : Addr
  d_is_number : FuncData
  F_is_number : FnP K "is_number" s_is_number f_is_number d_is_number
  g_is_number : mg "is_number" = some (.ref f_is_number)
  f_is_from : Addr
  d_is_from : FuncData
  F_is_from : FnP K "is_from" s_is_from f_is_from d_is_from
  g_is_from : mg "is_from" = some (.ref f_is_from)
  f_is_long : Addr
  d_is_long : FuncData
  F_is_long : FnP K "is_long" s_is_long f_is_long d_is_long
  g_is_long : mg "is_long" = some (.ref f_is_long)
  f_tupled : Addr
  d_tupled : FuncData
  F_tupled : FnP K "tupled" s_tupled f_tupled d_tupled
  g_tupled : mg "tupled" = some (.ref f_tupled)
  f_ascends : Addr
  d_ascends : FuncData
  F_ascends : FnP K "ascends" s_ascends f_ascends d_ascends
  g_ascends : mg "ascends" = some (.ref f_ascends)
  f_are_numbers : Addr
  d_are_numbers : FuncData
  F_are_numbers : FnP K "are_numbers" s_are_numbers f_are_numbers d_are_numbers
  g_are_numbers : mg "are_numbers" = some (.ref f_are_numbers)
  f_is_pair : Addr
  d_is_pair : FuncData
  F_is_pair : FnP K "is_pair" s_is_pair f_is_pair d_is_pair
  g_is_pair : mg "is_pair" = some (.ref f_is_pair)
  f_is_tie_of : Addr
  d_is_tie_of : FuncData
  F_is_tie_of : FnP K "is_tie_of" s_is_tie_of f_is_tie_of d_is_tie_of
  g_is_tie_of : mg "is_tie_of" = some (.ref f_is_tie_of)
  f_marked : Addr
  d_marked : FuncData
  F_marked : FnP K "marked" s_marked f_marked d_marked
  g_marked : mg "marked" = some (.ref f_marked)
  f_grown_from : Addr
  d_grown_from : FuncData
  F_grown_from : FnP K "grown_from" s_grown_from f_grown_from d_grown_from
  g_grown_from : mg "grown_from" = some (.ref f_grown_from)
  f_hangs_in : Addr
  d_hangs_in : FuncData
  F_hangs_in : FnP K "hangs_in" s_hangs_in f_hangs_in d_hangs_in
  g_hangs_in : mg "hangs_in" = some (.ref f_hangs_in)
  f_is_web : Addr
  d_is_web : FuncData
  F_is_web : FnP K "is_web" s_is_web f_is_web d_is_web
  g_is_web : mg "is_web" = some (.ref f_is_web)
  f_sure_web : Addr
  d_sure_web : FuncData
  F_sure_web : FnP K "sure_web" s_sure_web f_sure_web d_sure_web
  g_sure_web : mg "sure_web" = some (.ref f_sure_web)
  f_is_tree_in : Addr
  d_is_tree_in : FuncData
  F_is_tree_in : FnP K "is_tree_in" s_is_tree_in f_is_tree_in d_is_tree_in
  g_is_tree_in : mg "is_tree_in" = some (.ref f_is_tree_in)
  f_some_in : Addr
  d_some_in : FuncData
  F_some_in : FnP K "some_in" s_some_in f_some_in d_some_in
  g_some_in : mg "some_in" = some (.ref f_some_in)
  f_table_in : Addr
  d_table_in : FuncData
  F_table_in : FnP K "table_in" s_table_in f_table_in d_table_in
  g_table_in : mg "table_in" = some (.ref f_table_in)
  f_many_in : Addr
  d_many_in : FuncData
  F_many_in : FnP K "many_in" s_many_in f_many_in d_many_in
  g_many_in : mg "many_in" = some (.ref f_many_in)
  f_all_in : Addr
  d_all_in : FuncData
  F_all_in : FnP K "all_in" s_all_in f_all_in d_all_in
  g_all_in : mg "all_in" = some (.ref f_all_in)
  f_is_tree : Addr
  d_is_tree : FuncData
  F_is_tree : FnP K "is_tree" s_is_tree f_is_tree d_is_tree
  g_is_tree : mg "is_tree" = some (.ref f_is_tree)
  f_some_tree : Addr
  d_some_tree : FuncData
  F_some_tree : FnP K "some_tree" s_some_tree f_some_tree d_some_tree
  g_some_tree : mg "some_tree" = some (.ref f_some_tree)
  f_many_trees : Addr
  d_many_trees : FuncData
  F_many_trees : FnP K "many_trees" s_many_trees f_many_trees d_many_trees
  g_many_trees : mg "many_trees" = some (.ref f_many_trees)
  f_all_trees : Addr
  d_all_trees : FuncData
  F_all_trees : FnP K "all_trees" s_all_trees f_all_trees d_all_trees
  g_all_trees : mg "all_trees" = some (.ref f_all_trees)
  f_l_box : Addr
  d_l_box : FuncData
  F_l_box : FnP K "_law_box" s_l_box f_l_box d_l_box
  g_l_box : mg "_law_box" = some (.ref f_l_box)
  f_l_take : Addr
  d_l_take : FuncData
  F_l_take : FnP K "_law_take" s_l_take f_l_take d_l_take
  g_l_take : mg "_law_take" = some (.ref f_l_take)
  f_l_cells : Addr
  d_l_cells : FuncData
  F_l_cells : FnP K "_law_cells" s_l_cells f_l_cells d_l_cells
  g_l_cells : mg "_law_cells" = some (.ref f_l_cells)
  f_l_of : Addr
  d_l_of : FuncData
  F_l_of : FnP K "_law_of" s_l_of f_l_of d_l_of
  g_l_of : mg "_law_of" = some (.ref f_l_of)
  f_l_pick : Addr
  d_l_pick : FuncData
  F_l_pick : FnP K "_law_pick" s_l_pick f_l_pick d_l_pick
  g_l_pick : mg "_law_pick" = some (.ref f_l_pick)
  f_l_lists : Addr
  d_l_lists : FuncData
  F_l_lists : FnP K "_law_lists" s_l_lists f_l_lists d_l_lists
  g_l_lists : mg "_law_lists" = some (.ref f_l_lists)
  f_l_same : Addr
  d_l_same : FuncData
  F_l_same : FnP K "_law_same" s_l_same f_l_same d_l_same
  g_l_same : mg "_law_same" = some (.ref f_l_same)
  f_l_spoil : Addr
  d_l_spoil : FuncData
  F_l_spoil : FnP K "_law_spoil" s_l_spoil f_l_spoil d_l_spoil
  g_l_spoil : mg "_law_spoil" = some (.ref f_l_spoil)
  f_l_marks : Addr
  d_l_marks : FuncData
  F_l_marks : FnP K "_law_marks" s_l_marks f_l_marks d_l_marks
  g_l_marks : mg "_law_marks" = some (.ref f_l_marks)
  f_l_hangs : Addr
  d_l_hangs : FuncData
  F_l_hangs : FnP K "_law_hangs" s_l_hangs f_l_hangs d_l_hangs
  g_l_hangs : mg "_law_hangs" = some (.ref f_l_hangs)
  f_l_all_trees : Addr
  d_l_all_trees : FuncData
  F_l_all_trees : FnP K "_law_all_trees" s_l_all_trees f_l_all_trees d_l_all_trees
  g_l_all_trees : mg "_law_all_trees" = some (.ref f_l_all_trees)
  f_l_net : Addr
  d_l_net : FuncData
  F_l_net : FnP K "_law_net" s_l_net f_l_net d_l_net
  g_l_net : mg "_law_net" = some (.ref f_l_net)
  f_l_all_tied : Addr
  d_l_all_tied : FuncData
  F_l_all_tied : FnP K "_law_all_tied" s_l_all_tied f_l_all_tied d_l_all_tied
  g_l_all_tied : mg "_law_all_tied" = some (.ref f_l_all_tied)
  f_l_ring : Addr
  d_l_ring : FuncData
  F_l_ring : FnP K "_law_ring" s_l_ring f_l_ring d_l_ring
  g_l_ring : mg "_law_ring" = some (.ref f_l_ring)
  f_l_house : Addr
  d_l_house : FuncData
  F_l_house : FnP K "_law_house" s_l_house f_l_house d_l_house
  g_l_house : mg "_law_house" = some (.ref f_l_house)
  f_l_house_tree : Addr
  d_l_house_tree : FuncData
  F_l_house_tree : FnP K "_law_house_tree" s_l_house_tree f_l_house_tree d_l_house_tree
  g_l_house_tree : mg "_law_house_tree" = some (.ref f_l_house_tree)
  f_l_any_tree : Addr
  d_l_any_tree : FuncData
  F_l_any_tree : FnP K "_law_any_tree" s_l_any_tree f_l_any_tree d_l_any_tree
  g_l_any_tree : mg "_law_any_tree" = some (.ref f_l_any_tree)
  f_l_heard : Addr
  d_l_heard : FuncData
  F_l_heard : FnP K "_law_heard" s_l_heard f_l_heard d_l_heard
  g_l_heard : mg "_law_heard" = some (.ref f_l_heard)
  f_l_is_bush : Addr
  d_l_is_bush : FuncData
  F_l_is_bush : FnP K "_law_is_bush" s_l_is_bush f_l_is_bush d_l_is_bush
  g_l_is_bush : mg "_law_is_bush" = some (.ref f_l_is_bush)
  f_l_hand_right : Addr
  d_l_hand_right : FuncData
  F_l_hand_right : FnP K "_law_hand_right" s_l_hand_right f_l_hand_right d_l_hand_right
  g_l_hand_right : mg "_law_hand_right" = some (.ref f_l_hand_right)
  f_l_right : Addr
  d_l_right : FuncData
  F_l_right : FnP K "_law_right" s_l_right f_l_right d_l_right
  g_l_right : mg "_law_right" = some (.ref f_l_right)
  f_law_ : Addr
  d_law_ : FuncData
  F_law_ : FnP K "law" s_law_ f_law_ d_law_
  g_law_ : mg "law" = some (.ref f_law_)
  n_ValueError : mg "ValueError" = none
  n_abs : mg "abs" = none
  n_all : mg "all" = none
  n_bool : mg "bool" = none
  n_enumerate : mg "enumerate" = none
  n_int : mg "int" = none
  n_isinstance : mg "isinstance" = none
  n_len : mg "len" = none
  n_list : mg "list" = none
  n_max : mg "max" = none
  n_min : mg "min" = none
  n_range : mg "range" = none
  n_set : mg "set" = none
  n_sorted : mg "sorted" = none
  n_str : mg "str" = none
  n_tuple : mg "tuple" = none
  n_zip : mg "zip" = none
  t_MOST : Tok
  g_MOST : mg "MOST" = some (.int 2000 t_MOST)
  c_TooMany : Addr
  g_TooMany : mg "TooMany" = some (.ref c_TooMany)
  xP : PySem.W.excIn K c_TooMany [.type "ValueError", .type "Exception", .type "BaseException", .type "object"] "ValueError.__new__" = true
  kP : PySem.W.keepIn K (.ref c_TooMany) = true
  bP : PySem.W.subIn K (.ref c_TooMany) (.type "BaseException") = some true
  tP : PySem.W.typeIn K (.ref c_TooMany) = some (.type "type")
  iP : PySem.W.isClsIn K c_TooMany = true
  sP : PySem.W.subIn K (.ref c_TooMany) (.ref c_TooMany) = some true
  eC : ExcC K c_TooMany
  kE : PySem.W.kitOne K (.ref c_TooMany) (.type "ValueError") = some true
section
variable {K : PySem.W.Frag} {mg : Str → Option Value} (T : Tx K mg)
theorem Tx.b_is_number : Binds K T.d_is_number ["thing"] [] := T.F_is_number.bindsN fun _ _ _ _ _ _ us hl => match us, hl with | [_], _ => rfl
theorem Tx.b_is_from : Binds K T.d_is_from ["thing", "least"] [] := T.F_is_from.bindsN fun _ _ _ _ _ _ us hl => match us, hl with | [_, _], _ => rfl
theorem Tx.b_is_long : Binds K T.d_is_long ["thing", "length"] [] := T.F_is_long.bindsN fun _ _ _ _ _ _ us hl => match us, hl with | [_, _], _ => rfl
theorem Tx.b_tupled : Binds K T.d_tupled ["value"] [] := T.F_tupled.bindsN fun _ _ _ _ _ _ us hl => match us, hl with | [_], _ => rfl
theorem Tx.b_ascends : Binds K T.d_ascends ["row"] [] := T.F_ascends.bindsN fun _ _ _ _ _ _ us hl => match us, hl with | [_], _ => rfl
theorem Tx.b_are_numbers : Binds K T.d_are_numbers ["thing"] [] := T.F_are_numbers.bindsN fun _ _ _ _ _ _ us hl => match us, hl with | [_], _ => rfl
theorem Tx.b_is_pair : Binds K T.d_is_pair ["thing"] [] := T.F_is_pair.bindsN fun _ _ _ _ _ _ us hl => match us, hl with | [_], _ => rfl
theorem Tx.b_is_tie_of : Binds K T.d_is_tie_of ["many", "number", "thing"] [] := T.F_is_tie_of.bindsN fun _ _ _ _ _ _ us hl => match us, hl with | [_, _, _], _ => rfl
theorem Tx.b_marked : Binds K T.d_marked ["marks", "many", "tie"] [] := T.F_marked.bindsN fun _ _ _ _ _ _ us hl => match us, hl with | [_, _, _], _ => rfl
theorem Tx.b_grown_from : Binds K T.d_grown_from ["marks", "many", "ties"] [] := T.F_grown_from.bindsN fun _ _ _ _ _ _ us hl => match us, hl with | [_, _, _], _ => rfl
theorem Tx.b_hangs_in : Binds K T.d_hangs_in ["many", "number", "ties"] [] := T.F_hangs_in.bindsN fun _ _ _ _ _ _ us hl => match us, hl with | [_, _, _], _ => rfl
theorem Tx.b_is_web : Binds K T.d_is_web ["thing"] [] := T.F_is_web.bindsN fun _ _ _ _ _ _ us hl => match us, hl with | [_], _ => rfl
theorem Tx.b_sure_web : Binds K T.d_sure_web ["web"] [] := T.F_sure_web.bindsN fun _ _ _ _ _ _ us hl => match us, hl with | [_], _ => rfl
theorem Tx.b_is_tree_in : Binds K T.d_is_tree_in ["web", "thing"] [] := T.F_is_tree_in.bindsN fun _ _ _ _ _ _ us hl => match us, hl with | [_, _], _ => rfl
theorem Tx.b_some_in : Binds K T.d_some_in ["web"] [] := T.F_some_in.bindsN fun _ _ _ _ _ _ us hl => match us, hl with | [_], _ => rfl
theorem Tx.b_table_in : Binds K T.d_table_in ["web"] [] := T.F_table_in.bindsN fun _ _ _ _ _ _ us hl => match us, hl with | [_], _ => rfl
theorem Tx.b_many_in : Binds K T.d_many_in ["web"] [] := T.F_many_in.bindsN fun _ _ _ _ _ _ us hl => match us, hl with | [_], _ => rfl
theorem Tx.b_all_in : Binds K T.d_all_in ["web"] [] := T.F_all_in.bindsN fun _ _ _ _ _ _ us hl => match us, hl with | [_], _ => rfl
theorem Tx.b_is_tree : Binds K T.d_is_tree ["web", "thing"] [] := T.F_is_tree.bindsN fun _ _ _ _ _ _ us hl => match us, hl with | [_, _], _ => rfl
theorem Tx.b_some_tree : Binds K T.d_some_tree ["web"] [] := T.F_some_tree.bindsN fun _ _ _ _ _ _ us hl => match us, hl with | [_], _ => rfl
theorem Tx.b_many_trees : Binds K T.d_many_trees ["web"] [] := T.F_many_trees.bindsN fun _ _ _ _ _ _ us hl => match us, hl with | [_], _ => rfl
theorem Tx.b_all_trees : Binds K T.d_all_trees ["web"] [] := T.F_all_trees.bindsN fun _ _ _ _ _ _ us hl => match us, hl with | [_], _ => rfl
theorem Tx.b_l_box : Binds K T.d_l_box ["_law_script", "_law_k"] [] := T.F_l_box.bindsN fun _ _ _ _ _ _ us hl => match us, hl with | [_, _], _ => rfl
theorem Tx.b_l_take : Binds K T.d_l_take ["_law_tin", "_law_below_so"] [] := T.F_l_take.bindsN fun _ _ _ _ _ _ us hl => match us, hl with | [_, _], _ => rfl
theorem Tx.b_l_cells : Binds K T.d_l_cells ["_law_script", "_law_most_so"] [] := T.F_l_cells.bindsN fun _ _ _ _ _ _ us hl => match us, hl with | [_, _], _ => rfl
theorem Tx.b_l_of : Binds K T.d_l_of ["_law_tin", "_law_goods_so"] [] := T.F_l_of.bindsN fun _ _ _ _ _ _ us hl => match us, hl with | [_, _], _ => rfl
theorem Tx.b_l_pick : Binds K T.d_l_pick ["_law_tin", "_law_goods_so", "_law_count_so"] [] := T.F_l_pick.bindsN fun _ _ _ _ _ _ us hl => match us, hl with | [_, _, _], _ => rfl
theorem Tx.b_l_lists : Binds K T.d_l_lists ["_law_matter"] [] := T.F_l_lists.bindsN fun _ _ _ _ _ _ us hl => match us, hl with | [_], _ => rfl
theorem Tx.b_l_same : Binds K T.d_l_same ["_law_got", "_law_due"] [] := T.F_l_same.bindsN fun _ _ _ _ _ _ us hl => match us, hl with | [_, _], _ => rfl
theorem Tx.b_l_spoil : Binds K T.d_l_spoil ["_law_matter"] [] := T.F_l_spoil.bindsN fun _ _ _ _ _ _ us hl => match us, hl with | [_], _ => rfl
theorem Tx.b_l_marks : Binds K T.d_l_marks ["_law_many_so", "_law_pairs_so"] [] := T.F_l_marks.bindsN fun _ _ _ _ _ _ us hl => match us, hl with | [_, _], _ => rfl
theorem Tx.b_l_hangs : Binds K T.d_l_hangs ["_law_net_here", "_law_bonds_so"] [] := T.F_l_hangs.bindsN fun _ _ _ _ _ _ us hl => match us, hl with | [_, _], _ => rfl
theorem Tx.b_l_all_trees : Binds K T.d_l_all_trees ["_law_net_here"] [] := T.F_l_all_trees.bindsN fun _ _ _ _ _ _ us hl => match us, hl with | [_], _ => rfl
theorem Tx.b_l_net : Binds K T.d_l_net ["_law_tin", "_law_most_so"] [] := T.F_l_net.bindsN fun _ _ _ _ _ _ us hl => match us, hl with | [_, _], _ => rfl
theorem Tx.b_l_all_tied : Binds K T.d_l_all_tied ["_law_m", "_law_n"] [] := T.F_l_all_tied.bindsN fun _ _ _ _ _ _ us hl => match us, hl with | [_, _], _ => rfl
theorem Tx.b_l_ring : Binds K T.d_l_ring ["_law_many_so"] [] := T.F_l_ring.bindsN fun _ _ _ _ _ _ us hl => match us, hl with | [_], _ => rfl
theorem Tx.b_l_house : Binds K T.d_l_house [] [] := T.F_l_house.bindsN fun _ _ _ _ _ _ us hl => match us, hl with | [], _ => rfl
theorem Tx.b_l_house_tree : Binds K T.d_l_house_tree [] [] := T.F_l_house_tree.bindsN fun _ _ _ _ _ _ us hl => match us, hl with | [], _ => rfl
theorem Tx.b_l_any_tree : Binds K T.d_l_any_tree ["_law_tin", "_law_net_here"] [] := T.F_l_any_tree.bindsN fun _ _ _ _ _ _ us hl => match us, hl with | [_, _], _ => rfl
theorem Tx.b_l_heard : Binds K T.d_l_heard ["_law_net_here"] [] := T.F_l_heard.bindsN fun _ _ _ _ _ _ us hl => match us, hl with | [_], _ => rfl
theorem Tx.b_l_is_bush : Binds K T.d_l_is_bush ["_law_net_here", "_law_told"] [] := T.F_l_is_bush.bindsN fun _ _ _ _ _ _ us hl => match us, hl with | [_, _], _ => rfl
theorem Tx.b_l_hand_right : Binds K T.d_l_hand_right ["_law_turn_so"] [] := T.F_l_hand_right.bindsN fun _ _ _ _ _ _ us hl => match us, hl with | [_], _ => rfl
theorem Tx.b_l_right : Binds K T.d_l_right ["_law_tin"] [] := T.F_l_right.bindsN fun _ _ _ _ _ _ us hl => match us, hl with | [_], _ => rfl
theorem Tx.b_law_ : Binds K T.d_law_ ["_law_script"] [] := T.F_law_.bindsN fun _ _ _ _ _ _ us hl => match us, hl with | [_], _ => rfl
end
end K4P
end

section
set_option Elab.async false
set_option linter.all false
set_option maxRecDepth 100000
set_option maxHeartbeats 4000000
/-! Webs, marks, trees as data. -/
namespace K4P
open PySem PySem.Spec L2 DD K4

abbrev nI (n : Nat) : PyData := .int (n : Int)
def tieD (t : Tie) : PyData := .tuple [nI t.1, nI t.2]
def tieS (t : Tie) : PyData := .list [nI t.1, nI t.2]
def msD (ms : List Nat) : PyData := .list (ms.map nI)
def msT (ms : List Nat) : PyData := .tuple (ms.map nI)
def tiesD (T : List Tie) : PyData := .tuple (T.map tieD)
def tiesS (T : List Tie) : PyData := .list (T.map tieS)
def webD (m n : Nat) (T : List Tie) : PyData := .tuple [nI m, nI n, tiesD T]
def webS (m n : Nat) (T : List Tie) : PyData := .list [nI m, nI n, tiesS T]

theorem lay_map {α : Type} (enc : α → PyData) (h : ∀ a, (enc a).canLay0 = true) : ∀ xs : List α, PyData.canLayAll0 (xs.map enc) = true
  | [] => by simp [PyData.canLayAll0]
  | x :: xs => by simp [PyData.canLayAll0, h x, lay_map enc h xs]
theorem dep_map {α : Type} (enc : α → PyData) (k : Nat) (h : ∀ a, (enc a).depth ≤ k) : ∀ xs : List α, PyData.depthAll (xs.map enc) ≤ k
  | [] => by simp [PyData.depthAll]
  | x :: xs => by
    have h1 := dep_map enc k h xs
    have h2 := h x
    simp only [List.map_cons, PyData.depthAll]
    omega
theorem shaped_of {d : PyData} (h1 : d.canLay0 = true) (h2 : d.depth ≤ 64) : SeqAt.shaped d = true := by
  unfold SeqAt.shaped
  rw [h1, Bool.true_and]
  exact decide_eq_true h2
theorem eqv_map {α : Type} [DecidableEq α] (enc : α → PyData) (h : ∀ a b, PyData.eqv (enc a) (enc b) = decide (a = b)) : ∀ xs ys : List α, PyData.eqvAll (xs.map enc) (ys.map enc) = decide (xs = ys)
  | [], [] => by simp [PyData.eqvAll]
  | [], _ :: _ => by simp [PyData.eqvAll]
  | _ :: _, [] => by simp [PyData.eqvAll]
  | x :: xs, y :: ys => by
    simp only [List.map_cons, PyData.eqvAll, h, eqv_map enc h xs ys, List.cons.injEq, Bool.decide_and]
theorem nI_lay (n : Nat) : (nI n).canLay0 = true := by simp [PyData.canLay0]
theorem nI_dep (n : Nat) : (nI n).depth = 0 := by simp [PyData.depth]
theorem nI_eqv (a b : Nat) : PyData.eqv (nI a) (nI b) = decide (a = b) := by
  simp only [PyData.eqv]
  by_cases h : a = b
  · simp [h]
  · have : ¬ (a : Int) = b := by omega
    simp [h, this]
theorem tieD_lay (t : Tie) : (tieD t).canLay0 = true := by simp [tieD, PyData.canLay0, PyData.canLayAll0]
theorem tieD_dep (t : Tie) : (tieD t).depth ≤ 1 := by simp [tieD, PyData.depth, PyData.depthAll]
theorem tieD_eqv (a b : Tie) : PyData.eqv (tieD a) (tieD b) = decide (a = b) := by
  obtain ⟨a1, a2⟩ := a
  obtain ⟨b1, b2⟩ := b
  simp only [tieD, PyData.eqv, PyData.eqvAll, nI_eqv, Prod.mk.injEq, Bool.decide_and, Bool.and_true]
  by_cases h : a1 = b1
  · by_cases h2 : a2 = b2
    · simp [h, h2]
    · have : ¬ (a2 : Int) = b2 := by omega
      simp [h, h2, this]
  · have : ¬ (a1 : Int) = b1 := by omega
    simp [h, this]
theorem tiesD_lay (T : List Tie) : (tiesD T).canLay0 = true := by
  simp only [tiesD, PyData.canLay0]
  exact lay_map _ tieD_lay T
theorem tiesD_dep (T : List Tie) : (tiesD T).depth ≤ 2 := by
  have := dep_map tieD 1 tieD_dep T
  simp only [tiesD, PyData.depth]
  omega
theorem tiesD_eqv (a b : List Tie) : PyData.eqv (tiesD a) (tiesD b) = decide (a = b) := by
  simp only [tiesD, PyData.eqv]
  exact eqv_map _ tieD_eqv a b
theorem msD_lay (ms : List Nat) : (msD ms).canLay0 = true := by
  simp only [msD, PyData.canLay0]
  exact lay_map _ nI_lay ms
theorem msD_dep (ms : List Nat) : (msD ms).depth ≤ 1 := by
  have := dep_map nI 0 (fun n => Nat.le_of_eq (nI_dep n)) ms
  simp only [msD, PyData.depth]
  omega
theorem msD_eqv (a b : List Nat) : PyData.eqv (msD a) (msD b) = decide (a = b) := by
  simp only [msD, PyData.eqv]
  exact eqv_map _ nI_eqv a b
theorem tieD_sh (t : Tie) : SeqAt.shaped (tieD t) = true := shaped_of (tieD_lay t) (Nat.le_trans (tieD_dep t) (by decide))
theorem tiesD_sh (T : List Tie) : SeqAt.shaped (tiesD T) = true := shaped_of (tiesD_lay T) (Nat.le_trans (tiesD_dep T) (by decide))
theorem msD_sh (ms : List Nat) : SeqAt.shaped (msD ms) = true := shaped_of (msD_lay ms) (Nat.le_trans (msD_dep ms) (by decide))

theorem at_nat {α : Type} {xs : List α} {j : Nat} {v : α} (h : xs[j]? = some v) : atI xs (j : Int) = some v := atI_nat h
theorem at_map {α : Type} (enc : α → PyData) {xs : List α} {j : Nat} {x : α} (h : xs[j]? = some x) : atI (xs.map enc) (j : Int) = some (enc x) := at_nat (by rw [List.getElem?_map, h]; rfl)
theorem mk_get {ms : List Nat} {i : Nat} (h : i < ms.length) : ms[i]? = some (K4.mk ms i) := by
  unfold K4.mk
  rw [List.getD_eq_getElem?_getD, List.getElem?_eq_getElem h]
  rfl
theorem at_ms {ms : List Nat} {i : Nat} (h : i < ms.length) : atI (ms.map nI) (i : Int) = some (nI (K4.mk ms i)) := at_map nI (mk_get h)
theorem nI_beq (a b : Nat) : ((a : Int) == (b : Int)) = decide (a = b) := by
  by_cases h : a = b
  · simp [h]
  · have : ¬ (a : Int) = b := by omega
    simp [h, this]
end K4P
namespace K4P
open PySem PySem.Spec L2 DD K4
theorem ed_tie {ρ : DD.Env} {a b : TE} {t : Tie} (h1 : ED a ρ (nI t.1)) (h2 : ED b ρ (nI t.2)) : ED (tTup (tCons a (tCons b tNil))) ρ (tieD t) := ed_tup (ea_cons h1 (ea_cons h2 ea_nil)) (Nat.le_of_ble_eq_true rfl)
end K4P
end

section
set_option Elab.async false
set_option linter.all false
set_option maxRecDepth 100000
set_option maxHeartbeats 4000000
/-! Ties and trees in order. -/
namespace K4P
open PySem PySem.Spec PySem.W K4 PyProof.Rows
abbrev le1 : Tie → Tie → Bool := dataLe false tieD
abbrev leT : List Tie → List Tie → Bool := dataLe false tiesD
def srt1 (U : List Tie) : List Tie := U.mergeSort le1
def srtT (L : List (List Tie)) : List (List Tie) := L.mergeSort leT
theorem le1_eq (p q : Tie) : le1 p q = decide (p.1 < q.1 ∨ (p.1 = q.1 ∧ p.2 ≤ q.2)) := by
  have h := congrFun (congrFun (dataLe_ii (β := Tie) (fun b => (b.1 : Int)) (fun b => (b.2 : Int))) p) q
  rw [show le1 p q = _ from h]
  refine decide_eq_decide.mpr ?_
  omega
theorem tie_toks (t : Tie) : keyToks (tieD t) = [.inl 1, .inl (t.1 : Int), .inl 1, .inl (t.2 : Int), .inl 0] := by
  simp [tieD, keyToks, keyToksAll]
theorem ties_toks : ∀ (a b : List Tie), keyToksAll (a.map tieD) = keyToksAll (b.map tieD) → a = b
  | [], [], _ => rfl
  | [], b :: bs, h => by simp [keyToksAll] at h
  | a :: as, [], h => by simp [keyToksAll] at h
  | a :: as, b :: bs, h => by
    rw [List.map_cons, List.map_cons, toks_all_cons, toks_all_cons, tie_toks, tie_toks] at h
    simp only [List.cons_append, List.nil_append, List.cons.injEq, true_and, Sum.inl.injEq] at h
    have e1 : a.1 = b.1 := by omega
    have e2 : a.2 = b.2 := by omega
    rw [ties_toks as bs h.2.2, show a = b from Prod.ext e1 e2]
theorem le_anti {α : Type} {k : α → PyData} (hk : ∀ a b, keyToks (k a) = keyToks (k b) → a = b) (x y : α) (h1 : dataLe false k x y = true) (h2 : dataLe false k y x = true) : x = y := by
  have q1 : (!lexLt itemOrd (keyToks (k y)) (keyToks (k x))) = true := h1
  have q2 : (!lexLt itemOrd (keyToks (k x)) (keyToks (k y))) = true := h2
  rw [Bool.not_eq_true'] at q1 q2
  exact hk _ _ (lex_total _ _ q2 q1)
theorem leT_anti (x y : List Tie) (h1 : leT x y = true) (h2 : leT y x = true) : x = y := le_anti (k := tiesD) (fun a b h => ties_toks a b (by simpa only [tiesD, keyToks] using h)) x y h1 h2
theorem le1_anti (x y : Tie) (h1 : le1 x y = true) (h2 : le1 y x = true) : x = y := by
  rw [le1_eq] at h1 h2
  have h1 := of_decide_eq_true h1
  have h2 := of_decide_eq_true h2
  exact Prod.ext (by omega) (by omega)
theorem le_tot {α : Type} (k : α → PyData) : (∀ a b c, dataLe false k a b = true → dataLe false k b c = true → dataLe false k a c = true) ∧ ∀ a b, (dataLe false k a b || dataLe false k b a) = true := by
  have h := sortLe_total (listOrd itemOrd) false fun b => keyToks (k b)
  exact ⟨h.trans, fun a b => by rw [Bool.or_eq_true]; exact h.total a b⟩
theorem srtT_perm (L : List (List Tie)) : (srtT L).Perm L := List.mergeSort_perm _ _
theorem srt1_perm (U : List Tie) : (srt1 U).Perm U := List.mergeSort_perm _ _
theorem srtT_eq {L M : List (List Tie)} (h : L.Perm M) : srtT L = srtT M := by
  have t := le_tot tiesD
  refine List.Perm.eq_of_pairwise (le := fun a b => leT a b = true) (fun a b _ _ => leT_anti a b) (List.pairwise_mergeSort t.1 t.2 L) (List.pairwise_mergeSort t.1 t.2 M) ?_
  exact ((srtT_perm L).trans h).trans (srtT_perm M).symm
theorem srt1_eq {L M : List Tie} (h : L.Perm M) : srt1 L = srt1 M := by
  have t := le_tot tieD
  refine List.Perm.eq_of_pairwise (le := fun a b => le1 a b = true) (fun a b _ _ => le1_anti a b) (List.pairwise_mergeSort t.1 t.2 L) (List.pairwise_mergeSort t.1 t.2 M) ?_
  exact ((srt1_perm L).trans h).trans (srt1_perm M).symm
theorem asc_le {U : List Tie} (h : U.Pairwise ltT) : U.Pairwise fun a b => le1 a b = true := h.imp fun {a b} h => by
  rw [le1_eq]
  refine decide_eq_true ?_
  unfold ltT at h
  omega
theorem srt1_id {U : List Tie} (h : U.Pairwise ltT) : srt1 U = U := by
  have t := le_tot tieD
  exact List.Perm.eq_of_pairwise (le := fun a b => le1 a b = true) (fun a b _ _ => le1_anti a b) (List.pairwise_mergeSort t.1 t.2 U) (asc_le h) (srt1_perm U)
theorem srt1_asc {U : List Tie} (h : U.Nodup) : (srt1 U).Pairwise ltT := by
  have t := le_tot tieD
  have h1 : (srt1 U).Pairwise fun a b => le1 a b = true := List.pairwise_mergeSort t.1 t.2 U
  have h2 : (srt1 U).Nodup := (srt1_perm U).symm.nodup h
  refine (h1.and h2).imp fun {a b} ⟨q1, q2⟩ => ?_
  rw [le1_eq] at q1
  have q1 := of_decide_eq_true q1
  unfold ltT
  by_cases e : a.2 = b.2 ∧ a.1 = b.1
  · exact absurd (Prod.ext e.2 e.1) q2
  · omega
theorem map_srtT (L : List (List Tie)) : (L.map tiesD).mergeSort (dataLe false id) = (srtT L).map tiesD := (List.map_mergeSort (r := leT) (f := tiesD) (fun _ _ _ _ => rfl)).symm
theorem map_srt1 (U : List Tie) : (U.map tieD).mergeSort (dataLe false id) = (srt1 U).map tieD := (List.map_mergeSort (r := le1) (f := tieD) (fun _ _ _ _ => rfl)).symm
theorem asc_nodup {U : List Tie} (h : U.Pairwise ltT) : U.Nodup := h.imp fun {a b} h e => by
  subst e
  unfold ltT at h
  omega
/-- two in order with the same members -/
theorem asc_eq {U W : List Tie} (h1 : U.Pairwise ltT) (h2 : W.Pairwise ltT) (h : ∀ t, t ∈ U ↔ t ∈ W) : U = W := by
  have p : U.Perm W := (List.perm_ext_iff_of_nodup (asc_nodup h1) (asc_nodup h2)).mpr h
  rw [← srt1_id h1, ← srt1_id h2]
  exact srt1_eq p
theorem alike_tie (a b : Tie) : alike (tieD a) (tieD b) = true := by simp [tieD, alike, alikeAll]
theorem alike_ties : ∀ a b : List Tie, alikeAll (a.map tieD) (b.map tieD) = true
  | [], [] => by simp [alikeAll]
  | [], _ :: _ => by simp [alikeAll]
  | _ :: _, [] => by simp [alikeAll]
  | a :: as, b :: bs => by simp [alikeAll, alike_tie, alike_ties as bs]
theorem all_alikeT (L : List (List Tie)) : AllAlike (L.map tiesD) := fun d h d' h' => by
  obtain ⟨a, _, rfl⟩ := List.mem_map.mp h
  obtain ⟨b, _, rfl⟩ := List.mem_map.mp h'
  simp only [tiesD, alike]
  exact alike_ties a b
theorem all_alike1 (L : List Tie) : AllAlike (L.map tieD) := fun d h d' h' => by
  obtain ⟨a, _, rfl⟩ := List.mem_map.mp h
  obtain ⟨b, _, rfl⟩ := List.mem_map.mp h'
  exact alike_tie a b
theorem sortable1 (L : List Tie) : Sortable (L.map tieD) := .inl fun d h => by
  obtain ⟨a, _, rfl⟩ := List.mem_map.mp h
  exact ⟨_, _, rfl⟩
theorem sortableT {L : List (List Tie)} (h : ∀ x ∈ L, x ≠ []) : Sortable (L.map tiesD) := .inl fun d hd => by
  obtain ⟨a, ha, rfl⟩ := List.mem_map.mp hd
  cases a with
  | nil => exact absurd rfl (h _ ha)
  | cons t r => exact ⟨_, _, rfl⟩
theorem depT (L : List (List Tie)) : ∀ d ∈ L.map tiesD, d.depth ≤ 30 := fun d hd => by
  obtain ⟨a, ha, rfl⟩ := List.mem_map.mp hd
  exact Nat.le_trans (tiesD_dep a) (by decide)
theorem dep1 (L : List Tie) : ∀ d ∈ L.map tieD, d.depth ≤ 30 := fun d hd => by
  obtain ⟨a, ha, rfl⟩ := List.mem_map.mp hd
  exact Nat.le_trans (tieD_dep a) (by decide)
end K4P
end

section
set_option Elab.async false
set_option linter.all false
set_option maxRecDepth 100000
set_option maxHeartbeats 4000000
/-! More readings by data. -/
namespace DD
open PySem PySem.Spec L2
section
variable {ρ : Env} {te ta tb tc : TE} {d e z : PyData} {ds es : List PyData} {K : PySem.W.Frag}
theorem rgV_dat {H : Hp} (n : Int) : DqAll H (rgV 0 n) (rngD 0 n.toNat) := by
  have h : rgV 0 n = ((List.range n.toNat).map fun (i : Nat) => (0 : Int) + i).map V.int := by
    unfold rgV
    rw [List.map_map, Int.sub_zero]
    rfl
  have h2 : rngD 0 n.toNat = ((List.range n.toNat).map fun (i : Nat) => (0 : Int) + i).map PyData.int := by
    unfold rngD
    rw [List.map_map]
    rfl
  rw [h, h2]
  exact DqAll.ints _
theorem rngD_nat (n : Nat) : rngD 0 n = (List.range n).map fun (i : Nat) => PyData.int (i : Int) := by
  unfold rngD
  exact List.map_congr_left fun i _ => by rw [Int.zero_add]
theorem el_listRg {n : Int} (h : ED te ρ (.int n)) (hn : 0 ≤ n ∧ n ≤ 100000) : EL (tLstRg (tRg1 te)) ρ (rngD 0 n.toNat) := fun σ H0 H s l q Q k => h σ H0 H s l q _ fun v H1 H1' g q1 =>
  ⟨n, q1.int_inv, RgOk.of_le (Int.le_refl _) (by omega) (by decide) hn.1, fun p hp => k p _ H1 _ (g.trans (.big1 g.sub hp)) (g.big.free hp) (g.sub.free hp) upd_same (rgV_dat n)⟩
theorem ed_tupRg {n : Int} (h : ED te ρ (.int n)) (hn : 0 ≤ n ∧ n ≤ 100000) : ED (tTupRg (tRg1 te)) ρ (.tuple (rngD 0 n.toNat)) := fun σ H0 H s l q Q k => h σ H0 H s l q _ fun v H1 H1' g q1 =>
  ⟨n, q1.int_inv, RgOk.of_le (Int.le_refl _) (by omega) (by decide) hn.1, fun p hp => k _ _ _ (g.trans (.new1 g.sub hp)) (.tup upd_same (rgV_dat n))⟩
theorem r2_rep {k : Int} (hk : 0 ≤ k ∧ k ≤ 100000) (hl : ds.length * k.toNat ≤ 100000) : R2L rRep (.list ds) (.int k) (List.replicate k.toNat ds).flatten := fun x y H0 H s hx hy Q kk => by
  obtain ⟨a, xs, rfl, h1, h2⟩ := hx.lst_inv
  rw [hy.int_inv]
  exact ⟨a, k, xs, rfl, rfl, s _ _ h1, by omega, by omega, by rw [h2.len]; exact Nat.le_trans hl (by decide), fun p hp => kk p _ _ _ (.big1 s hp) hp (s.free hp) upd_same (h2.reps _)⟩
theorem r2_ltT {ns ms : List Int} : R2D (rLtT K) (.tuple (ns.map .int)) (.tuple (ms.map .int)) (.bool (HT.lexLt ns ms)) := r2_pure fun x y H hx hy => ⟨.bl _, fun _ => .bl _, fun Q q => by
  obtain ⟨a, xs, rfl, h1, h2⟩ := hx.tup_inv
  obtain ⟨b, ys, rfl, h3, h4⟩ := hy.tup_inv
  have e1 := h2.ints_inv
  have e2 := h4.ints_inv
  subst e1 e2
  exact ⟨a, b, ns, ms, rfl, rfl, .inl (.inl h1), .inl (.inl h3), q⟩⟩
theorem rc_all {bs : List Bool} : RCD (rAll K) [.list (bs.map .bool)] (.bool (bs.all id)) := fun xs H0 H s hx Q k => by
  cases hx with
  | cons h1 h2 =>
    cases h2
    obtain ⟨a, ys, rfl, h3, h4⟩ := h1.lst_inv
    have e1 := h4.bools_inv
    subst e1
    exact ⟨a, bs, rfl, .inl (.inl (s _ _ h3)), k _ H0 H (.refl s) (.bl _)⟩
theorem rc_abs {i : Int} : RCD (fun xs H Q => ∃ i, xs = [.int i] ∧ Q (.int (if i < 0 then -i else i)) H) [.int i] (.int (if i < 0 then -i else i)) := fun xs H0 H s hx Q k => by
  cases hx with
  | cons h1 h2 =>
    cases h2
    exact ⟨i, by rw [h1.int_inv], k _ H0 H (.refl s) (.int _)⟩
theorem rc_intI {i : Int} : RCD (fun xs H Q => (∃ i, xs = [.int i] ∧ Q (.int i) H) ∨ ∃ k, xs = [.bl k] ∧ Q (.int (if k then 1 else 0)) H) [.int i] (.int i) := fun xs H0 H s hx Q k => by
  cases hx with
  | cons h1 h2 =>
    cases h2
    exact .inl ⟨i, by rw [h1.int_inv], k _ H0 H (.refl s) (.int _)⟩
theorem rc_intB {b : Bool} : RCD (fun xs H Q => (∃ i, xs = [.int i] ∧ Q (.int i) H) ∨ ∃ k, xs = [.bl k] ∧ Q (.int (if k then 1 else 0)) H) [.bool b] (.int (if b then 1 else 0)) := fun xs H0 H s hx Q k => by
  cases hx with
  | cons h1 h2 =>
    cases h2
    exact .inr ⟨b, by rw [h1.bl_inv], k _ H0 H (.refl s) (.int _)⟩
theorem rc_min {i j : Int} : RCD (fun xs H Q => ∃ i j, xs = [.int i, .int j] ∧ Q (.int (if j < i then j else i)) H) [.int i, .int j] (.int (if j < i then j else i)) := fun xs H0 H s hx Q k => by
  cases hx with
  | cons h1 h2 =>
    cases h2 with
    | cons h3 h4 =>
      cases h4
      exact ⟨i, j, by rw [h1.int_inv, h3.int_inv], k _ H0 H (.refl s) (.int _)⟩
theorem rc_max {i j : Int} : RCD (fun xs H Q => ∃ i j, xs = [.int i, .int j] ∧ Q (.int (if j > i then j else i)) H) [.int i, .int j] (.int (if j > i then j else i)) := fun xs H0 H s hx Q k => by
  cases hx with
  | cons h1 h2 =>
    cases h2 with
    | cons h3 h4 =>
      cases h4
      exact ⟨i, j, by rw [h1.int_inv, h3.int_inv], k _ H0 H (.refl s) (.int _)⟩
def isN : PyData → Bool
  | .none => true
  | _ => false
theorem Dq.isN {H : Hp} {v : V} {d : PyData} (h : Dq H v d) : decide (v = .non) = isN d := by
  cases h <;> first | rfl | exact decide_eq_false (fun z => by cases z)
theorem r2_isN : R2D (fun x y H Q => y = .non ∧ Q (.bl (decide (x = .non))) H) d .none (.bool (isN d)) := r2_pure fun x y H hx hy => ⟨.bl _, fun _ => .bl _, fun Q q => ⟨hy.non_inv, by rw [hx.isN]; exact q⟩⟩
theorem ed_chain {r r' : R2} {d1 d2 d3 : PyData} {b c : Bool} (ha : ED ta ρ d1) (hb : ED tb ρ d2) (hc : ED tc ρ d3) (h1 : R2D r d1 d2 (.bool b)) (h2 : R2D r' d2 d3 (.bool c)) : ED (tChain r r' ta tb tc) ρ (.bool (b && c)) := fun σ H0 H s l q Q k =>
  ha σ H0 H s l q _ fun x H1 H1' g1 q1 => hb σ H1 H1' g1.sub l (q.up g1.base) _ fun y H2 H2' g2 q2 => h1 x y H2 H2' g2.sub (q1.up g2.base) q2 _ fun z H3 H3' g3 q3 => ⟨b, q3.bl_inv, by
    cases b with
    | false => exact k _ H3 H3' ((g1.trans g2).trans g3) (.bl _)
    | true => exact hc σ H3 H3' g3.sub l (((q.up g1.base).up g2.base).up g3.base) _ fun w H4 H4' g4 q4 => h2 y w H4 H4' g4.sub ((q2.up g3.base).up g4.base) q4 _ fun u H5 H5' g5 q5 => k u H5 H5' ((((g1.trans g2).trans g3).trans g4).trans g5) q5⟩
/-- a part -/
def cutD {α : Type} (ds : List α) (lo hi : Option Int) : List α := (ds.drop (HT.sIx ds.length 0 lo)).take (HT.sIx ds.length ds.length hi - HT.sIx ds.length 0 lo)
theorem cutD_map {α β : Type} (f : α → β) (ds : List α) (lo hi : Option Int) : cutD (ds.map f) lo hi = (cutD ds lo hi).map f := by
  unfold cutD
  rw [List.map_take, List.map_drop, List.length_map]
theorem cut_from {α : Type} (xs : List α) (k : Nat) : cutD xs (some (k : Int)) none = xs.drop k := by
  unfold cutD
  rw [HT.sIx_nat, HT.sIx_none]
  by_cases h : k ≤ xs.length
  · rw [Nat.min_eq_left h]
    exact List.take_of_length_le (by rw [List.length_drop]; exact Nat.le_refl _)
  · rw [Nat.min_eq_right (by omega), List.drop_length, List.drop_of_length_le (by omega), List.take_nil]
theorem cut_to {α : Type} (xs : List α) (k : Nat) : cutD xs none (some (k : Int)) = xs.take k := by
  unfold cutD
  rw [HT.sIx_nat, HT.sIx_none, List.drop_zero, Nat.sub_zero]
  by_cases h : k ≤ xs.length
  · rw [Nat.min_eq_left h]
  · rw [Nat.min_eq_right (by omega), List.take_length, List.take_of_length_le (by omega)]
theorem DqAll.cut {H : Hp} {vs : List V} (h : DqAll H vs ds) (lo hi : Option Int) : DqAll H (cutV vs lo hi) (cutD ds lo hi) := by
  unfold cutV cutD
  rw [h.len]
  exact (h.drop _).take _
theorem ed_slT {tl th : TO} {lo hi : Option Int} (h : ED te ρ (.tuple ds)) (hl : EO tl ρ lo) (hh : EO th ρ hi) : ED (tSl (rSlA K) te tl th) ρ (.tuple (cutD ds lo hi)) := fun σ H0 H s l q Q k =>
  h σ H0 H s l q _ fun x H1 H1' g1 q1 => hl σ H1 H1' g1.sub l (q.up g1.base) _ fun H2 H2' g2 => hh σ H2 H2' g2.sub l ((q.up g1.base).up g2.base) _ fun H3 H3' g3 => by
    have g := (g1.trans g2).trans g3
    obtain ⟨a, xs, rfl, h1, h2⟩ := ((q1.up g2.base).up g3.base).tup_inv
    refine ⟨a, xs, rfl, .inl (.inl (g3.sub _ _ h1)), fun ⟨e1, e2⟩ => ?_, fun _ p hp => ?_⟩
    · refine k _ H3 H3' g ?_
      have e : cutD ds lo hi = ds := by
        unfold cutD
        rw [← h2.len, e1, e2, List.drop_zero, Nat.sub_zero]
        exact List.take_of_length_le (by rw [h2.len]; exact Nat.le_refl _)
      rw [e]
      exact .tup h1 h2
    · exact k _ _ _ (g.trans (.new1 g.sub hp)) (.tup upd_same ((h2.cut lo hi).up (same_new (g.sub.free hp))))
theorem el_slL {tl th : TO} {lo hi : Option Int} (h : ED te ρ (.list ds)) (hl : EO tl ρ lo) (hh : EO th ρ hi) : EL (tSl (rSlL K) te tl th) ρ (cutD ds lo hi) := fun σ H0 H s l q Q k =>
  h σ H0 H s l q _ fun x H1 H1' g1 q1 => hl σ H1 H1' g1.sub l (q.up g1.base) _ fun H2 H2' g2 => hh σ H2 H2' g2.sub l ((q.up g1.base).up g2.base) _ fun H3 H3' g3 => by
    have g := (g1.trans g2).trans g3
    obtain ⟨a, xs, rfl, h1, h2⟩ := ((q1.up g2.base).up g3.base).lst_inv
    exact ⟨a, xs, rfl, .inl (.inl (g3.sub _ _ h1)), fun p hp => k p _ H3 _ (g.trans (.big1 g.sub hp)) (g.big.free hp) (g.sub.free hp) upd_same (h2.cut lo hi)⟩
end
end DD
namespace DD
open PySem PySem.Spec L2
section
variable {ρ : DD.Env} {te ta tb tc : TE} {d e z : PyData} {ds es : List PyData}
theorem r2_B {g : Int → Int → Bool} {i j : Int} {b : Bool} (h : g i j = b) : R2D (rI0 fun i j => .bl (g i j)) (.int i) (.int j) (.bool b) := h ▸ r2_I0 (fun _ => .bl _)
theorem r2_N {g : Int → Int → Int} {i j k : Int} (h : g i j = k) : R2D (rI0 fun i j => .int (g i j)) (.int i) (.int j) (.int k) := h ▸ r2_I0 (fun _ => .int _)
theorem r2_eqIb {i j : Int} {b : Bool} (h : (i == j) = b) : R2D rEq (.int i) (.int j) (.bool b) := h ▸ r2_eqI
theorem r2_neIb {i j : Int} {b : Bool} (h : (!(i == j)) = b) : R2D rNe (.int i) (.int j) (.bool b) := h ▸ r2_neI
theorem r2_eqDb {K : PySem.W.Frag} {b : Bool} (h1 : SeqAt.shaped d = true) (h2 : SeqAt.shaped e = true) (h : PyData.eqv d e = b) : R2D (rEqD K) d e (.bool b) := h ▸ r2_eqD h1 h2
theorem r2_neDb {K : PySem.W.Frag} {b : Bool} (h1 : SeqAt.shaped d = true) (h2 : SeqAt.shaped e = true) (h : (!PyData.eqv d e) = b) : R2D (rNeD K) d e (.bool b) := h ▸ r2_neD h1 h2
theorem ed_andT (h1 : ED ta ρ (.bool true)) (h2 : ED tb ρ (.bool true)) : ED (tAndV ta tb) ρ (.bool true) := ed_andV (a := true) (b := true) h1 fun _ => h2
theorem ed_notF (h1 : ED ta ρ (.bool false)) : ED (tNotV ta) ρ (.bool true) := ed_notV h1
theorem et_notF {t : TT} (h1 : ET t ρ true) : ET (tNot t) ρ false := et_not h1
theorem et_notT {t : TT} (h1 : ET t ρ false) : ET (tNot t) ρ true := et_not h1
theorem et_orF {t u : TT} (h1 : ET t ρ false) (h2 : ET u ρ false) : ET (tOr t u) ρ false := et_or (a := false) (b := false) h1 fun _ => h2
theorem et_andT {t u : TT} (h1 : ET t ρ true) (h2 : ET u ρ true) : ET (tAnd t u) ρ true := et_and (a := true) (b := true) h1 fun _ => h2
theorem ed_chainT {r r' : R2} {d1 d2 d3 : PyData} (ha : ED ta ρ d1) (hb : ED tb ρ d2) (h1 : R2D r d1 d2 (.bool true)) (hc : ED tc ρ d3) (h2 : R2D r' d2 d3 (.bool true)) : ED (tChain r r' ta tb tc) ρ (.bool true) := ed_chain (b := true) (c := true) ha hb hc h1 h2
theorem rc_allb {K : PySem.W.Frag} {bs : List Bool} {b : Bool} (h : bs.all id = b) : RCD (rAll K) [.list (bs.map .bool)] (.bool b) := h ▸ rc_all
theorem rc_lenN {K : PySem.W.Frag} {k : Int} (h : d = .list ds ∨ d = .tuple ds) (hk : (ds.length : Int) = k) : RCD (fun xs H Q => ∃ p ys, xs = [.ref p] ∧ (SqL K H p ys ∨ SqT K H p ys) ∧ Q (.int ys.length) H) [d] (.int k) := hk ▸ rc_len h
theorem rr_out {t u : TS} {c : TT} (h : ET c ρ false) (h2 : RR u ρ d) : RR (tSeq (tIfS c t tNext) u) ρ d := rr_ifR h (fun z => absurd z Bool.false_ne_true) fun _ => h2
end
end DD
namespace DD
open PySem PySem.Spec L2
def kitQ : String → String → Bool
  | "int", "int" => true | "bool", "bool" => true | "bool", "int" => true | "str", "str" => true | "list", "list" => true | "tuple", "tuple" => true
  | _, _ => false
theorem kits_all : (["int", "bool", "str", "list", "tuple", "NoneType"].all fun x => ["int", "bool", "str", "list", "tuple"].all fun y => kitB x y == some (kitQ x y)) = true := by decide +kernel
/-- classes of data -/
theorem kits (x y : String) (b : Bool) (h : (["int", "bool", "str", "list", "tuple", "NoneType"].contains x && ["int", "bool", "str", "list", "tuple"].contains y && (kitQ x y == b)) = true) : kitB x y = some b := by
  rw [Bool.and_eq_true, Bool.and_eq_true] at h
  have h1 := List.all_eq_true.mp (List.all_eq_true.mp kits_all x (List.contains_iff_mem.mp h.1.1)) y (List.contains_iff_mem.mp h.1.2)
  rw [beq_iff_eq.mp h1, beq_iff_eq.mp h.2]
end DD
namespace DD
open PySem PySem.Spec L2
theorem len_ok {n : Nat} (h : Nat.ble n 100000 = true) : n ≤ 100000 := Nat.le_of_ble_eq_true h
theorem r2_ixTu {K : PySem.W.Frag} {d e z : PyData} (h : R2D (rIxT K) d e z) : R2D (rIxT K) d e z := h
theorem r2_ixLu {K : PySem.W.Frag} {d e z : PyData} (h : R2D (rIxL K) d e z) : R2D (rIxL K) d e z := h
theorem rc_u {r : List V → Hp → VK → Prop} {d z : PyData} (h : RCD r [d] z) : RCD r [d] z := h
end DD
namespace DD
open PySem PySem.Spec L2
theorem fold_take {α β : Type} (f : β → α → β) (s : β) (xs : List α) (i : Nat) (a : α) (h : xs[i]? = some a) : (xs.take (i + 1)).foldl f s = f ((xs.take i).foldl f s) a := by
  rw [List.take_add_one, h, List.foldl_append]
  rfl
/-- a loop whose state is folded -/
theorem rn_forE {α β : Type} {wi : TI} {g : TG} {tb : TS} (enc : α → PyData) (xs : List α) (f : β → α → β) (s0 : β) (ρ : β → DD.Env) (I : Nat → β → Prop) (hs : SrcD wi (ρ s0) (xs.map enc)) (h0 : I 0 s0) (hI : ∀ i a s, xs[i]? = some a → I i s → I (i + 1) (f s a))
    (hb : ∀ i a s, xs[i]? = some a → I i s → ∃ us, TgtD g (enc a) us ∧ RN tb (setE (ρ s) us) (ρ (f s a))) : RN (tFor wi g tb) (ρ s0) (ρ (xs.foldl f s0)) := by
  have hIi : ∀ i, i ≤ xs.length → I i ((xs.take i).foldl f s0) := by
    intro i
    induction i with
    | zero => intro _; rw [List.take_zero]; exact h0
    | succ i ih =>
      intro hi
      have e : xs[i]? = some xs[i] := List.getElem?_eq_getElem (by omega)
      rw [fold_take f s0 xs i _ e]
      exact hI i _ _ e (ih (by omega))
  have h := rn_for (g := g) (tb := tb) (wi := wi) (ρs := fun i => ρ ((xs.take i).foldl f s0)) (ds := xs.map enc) (by show SrcD wi (ρ ((xs.take 0).foldl f s0)) _; rw [List.take_zero]; exact hs) (fun i d hd => by
    rw [List.getElem?_map] at hd
    obtain ⟨a, ha, rfl⟩ := Option.map_eq_some_iff.mp hd
    obtain ⟨us, h1, h2⟩ := hb i a _ ha (hIi i (Nat.le_of_lt (List.getElem?_eq_some_iff.mp ha).1))
    refine ⟨us, h1, ?_⟩
    show RN tb _ (ρ ((xs.take (i + 1)).foldl f s0))
    rw [fold_take f s0 xs i _ ha]
    exact h2)
  have e : ρ ((xs.take (xs.map enc).length).foldl f s0) = ρ (xs.foldl f s0) := by rw [List.take_of_length_le (by rw [List.length_map]; exact Nat.le_refl _)]
  have e0 : ρ ((xs.take 0).foldl f s0) = ρ s0 := by rw [List.take_zero]; rfl
  show RN _ _ _
  rw [← e, ← e0]
  exact h
theorem fold_inv {α β : Type} (f : β → α → β) (I : Nat → β → Prop) (s : β) (xs : List α) (h0 : I 0 s) (hI : ∀ i a s, xs[i]? = some a → I i s → I (i + 1) (f s a)) : I xs.length (xs.foldl f s) := by
  have hIi : ∀ i, i ≤ xs.length → I i ((xs.take i).foldl f s) := by
    intro i
    induction i with
    | zero => intro _; rw [List.take_zero]; exact h0
    | succ i ih =>
      intro hi
      have e : xs[i]? = some xs[i] := List.getElem?_eq_getElem (by omega)
      rw [fold_take f s xs i _ e]
      exact hI i _ _ e (ih (by omega))
  have := hIi xs.length (Nat.le_refl _)
  rw [List.take_length] at this
  exact this
theorem fn_none {P : Program} {w : World} {K : PySem.W.Frag} {mg : Str → Option Value} {base : Heap} {CX : CXT} {k : Nat} {f : Addr} {fd : FuncData} {ps : List Str} : FnOk P w K mg base CX k f fd ps (DD.Pure fun _ _ => False) :=
  ⟨fun _ _ _ _ ⟨_, _, _, _, _, z, _⟩ => z.elim, fun _ _ _ _ _ _ _ _ _ _ _ _ _ ⟨_, _, _, _, _, z, _⟩ => z.elim⟩
end DD
namespace DD
open PySem PySem.Spec L2
def iOr (a b : TI) : TI := fun σ H R => a σ H R ∨ b σ H R
theorem pi_or {X : Cx} {tg l : Expr} {a b : TI} (h1 : PI X tg l a) (h2 : PI X tg l b) : PI X tg l (iOr a b) := ⟨fun pins s σ H R I h => h.elim (h1.run pins s σ H R I) (h2.run pins s σ H R I)⟩
theorem src_or1 {a b : TI} {ρ : DD.Env} {ds : List PyData} (h : SrcD a ρ ds) : SrcD (iOr a b) ρ ds := fun σ H0 H s l q R k => .inl (h σ H0 H s l q R k)
theorem src_or2 {a b : TI} {ρ : DD.Env} {ds : List PyData} (h : SrcD b ρ ds) : SrcD (iOr a b) ρ ds := fun σ H0 H s l q R k => .inr (h σ H0 H s l q R k)
end DD
namespace DD
open PySem PySem.Spec L2
theorem call_lenK {X : Cx} {K : PySem.W.Frag} (h : X.K = K) : CallR X (.builtin "len") (fun xs H Q => ∃ p ys, xs = [.ref p] ∧ (SqL K H p ys ∨ SqT K H p ys) ∧ Q (.int ys.length) H) := h ▸ call_len_seq
theorem call_listK {X : Cx} {K : PySem.W.Frag} (h : X.K = K) : CallR X (.type "list") (fun xs H Q => ∃ p ys, xs = [.ref p] ∧ (SqL K H p ys ∨ SqT K H p ys) ∧ ∀ l, H l = none → Q (.ref l) (upd H l (.lst ys))) := h ▸ call_list_of
theorem call_tupleK {X : Cx} {K : PySem.W.Frag} (h : X.K = K) : CallR X (.type "tuple") (fun xs H Q => ∃ p ys, xs = [.ref p] ∧ ((SqL K H p ys ∧ ∀ l, H l = none → Q (.ref l) (upd H l (.tup ys))) ∨ (SqT K H p ys ∧ Q (.ref p) H))) := h ▸ call_tuple_of
end DD
namespace DD
open PySem PySem.Spec L2
theorem src_rngN {ρ : DD.Env} {ta : TA} {k : Int} {n : Nat} (h : EA ta ρ [.int k]) (hn : k.toNat = n) (hb : -100000 ≤ k ∧ k ≤ 100000) : SrcD (iRng1 ta) ρ ((List.range n).map fun (i : Nat) => PyData.int (i : Int)) := by
  have := src_rng1 h hb
  rw [rngD_nat, hn] at this
  exact this
theorem src_rngN2 {ρ : DD.Env} {ta : TA} {a b : Nat} {k l : Int} (h : EA ta ρ [.int k, .int l]) (ha : k = a) (hl : l = b) (hb : a ≤ 100000 ∧ b ≤ 100000) : SrcD (iRng2 ta) ρ ((List.range (b - a)).map fun (i : Nat) => PyData.int ((a + i : Nat) : Int)) := by
  subst ha hl
  have := src_rng2 h (by omega)
  unfold rngD at this
  rw [show ((b : Int) - a).toNat = b - a by omega] at this
  exact this
end DD
namespace DD
open PySem PySem.Spec L2 RZ
theorem r2_inTb {K : PySem.W.Frag} {d : PyData} {ds : List PyData} {b : Bool} (h1 : SeqAt.shaped d = true) (h2 : SeqAt.shaped (.tuple ds) = true) (h : (ds.any fun z => PyData.eqv z d) = b) : R2D (rInT K) d (.tuple ds) (.bool b) := h ▸ r2_inT h1 h2
theorem r2_niTb {K : PySem.W.Frag} {d : PyData} {ds : List PyData} {b : Bool} (h1 : SeqAt.shaped d = true) (h2 : SeqAt.shaped (.tuple ds) = true) (h : (!ds.any fun z => PyData.eqv z d) = b) : R2D (rNiT K) d (.tuple ds) (.bool b) := h ▸ r2_niT h1 h2
end DD
namespace DD
open PySem PySem.Spec L2
theorem room_un {k : Nat} {A : Around} (n : Nat) (hr : Room k A) (h : Nat.ble n 200 = true) : A.units + n < cLine := by
  have := hr.un
  have := Nat.le_of_ble_eq_true h
  omega
end DD
end

section
set_option Elab.async false
set_option linter.all false
set_option maxRecDepth 100000
set_option maxHeartbeats 4000000
/-! A matrix of ints that the def may change: an own list of own lists. -/
namespace DD
open PySem PySem.Spec L2
abbrev Mx := List (List Int)
structure MatH (H0 H : Hp) (p : Addr) (qs : List Addr) (M : Mx) : Prop where
  top : H p = some (.lst (qs.map V.ref))
  t0 : H0 p = none
  len : qs.length = M.length
  row : ∀ (i : Nat) (q : Addr) (r : List Int), qs[i]? = some q → M[i]? = some r → H q = some (.lst (r.map V.int))
  r0 : ∀ q ∈ qs, H0 q = none
  nd : qs.Nodup
  np : p ∉ qs
theorem MatH.get {H0 H : Hp} {p : Addr} {qs : List Addr} {M : Mx} (m : MatH H0 H p qs M) {i : Nat} {r : List Int} (h : M[i]? = some r) : ∃ q, qs[i]? = some q ∧ q ∈ qs ∧ H q = some (.lst (r.map V.int)) := by
  have hi := (List.getElem?_eq_some_iff.mp h).1
  have e : qs[i]? = some (qs[i]'(by rw [m.len]; exact hi)) := List.getElem?_eq_getElem _
  exact ⟨_, e, List.mem_of_getElem? e, m.row i _ r e h⟩
theorem MatH.more {H0 H H0' H' : Hp} {p : Addr} {qs : List Addr} {M : Mx} (m : MatH H0 H p qs M) (g : Grow H0 H H0' H') : MatH H0' H' p qs M where
  top := g.big _ _ m.top
  t0 := g.out m.t0 m.top
  len := m.len
  row := fun i q r h1 h2 => g.big _ _ (m.row i q r h1 h2)
  r0 := fun q hq => by
    obtain ⟨i, hi, e⟩ := List.mem_iff_getElem.mp hq
    have e1 : qs[i]? = some q := by rw [List.getElem?_eq_getElem hi, e]
    have e2 : M[i]? = some (M[i]'(by rw [← m.len]; exact hi)) := List.getElem?_eq_getElem _
    exact g.out (m.r0 q hq) (m.row i q _ e1 e2)
  nd := m.nd
  np := m.np
theorem MatH.set {H0 H : Hp} {p : Addr} {qs : List Addr} {M : Mx} (m : MatH H0 H p qs M) {i : Nat} {q : Addr} {r r' : List Int} (h1 : qs[i]? = some q) (h2 : M[i]? = some r) : MatH H0 (upd H q (.lst (r'.map V.int))) p qs (M.set i r') where
  top := by
    rw [upd_ne (fun z => m.np (by rw [z]; exact List.mem_of_getElem? h1))]
    exact m.top
  t0 := m.t0
  len := by rw [List.length_set]; exact m.len
  row := fun k q' s e1 e2 => by
    by_cases h : i = k
    · subst h
      rw [h1] at e1
      cases e1
      rw [List.getElem?_set_self (List.getElem?_eq_some_iff.mp h2).1] at e2
      cases e2
      exact upd_same
    · rw [List.getElem?_set_ne h] at e2
      have hne : q' ≠ q := fun z => by
        subst z
        obtain ⟨a1, a2⟩ := List.getElem?_eq_some_iff.mp h1
        obtain ⟨b1, b2⟩ := List.getElem?_eq_some_iff.mp e1
        have nd := List.pairwise_iff_getElem.mp m.nd
        rcases Nat.lt_or_gt_of_ne h with z | z
        · exact nd i k a1 b1 z (a2.trans b2.symm)
        · exact nd k i b1 a1 z (b2.trans a2.symm)
      rw [upd_ne hne]
      exact m.row k q' s e1 e2
  r0 := m.r0
  nd := m.nd
  np := m.np
structure MOkH (Hi0 Hi H0 H : Hp) (σ : St) (ρ : DD.Env) (jm : Nat) (js : List (Nat × Nat)) (M : Mx) (p : Addr) (qs : List Addr) : Prop where
  gr : Grow Hi0 Hi H0 H
  len : σ.length = ρ.length
  dat : DatE H0 σ ρ
  sl : σ[jm]? = some (some (.ref p))
  mt : MatH H0 H p qs M
  hp : Hi p = none
  hq : ∀ q ∈ qs, Hi q = none
  rs : ∀ z ∈ js, ∃ q, qs[z.2]? = some q ∧ σ[z.1]? = some (some (.ref q))
def MOk (Hi0 Hi : Hp) (ρ : DD.Env) (jm : Nat) (js : List (Nat × Nat)) (M : Mx) (σ : St) (H : Hp) : Prop := ∃ H0 p qs, MOkH Hi0 Hi H0 H σ ρ jm js M p qs
def EI (te : TE) (ρ : DD.Env) (jm : Nat) (js : List (Nat × Nat)) (M : Mx) (k : Int) : Prop := ∀ Hi0 Hi H0 H σ p qs, MOkH Hi0 Hi H0 H σ ρ jm js M p qs → ∀ Q : VK, Q (.int k) H → te σ H Q
def ER (te : TE) (ρ : DD.Env) (jm : Nat) (js : List (Nat × Nat)) (M : Mx) (i : Nat) : Prop := ∀ Hi0 Hi H0 H σ p qs, MOkH Hi0 Hi H0 H σ ρ jm js M p qs → ∀ Q : VK, (∀ q, qs[i]? = some q → Q (.ref q) H) → te σ H Q
section
variable {ρ ρ' ρ'' : DD.Env} {jm : Nat} {js js' js'' : List (Nat × Nat)} {M M' M'' : Mx} {te ta tb : TE} {K : PySem.W.Frag}
theorem ei_var {i : Nat} {k : Int} (h : ρ[i]? = some (.dat (.int k))) : EI (tVar i) ρ jm js M k := fun Hi0 Hi H0 H σ p qs m Q q => by
  obtain ⟨v, h1, h2⟩ := m.dat i _ h
  rw [h2.int_inv] at h1
  exact ⟨_, h1, q⟩
theorem ei_int {k : Int} : EI (tC (.int k)) ρ jm js M k := fun Hi0 Hi H0 H σ p qs m Q q => q
theorem ei_op {g : Int → Int → Int} {a b : Int} (h1 : EI ta ρ jm js M a) (h2 : EI tb ρ jm js M b) : EI (tOp (rI0 fun i j => .int (g i j)) ta tb) ρ jm js M (g a b) := fun Hi0 Hi H0 H σ p qs m Q q =>
  h1 Hi0 Hi H0 H σ p qs m _ (h2 Hi0 Hi H0 H σ p qs m _ ⟨a, b, rfl, rfl, q⟩)
theorem ei_opC {C : Int → Int → Prop} {g : Int → Int → Int} {a b : Int} (h1 : EI ta ρ jm js M a) (h2 : EI tb ρ jm js M b) (hc : C a b) : EI (tOp (rI C fun i j => .int (g i j)) ta tb) ρ jm js M (g a b) := fun Hi0 Hi H0 H σ p qs m Q q =>
  h1 Hi0 Hi H0 H σ p qs m _ (h2 Hi0 Hi H0 H σ p qs m _ ⟨a, b, rfl, rfl, hc, q⟩)
theorem ei_neg {k : Int} (h : EI te ρ jm js M k) : EI (tUn (rU fun i => .int (-i)) te) ρ jm js M (-k) := fun Hi0 Hi H0 H σ p qs m Q q => h Hi0 Hi H0 H σ p qs m _ ⟨k, rfl, q⟩
theorem ei_ix {i : Nat} {j k : Int} {r : List Int} (h1 : ER ta ρ jm js M i) (h2 : EI tb ρ jm js M j) (hM : M[i]? = some r) (hj : atI r j = some k) : EI (tOp (rIxL K) ta tb) ρ jm js M k := fun Hi0 Hi H0 H σ p qs m Q q =>
  h1 Hi0 Hi H0 H σ p qs m _ fun q' hq => h2 Hi0 Hi H0 H σ p qs m _ ⟨q', r.map V.int, j, .int k, rfl, rfl, .inl (.inl (m.mt.row i q' r hq hM)), by
    unfold atI at hj ⊢
    rw [List.length_map]
    cases e : ixN r.length j with
    | none => rw [e] at hj; cases hj
    | some n =>
      rw [e] at hj
      have hj : r[n]? = some k := hj
      show (r.map V.int)[n]? = _
      rw [List.getElem?_map, hj]
      rfl, q⟩
theorem er_ix {i : Nat} {j : Int} (h2 : EI tb ρ jm js M j) (hj : ixN M.length j = some i) : ER (tOp (rIxL K) (tVar jm) tb) ρ jm js M i := fun Hi0 Hi H0 H σ p qs m Q q =>
  ⟨_, m.sl, h2 Hi0 Hi H0 H σ p qs m _ (by
    have hi : i < qs.length := by
      rw [m.mt.len]
      exact (ixN_seq hj).2.1
    have e : qs[i]? = some qs[i] := List.getElem?_eq_getElem hi
    refine ⟨p, qs.map V.ref, j, .ref qs[i], rfl, rfl, .inl (.inl m.mt.top), ?_, q _ e⟩
    unfold atI
    rw [List.length_map, m.mt.len, hj]
    show (qs.map V.ref)[i]? = _
    rw [List.getElem?_map, e]
    rfl)⟩
theorem er_slot {s i : Nat} (h : (s, i) ∈ js) : ER (tVar s) ρ jm js M i := fun Hi0 Hi H0 H σ p qs m Q q => by
  obtain ⟨q', h1, h2⟩ := m.rs _ h
  exact ⟨_, h2, q q' h1⟩
theorem ei_len : EI (tCB (fun xs H Q => ∃ p ys, xs = [.ref p] ∧ (SqL K H p ys ∨ SqT K H p ys) ∧ Q (.int ys.length) H) (tCons (tVar jm) tNil)) ρ jm js M (M.length : Nat) := fun Hi0 Hi H0 H σ p qs m Q q =>
  ⟨_, m.sl, p, qs.map V.ref, rfl, .inl (.inl (.inl m.mt.top)), by
    rw [List.length_map, m.mt.len]
    exact q⟩
def RM (t : TS) (ρ : DD.Env) (jm : Nat) (js : List (Nat × Nat)) (M : Mx) (ρ' : DD.Env) (js' : List (Nat × Nat)) (M' : Mx) : Prop := ∀ (Hi0 Hi : Hp) (D : Ends) (σ : St) (H : Hp), MOk Hi0 Hi ρ jm js M σ H → (∀ σ' H', MOk Hi0 Hi ρ' jm js' M' σ' H' → D.nx σ' H') → t D σ H
def RMR (t : TS) (ρ : DD.Env) (jm : Nat) (js : List (Nat × Nat)) (M : Mx) (d : PyData) : Prop := ∀ (Hi0 Hi : Hp) (D : Ends) (σ : St) (H : Hp), MOk Hi0 Hi ρ jm js M σ H → (∀ v H0' H', Grow Hi0 Hi H0' H' → Dq H0' v d → D.rt v H') → t D σ H
variable {t u : TS}
theorem rm_seq (h1 : RM t ρ jm js M ρ' js' M') (h2 : RM u ρ' jm js' M' ρ'' js'' M'') : RM (tSeq t u) ρ jm js M ρ'' js'' M'' := fun Hi0 Hi D σ H o k => h1 Hi0 Hi { D with nx := u D } σ H o fun σ' H' o' => h2 Hi0 Hi D σ' H' o' k
theorem rmr_seq {d : PyData} (h1 : RM t ρ jm js M ρ' js' M') (h2 : RMR u ρ' jm js' M' d) : RMR (tSeq t u) ρ jm js M d := fun Hi0 Hi D σ H o k => h1 Hi0 Hi { D with nx := u D } σ H o fun σ' H' o' => h2 Hi0 Hi D σ' H' o' k
theorem rmr_ret {k : Int} (h : EI te ρ jm js M k) : RMR (tRet te) ρ jm js M (.int k) := fun Hi0 Hi D σ H ⟨H0, p, qs, m⟩ kk => h Hi0 Hi H0 H σ p qs m _ (kk _ H0 H m.gr (.int k))
theorem rm_is (h : RM t ρ jm js M ρ' js' M') (e1 : ρ' = ρ'') (e2 : js' = js'') (e3 : M' = M'') : RM t ρ jm js M ρ'' js'' M'' := e1 ▸ e2 ▸ e3 ▸ h
theorem MOkH.setD {Hi0 Hi H0 H : Hp} {σ : St} {p : Addr} {qs : List Addr} (m : MOkH Hi0 Hi H0 H σ ρ jm js M p qs) {i : Nat} {v : V} {d : PyData} (q : Dq H0 v d) (h1 : i ≠ jm) (h2 : ∀ z ∈ js, z.1 ≠ i) : MOkH Hi0 Hi H0 H (σ.set i (some v)) (ρ.set i (.dat d)) jm js M p qs where
  gr := m.gr
  len := by rw [List.length_set, List.length_set, m.len]
  dat := m.dat.set m.len i q
  sl := by rw [List.getElem?_set_ne h1]; exact m.sl
  mt := m.mt
  hp := m.hp
  hq := m.hq
  rs := fun z hz => by
    rw [List.getElem?_set_ne (Ne.symm (h2 z hz))]
    exact m.rs z hz
theorem MOkH.setS {Hi0 Hi H0 H : Hp} {p : Addr} {qs : List Addr} {ws : List (Nat × V)} {us : List (Nat × PyData)} {σ : St} (mm : Match H0 ws us) (m : MOkH Hi0 Hi H0 H σ ρ jm js M p qs) (h : ∀ u ∈ us, u.1 ≠ jm ∧ ∀ z ∈ js, z.1 ≠ u.1) : MOkH Hi0 Hi H0 H (DD.setS σ ws) (setE ρ us) jm js M p qs := by
  induction mm generalizing σ ρ with
  | nil => exact m
  | cons q mm ih => exact ih (m.setD q (h _ (List.mem_cons_self ..)).1 (h _ (List.mem_cons_self ..)).2) fun u hu => h u (List.mem_cons_of_mem _ hu)
theorem MOkH.more {Hi0 Hi H0 H H0' H' : Hp} {σ : St} {p : Addr} {qs : List Addr} (m : MOkH Hi0 Hi H0 H σ ρ jm js M p qs) (g : Grow H0 H H0' H') : MOkH Hi0 Hi H0' H' σ ρ jm js M p qs where
  gr := m.gr.trans g
  len := m.len
  dat := m.dat.up g.base
  sl := m.sl
  mt := m.mt.more g
  hp := m.hp
  hq := m.hq
  rs := m.rs
theorem rm_int {i : Nat} {k : Int} (h : EI te ρ jm js M k) (h1 : i ≠ jm) (h2 : ∀ z ∈ js, z.1 ≠ i) : RM (tAsg te (gName i)) ρ jm js M (ρ.set i (.dat (.int k))) js M := fun Hi0 Hi D σ H ⟨H0, p, qs, m⟩ kk =>
  h Hi0 Hi H0 H σ p qs m _ (kk _ _ ⟨H0, p, qs, m.setD (.int k) h1 h2⟩)
theorem rm_asg {i : Nat} {d : PyData} (h : ED te ρ d) (h1 : i ≠ jm) (h2 : ∀ z ∈ js, z.1 ≠ i) : RM (tAsg te (gName i)) ρ jm js M (ρ.set i (.dat d)) js M := fun Hi0 Hi D σ H ⟨H0, p, qs, m⟩ kk =>
  h σ H0 H m.gr.sub m.len m.dat _ fun v H1 H1' g q => kk _ _ ⟨H1, p, qs, (m.more g).setD q h1 h2⟩
theorem rm_row {s i : Nat} (h : ER te ρ jm js M i) (hi : i < M.length) (h1 : s ≠ jm) (hs : s < ρ.length) (h2 : ∀ z ∈ js', z = (s, i) ∨ (z ∈ js ∧ z.1 ≠ s)) : RM (tAsg te (gName s)) ρ jm js M (ρ.set s .no) js' M := fun Hi0 Hi D σ H ⟨H0, p, qs, m⟩ kk =>
  h Hi0 Hi H0 H σ p qs m _ fun q hq => kk _ _ ⟨H0, p, qs, {
    gr := m.gr
    len := by rw [List.length_set, List.length_set, m.len]
    dat := m.dat.setNo s _ _ (fun _ z => nomatch z)
    sl := by rw [List.getElem?_set_ne h1]; exact m.sl
    mt := m.mt
    hp := m.hp
    hq := m.hq
    rs := fun z hz => by
      rcases h2 z hz with rfl | ⟨hz, hne⟩
      · exact ⟨q, hq, List.getElem?_set_self (by rw [m.len]; exact hs)⟩
      · rw [List.getElem?_set_ne (Ne.symm hne)]
        exact m.rs z hz }⟩
theorem rm_drop (h : RM t ρ jm js M ρ' js' M') (h2 : ∀ z ∈ js'', z ∈ js') : RM t ρ jm js M ρ' js'' M' := fun Hi0 Hi D σ H o k => h Hi0 Hi D σ H o fun σ' H' ⟨H0, p, qs, m⟩ => k σ' H' ⟨H0, p, qs, ⟨m.gr, m.len, m.dat, m.sl, m.mt, m.hp, m.hq, fun z hz => m.rs z (h2 z hz)⟩⟩
theorem rm_lose (j : Nat) (h : RM t ρ jm js M ρ' js' M') : RM t ρ jm js M (ρ'.set j .no) js' M' := fun Hi0 Hi D σ H o k => h Hi0 Hi D σ H o fun σ' H' ⟨H0, p, qs, m⟩ => k σ' H' ⟨H0, p, qs, ⟨m.gr, by rw [List.length_set]; exact m.len, fun i d e => by
  by_cases z : j = i
  · subst z
    have hj := (List.getElem?_eq_some_iff.mp e).1
    rw [List.length_set] at hj
    rw [List.getElem?_set_self hj] at e
    cases e
  · rw [List.getElem?_set_ne z] at e
    exact m.dat i d e, m.sl, m.mt, m.hp, m.hq, m.rs⟩⟩
theorem rm_set {to ti : TE} {i j' : Nat} {j k : Int} {r : List Int} (h : EI te ρ jm js M k) (h1 : ER to ρ jm js M i) (h2 : EI ti ρ jm js M j) (hM : M[i]? = some r) (hj : ixN r.length j = some j') : RM (tAsg te (gSub to ti rSetL)) ρ jm js M ρ js (M.set i (r.set j' k)) := fun Hi0 Hi D σ H ⟨H0, p, qs, m⟩ kk =>
  h Hi0 Hi H0 H σ p qs m _ (h1 Hi0 Hi H0 H σ p qs m _ fun q hq => h2 Hi0 Hi H0 H σ p qs m _ ⟨q, r.map V.int, j, j', rfl, rfl, m.mt.row i q r hq hM, by rw [List.length_map]; exact hj, kk _ _ ⟨H0, p, qs, by
    have hm := m.mt.set (r' := r.set j' k) hq hM
    rw [List.map_set] at hm
    exact ⟨m.gr.change (m.mt.r0 q (List.mem_of_getElem? hq)) (m.hq q (List.mem_of_getElem? hq)), m.len, m.dat, m.sl, hm, m.hp, m.hq, m.rs⟩⟩⟩)
/-- for s in range(..) -/
theorem rm_rng {s n : Nat} {lo : Int} {tb : TS} (ρs : Nat → DD.Env) (Ms : Nat → Mx) (h1 : s ≠ jm) (h2 : ∀ z ∈ js, z.1 ≠ s) (hb : ∀ i, i < n → RM tb ((ρs i).set s (.dat (.int (lo + i)))) jm js (Ms i) (ρs (i + 1)) js (Ms (i + 1)))
    (Hi0 Hi : Hp) (D : Ends) (σ : St) (H : Hp) (o : MOk Hi0 Hi (ρs 0) jm js (Ms 0) σ H) (k : ∀ σ' H', MOk Hi0 Hi (ρs n) jm js (Ms n) σ' H' → D.nx σ' H') :
    ∃ W : Nat → Nat → St → Hp → Prop, (∃ m, W 0 m σ H) ∧ ∀ i m σ H, W i m σ H →
      ((Itr lo n).stop i H ∧ D.nx σ H) ∨ ((Itr lo n).go i H ∧ ∃ N : St → Hp → Prop, (∀ σ' H', N σ' H' → ∃ m', m' < m ∧ W (i + 1) m' σ' H') ∧ ∀ x H', (Itr lo n).yld i H x H' → gName s x σ H' fun σ2 H2 => tb { D with nx := N, ct := N, bk := D.nx } σ2 H2) :=
  for_it walk_range (fun i σ' Hc => MOk Hi0 Hi (ρs i) jm js (Ms i) σ' Hc) o (fun _ _ _ _ _ => trivial) (fun i x σ' Hc Hc' hi ⟨H0, p, qs, m⟩ y => by
    obtain ⟨rfl, rfl⟩ := y
    exact hb i hi Hi0 Hi _ _ _ ⟨H0, p, qs, m.setD (.int _) h1 h2⟩ fun σ'' H'' o => o) k
theorem rm_for1 {s n : Nat} {e : Int} {tb : TS} (ρs : Nat → DD.Env) (Ms : Nat → Mx) (he : EI te (ρs 0) jm js (Ms 0) e) (hn : e.toNat = n) (hb0 : e ≤ 100000 ∧ -100000 ≤ e) (h1 : s ≠ jm) (h2 : ∀ z ∈ js, z.1 ≠ s)
    (hb : ∀ i, i < n → RM tb ((ρs i).set s (.dat (.int (0 + (i : Nat))))) jm js (Ms i) (ρs (i + 1)) js (Ms (i + 1))) : RM (tFor (iRng1 (tCons te tNil)) (gName s) tb) (ρs 0) jm js (Ms 0) (ρs n) js (Ms n) := fun Hi0 Hi D σ H ⟨H0, p, qs, m⟩ k =>
  he Hi0 Hi H0 H σ p qs m _ ⟨e, rfl, by omega, by omega, by rw [hn]; exact rm_rng ρs Ms h1 h2 hb Hi0 Hi D σ H ⟨H0, p, qs, m⟩ k⟩
theorem rm_for2 {s n : Nat} {a e : Int} {tb : TS} (ρs : Nat → DD.Env) (Ms : Nat → Mx) (ha : EI ta (ρs 0) jm js (Ms 0) a) (he : EI te (ρs 0) jm js (Ms 0) e) (hn : (e - a).toNat = n) (hb0 : a ≤ 100000 ∧ -100000 ≤ a ∧ e ≤ 100000 ∧ -100000 ≤ e) (h1 : s ≠ jm) (h2 : ∀ z ∈ js, z.1 ≠ s)
    (hb : ∀ i, i < n → RM tb ((ρs i).set s (.dat (.int (a + (i : Nat))))) jm js (Ms i) (ρs (i + 1)) js (Ms (i + 1))) : RM (tFor (iRng2 (tCons ta (tCons te tNil))) (gName s) tb) (ρs 0) jm js (Ms 0) (ρs n) js (Ms n) := fun Hi0 Hi D σ H ⟨H0, p, qs, m⟩ k =>
  ha Hi0 Hi H0 H σ p qs m _ (he Hi0 Hi H0 H σ p qs m _ ⟨a, e, rfl, ⟨by omega, by omega, by omega, by omega⟩, by rw [hn]; exact rm_rng ρs Ms h1 h2 hb Hi0 Hi D σ H ⟨H0, p, qs, m⟩ k⟩)
theorem grow_in {Hi0 Hi H1 Hb Hc : Hp} (g : Grow Hi0 Hi Hb Hc) (s1 : Same Hi0 H1) (sm : Same H1 Hb) : Grow H1 (un H1 Hi) Hb Hc := by
  refine ⟨sm, g.sub, fun a o e => ?_, fun a o e => ?_⟩
  · unfold un at e
    cases q : H1 a with
    | some o' =>
      rw [q] at e
      cases e
      exact g.sub _ _ (sm _ _ q)
    | none =>
      rw [q] at e
      exact g.big _ _ e
  · cases q : H1 a with
    | some o' => exact .inl ⟨o', rfl⟩
    | none =>
      rcases g.new a o e with ⟨z, h⟩ | h | ⟨xs, h⟩
      · rw [s1 _ _ h] at q
        cases q
      · exact .inr (.inl (un_none.mpr ⟨q, h⟩))
      · exact .inr (.inr ⟨xs, by unfold un; rw [q]; exact h⟩)
theorem grow_out {Hi0 Hi H1 H1' Hz Hc : Hp} (g1 : Grow Hi0 Hi H1 H1') (g : Grow H1 (un H1 Hi) Hz Hc) : Grow Hi0 Hi Hz Hc := by
  refine ⟨g1.base.trans g.base, g.sub, fun a o e => ?_, fun a o e => ?_⟩
  · refine g.big a o ?_
    unfold un
    cases q : H1 a with
    | some o' =>
      have e1 := g1.big _ _ e
      have e2 := g1.sub _ _ q
      rw [e1] at e2
      cases e2
      rfl
    | none => exact e
  · rcases g.new a o e with ⟨z, h⟩ | h | ⟨xs, h⟩
    · exact g1.new a z h
    · exact .inr (.inl (un_none.mp h).2)
    · unfold un at h
      cases q : H1 a with
      | some o' => exact g1.new a o' q
      | none =>
        rw [q] at h
        exact .inr (.inr ⟨xs, h⟩)
/-- for .. in data -/
theorem rm_for {wi : TI} {g : TG} {tb : TS} {ds : List PyData} (ρs : Nat → DD.Env) (Ms : Nat → Mx) (hs : SrcD wi (ρs 0) ds) (hb : ∀ i d, ds[i]? = some d → ∃ us, TgtD g d us ∧ (∀ u ∈ us, u.1 ≠ jm ∧ ∀ z ∈ js, z.1 ≠ u.1) ∧ RM tb (setE (ρs i) us) jm js (Ms i) (ρs (i + 1)) js (Ms (i + 1))) :
    RM (tFor wi g tb) (ρs 0) jm js (Ms 0) (ρs ds.length) js (Ms ds.length) := fun Hi0 Hi D σ H ⟨H0, p, qs, m⟩ k =>
  hs σ H0 H m.gr.sub m.len m.dat _ fun J H1 H1' g1 ⟨Y, w, hy⟩ => by
    have m1 := m.more g1
    refine for_it w (fun i σ' Hc => ∃ Hb p qs, MOkH Hi0 Hi Hb Hc σ' (ρs i) jm js (Ms i) p qs ∧ Same H1 Hb) ⟨H1, p, qs, m1, Same.refl _⟩ (fun i σ' Hc _ ⟨Hb, _, _, sb, sm⟩ => sm.trans sb.gr.sub) (fun i x σ' Hc Hc' hi ⟨Hb, p', qs', sb, sm⟩ y => ?_) (fun σ' Hc ⟨Hb, p, qs, sb, _⟩ => k σ' Hc ⟨Hb, p, qs, sb⟩)
    obtain ⟨Hb', d, ed, gc, qd⟩ := hy i Hc x Hc' hi y Hb sm sb.gr.sub
    obtain ⟨us, hg, hu, hr⟩ := hb i d ed
    obtain ⟨ws, mm, go⟩ := hg Hb' Hc' x gc.sub qd
    refine go σ' _ ?_
    have s2 := MOkH.setS mm (sb.more gc) hu
    have sm2 : Same H1 Hb' := sm.trans gc.base
    have hin : MOkH H1 (un H1 Hi) Hb' Hc' (DD.setS σ' ws) (setE (ρs i) us) jm js (Ms i) p' qs' :=
      ⟨grow_in s2.gr m1.gr.base sm2, s2.len, s2.dat, s2.sl, s2.mt, un_none.mpr ⟨sm2.free s2.mt.t0, s2.hp⟩, fun q hq => un_none.mpr ⟨sm2.free (s2.mt.r0 q hq), s2.hq q hq⟩, s2.rs⟩
    exact hr H1 (un H1 Hi) { D with nx := _, ct := _, bk := D.nx } _ _ ⟨Hb', p', qs', hin⟩ fun σ'' H'' ⟨Hz, pz, qz, sz⟩ =>
      ⟨Hz, pz, qz, ⟨grow_out m1.gr sz.gr, sz.len, sz.dat, sz.sl, sz.mt, (un_none.mp sz.hp).2, fun q hq => (un_none.mp (sz.hq q hq)).2, sz.rs⟩, sz.gr.base⟩
/-- the matrix is not changed any more -/
theorem MOkH.freeze {Hi0 Hi H0 H : Hp} {σ : St} {p : Addr} {qs : List Addr} (m : MOkH Hi0 Hi H0 H σ ρ jm js M p qs) (hno : ∀ (i : Nat) (ds : List PyData), ρ[i]? ≠ some (.own ds)) : Ok Hi0 Hi (ρ.set jm (.dat (.list (M.map fun r => .list (r.map .int))))) σ H := by
  let H1 : Hp := fun a => if a = p ∨ a ∈ qs then H a else H0 a
  have e1 : ∀ a, (a = p ∨ a ∈ qs) → H1 a = H a := fun a h => if_pos h
  have e2 : ∀ a, ¬ (a = p ∨ a ∈ qs) → H1 a = H0 a := fun a h => if_neg h
  have s01 : Same H0 H1 := fun a o e => by
    rw [e2 a (fun z => ?_)]
    · exact e
    · rcases z with z | z
      · rw [z, m.mt.t0] at e
        cases e
      · rw [m.mt.r0 a z] at e
        cases e
  have s1 : Same H1 H := fun a o e => by
    by_cases z : a = p ∨ a ∈ qs
    · rw [e1 a z] at e
      exact e
    · rw [e2 a z] at e
      exact m.gr.sub a o e
  have hrow : ∀ (M' : Mx) (qs' : List Addr), qs'.length = M'.length → (∀ (i : Nat) (q : Addr) (r : List Int), qs'[i]? = some q → M'[i]? = some r → H1 q = some (.lst (r.map V.int))) → DqAll H1 (qs'.map V.ref) (M'.map fun r => .list (r.map .int)) := by
    intro M'
    induction M' with
    | nil =>
      intro qs' hl _
      rw [List.eq_nil_of_length_eq_zero hl]
      exact .nil
    | cons r M' ih =>
      intro qs' hl h
      cases qs' with
      | nil => cases hl
      | cons q qs' =>
        exact .cons (.lst (h 0 q r rfl rfl) (DqAll.ints r)) (ih qs' (Nat.succ.inj hl) fun i q' r' a b => h (i + 1) q' r' a b)
  have hD : Dq H1 (.ref p) (.list (M.map fun r => .list (r.map .int))) := by
    refine .lst (by rw [e1 p (.inl rfl)]; exact m.mt.top) (hrow M qs m.mt.len fun i q r a b => ?_)
    rw [e1 q (.inr (List.mem_of_getElem? a))]
    exact m.mt.row i q r a b
  refine ⟨H1, ⟨m.gr.base.trans s01, s1, m.gr.big, fun a o e => ?_⟩, by rw [List.length_set]; exact m.len, fun i d e => ?_, fun i ds e => ?_, fun i j ds es p e => ?_⟩
  · by_cases z : a = p ∨ a ∈ qs
    · rcases z with z | z
      · exact .inr (.inl (z ▸ m.hp))
      · exact .inr (.inl (m.hq a z))
    · rw [e2 a z] at e
      exact m.gr.new a o e
  · by_cases z : jm = i
    · subst z
      have hj := (List.getElem?_eq_some_iff.mp e).1
      rw [List.length_set] at hj
      rw [List.getElem?_set_self hj] at e
      cases e
      exact ⟨_, m.sl, hD⟩
    · rw [List.getElem?_set_ne z] at e
      obtain ⟨v, h1, h2⟩ := m.dat i d e
      exact ⟨v, h1, h2.up s01⟩
  · by_cases z : jm = i
    · subst z
      have hj := (List.getElem?_eq_some_iff.mp e).1
      rw [List.length_set] at hj
      rw [List.getElem?_set_self hj] at e
      cases e
    · rw [List.getElem?_set_ne z] at e
      exact absurd e (hno i ds)
  · by_cases z : jm = i
    · subst z
      have hj := (List.getElem?_eq_some_iff.mp e).1
      rw [List.length_set] at hj
      rw [List.getElem?_set_self hj] at e
      cases e
    · rw [List.getElem?_set_ne z] at e
      exact absurd e (hno i ds)
end
/-- an expression that makes a matrix, all new -/
def EM (t : TE) (ρ : DD.Env) (M : Mx) : Prop := ∀ (σ : St) (H0 H : Hp), Same H0 H → σ.length = ρ.length → DatE H0 σ ρ → ∀ Q : VK,
  (∀ p qs H0' H', Grow H0 H H0' H' → H p = none → (∀ q ∈ qs, H q = none) → MatH H0' H' p qs M → Q (.ref p) H') → t σ H Q
def PureM (R : List PyData → Mx → Prop) : Sp := fun vs H Q _ => ∃ H0 ds M, Same H0 H ∧ DqAll H0 vs ds ∧ R ds M ∧ ∀ p qs H0' H', Grow H0 H H0' H' → H p = none → (∀ q ∈ qs, H q = none) → MatH H0' H' p qs M → Q (.ref p) H'
section
variable {ρ : DD.Env} {ta te : TA} {ds : List PyData} {M : Mx} {E : XK}
theorem em_call {R : List PyData → Mx → Prop} (h : EA ta ρ ds) (hr : R ds M) : EM (tCall (PureM R) [] E ta) ρ M := fun σ H0 H s l q Q k => h σ H0 H s l q _ fun vs H1 H1' g q1 => by
  rw [List.append_nil]
  exact ⟨H1, ds, M, g.sub, q1, hr, fun p qs H2 H2' g2 hp hq m => k p qs H2 H2' (g.trans g2) (g.big.free hp) (fun q z => g.big.free (hq q z)) m⟩
theorem pureM_len {R : List PyData → Mx → Prop} {n : Nat} (h : ∀ ds d, R ds d → ds.length = n) (vs : List V) (H : Hp) (Q : VK) (E : XK) (hp : PureM R vs H Q E) : vs.length = n := by
  obtain ⟨H0, ds, d, s, a, r, k⟩ := hp
  rw [a.len]
  exact h ds d r
end
end DD
end

section
set_option Elab.async false
set_option linter.all false
set_option maxRecDepth 100000
set_option maxHeartbeats 4000000
namespace DD
open PySem PySem.Spec L2
section
variable {ρ : DD.Env} {te : TE}
theorem MatH.live {H0 H : Hp} {p : Addr} {qs : List Addr} {M : Mx} (m : MatH H0 H p qs M) {q : Addr} (hq : q ∈ qs) : H q ≠ none := by
  obtain ⟨i, hi, e⟩ := List.mem_iff_getElem.mp hq
  have e1 : qs[i]? = some q := by rw [List.getElem?_eq_getElem hi, e]
  have e2 : M[i]? = some (M[i]'(by rw [← m.len]; exact hi)) := List.getElem?_eq_getElem _
  rw [m.row i q _ e1 e2]
  exact fun z => nomatch z
/-- [[..] for ..]: new rows in a new list -/
theorem em_lcE {α : Type} {wi : TI} {j : Nat} (enc : α → PyData) (r : α → List Int) (xs : List α) (hs : SrcD wi ρ (xs.map enc)) (hl : xs.length ≤ 100000) (he : ∀ a, a ∈ xs → EL te ((ρ.set j .no).set j (.dat (enc a))) ((r a).map .int)) :
    EM (tLc wi (gName j) tYes te [j]) ρ (xs.map r) := fun σ H0 H s l q Q k =>
  hs σ H0 H s l q _ fun J H1 H1' g0 ⟨Y, w, hy⟩ => fun D hD => by
    have hD1 : H1 D = none := g0.sub.free hD
    rw [List.length_map] at w hy
    refine lc_it w (fun i Hc => ∃ Hb qs, Grow H1 H1' Hb Hc ∧ MatH Hb Hc D qs ((xs.take i).map r) ∧ ∀ q ∈ qs, H1' q = none) ⟨H1, [], .big1 g0.sub hD, ⟨upd_same, hD1, by simp, fun i q r h => by simp at h, fun q h => by simp at h, .nil, by simp⟩, fun q h => by simp at h⟩ (fun i Hc _ ⟨Hb, qs, gb, _⟩ => gb.base.trans gb.sub) (fun i x Hc Hc' hi ⟨Hb, qs, gb, mb, fq⟩ y => ?_) (fun Hc ⟨Hb, qs, gb, mb, fq⟩ => ?_)
    · obtain ⟨Hb', d, ed, gc, qd⟩ := hy i Hc x Hc' hi y Hb gb.base gb.sub
      rw [List.getElem?_map] at ed
      obtain ⟨a, ha, rfl⟩ := Option.map_eq_some_iff.mp ed
      have m1 := mb.more gc
      have g1 : Grow H1 H1' Hb' Hc' := gb.trans gc
      have lw : (L2.wipe σ [j]).length = (wipeD ρ [j]).length := by rw [wipe_length, wipeD_len, l]
      have q2 : DatE Hb' ((L2.wipe σ [j]).set j (some x)) ((wipeD ρ [j]).set j (.dat (enc a))) := (((q.up g0.base).up g1.base).wipe [j]).set lw j qd
      have l2 : ((L2.wipe σ [j]).set j (some x)).length = ((wipeD ρ [j]).set j (.dat (enc a))).length := by rw [List.length_set, List.length_set, lw]
      refine ⟨wipe_set _ _ _ _ (List.mem_singleton.mpr rfl) |>.trans (wipe_wipe _ _), ?_⟩
      refine iteT (B := ∃ Hb qs, Grow H1 H1' Hb Hc' ∧ MatH Hb Hc' D qs ((xs.take (i + 1)).map r) ∧ ∀ q ∈ qs, H1' q = none) ?_
      refine he a (List.mem_of_getElem? ha) _ Hb' Hc' g1.sub l2 q2 _ fun p vs H4 H4' g4 hp h0 h1 q4 => ?_
      have hv := q4.ints_inv
      subst hv
      have m4 := m1.more g4
      have hpD : p ≠ D := fun z => by
        rw [z, m1.top] at hp
        cases hp
      have hpq : p ∉ qs := fun z => m1.live z hp
      have hlen : qs.length = i := by
        rw [m1.len, List.length_map, List.length_take]
        exact Nat.min_eq_left (Nat.le_of_lt hi)
      have ht : (xs.take (i + 1)).map r = (xs.take i).map r ++ [r a] := by
        rw [List.take_add_one, ha, List.map_append]
        rfl
      refine ⟨qs.map V.ref, m4.top, by rw [List.length_map, hlen]; exact Nat.lt_of_lt_of_le hi (Nat.le_trans hl (by decide)), H4, qs ++ [p], (g1.trans g4).change m4.t0 hD, ?_, fun q hq => ?_⟩
      · rw [ht]
        refine ⟨?_, m4.t0, by rw [List.length_append, List.length_append, m4.len]; rfl, fun k q' s e1 e2 => ?_, fun q' hq' => ?_, ?_, ?_⟩
        · rw [List.map_append]
          exact upd_same
        · by_cases hk : k < qs.length
          · rw [List.getElem?_append_left hk] at e1
            rw [List.getElem?_append_left (by rw [← m4.len]; exact hk)] at e2
            rw [upd_ne (fun z => m4.np (by rw [← z]; exact List.mem_of_getElem? e1))]
            exact m4.row k q' s e1 e2
          · have hk2 : k = qs.length := by
              have := (List.getElem?_eq_some_iff.mp e1).1
              rw [List.length_append, List.length_singleton] at this
              omega
            subst hk2
            rw [List.getElem?_append_right (Nat.le_refl _), Nat.sub_self] at e1
            rw [m4.len, List.getElem?_append_right (Nat.le_refl _), Nat.sub_self] at e2
            cases e1
            cases e2
            rw [upd_ne hpD]
            exact h1
        · rcases List.mem_append.mp hq' with z | z
          · exact m4.r0 q' z
          · rw [List.mem_singleton.mp z]
            exact h0
        · refine List.nodup_append.mpr ⟨m4.nd, List.pairwise_singleton .., fun a' ha' b hb z => ?_⟩
          rw [List.mem_singleton.mp hb] at z
          exact hpq (z ▸ ha')
        · intro z
          rcases List.mem_append.mp z with z | z
          · exact m4.np z
          · exact hpD (List.mem_singleton.mp z).symm
      · rcases List.mem_append.mp hq with z | z
        · exact fq q z
        · rw [List.mem_singleton.mp z]
          exact g1.big.free hp
    · rw [List.take_of_length_le (Nat.le_refl _)] at mb
      exact k D qs Hb Hc (g0.trans gb) (g0.big.free hD) (fun q hq => g0.big.free (fq q hq)) mb
/-- a new matrix goes to a slot -/
theorem mok_asg {jm : Nat} {M : Mx} {Hi0 Hi : Hp} {D : Ends} {σ : St} {H : Hp} (h : EM te ρ M) (hj : jm < ρ.length) (o : Ok Hi0 Hi ρ σ H) (k : ∀ σ' H', MOk Hi0 Hi (ρ.set jm .no) jm [] M σ' H' → D.nx σ' H') : tAsg te (gName jm) D σ H := by
  obtain ⟨H0, s⟩ := o
  refine h σ H0 H s.gr.sub s.len s.dat _ fun p qs H1 H1' g hp hq m => k _ _ ⟨H1, p, qs, ⟨s.gr.trans g, by rw [List.length_set, List.length_set, s.len], (s.dat.up g.base).setNo jm _ _ (fun _ z => nomatch z), List.getElem?_set_self (by rw [s.len]; exact hj), m, s.gr.big.free hp, fun q z => s.gr.big.free (hq q z), fun z hz => nomatch hz⟩⟩
theorem mok_par {jm i : Nat} {M : Mx} {c : Int} {Hi0 Hi : Hp} {D : Ends} {σ : St} {H : Hp} (h : EM te ρ M) (hj : jm < ρ.length) (hi : jm ≠ i) (o : Ok Hi0 Hi ρ σ H) (k : ∀ σ' H', MOk Hi0 Hi ((ρ.set jm .no).set i (.dat (.int c))) jm [] M σ' H' → D.nx σ' H') : tPar jm i (tCons te (tCons (tC (.int c)) tNil)) D σ H := by
  obtain ⟨H0, s⟩ := o
  refine h σ H0 H s.gr.sub s.len s.dat _ fun p qs H1 H1' g hp hq m => ?_
  have mk : MOkH Hi0 Hi H1 H1' (σ.set jm (some (.ref p))) (ρ.set jm .no) jm [] M p qs := ⟨s.gr.trans g, by rw [List.length_set, List.length_set, s.len], (s.dat.up g.base).setNo jm _ _ (fun _ z => nomatch z), List.getElem?_set_self (by rw [s.len]; exact hj), m, s.gr.big.free hp, fun q z => s.gr.big.free (hq q z), fun z hz => nomatch hz⟩
  exact ⟨_, _, rfl, k _ _ ⟨H1, p, qs, mk.setD (.int c) hi.symm fun z hz => nomatch hz⟩⟩
end
end DD
namespace DD
open PySem PySem.Spec L2
section
variable {ρ ρ' : DD.Env} {te : TE} {jm : Nat} {js js' : List (Nat × Nat)} {M M' : DD.Mx} {t u : TS} {Hi0 Hi : Hp} {D : Ends} {σ : St} {H : Hp}
theorem rn_then (h : RN t ρ ρ') (o : Ok Hi0 Hi ρ σ H) (k : ∀ σ' H', Ok Hi0 Hi ρ' σ' H' → u D σ' H') : tSeq t u D σ H := h Hi0 Hi { D with nx := u D } σ H o k
theorem rm_then (h : RM t ρ jm js M ρ' js' M') (o : MOk Hi0 Hi ρ jm js M σ H) (k : ∀ σ' H', MOk Hi0 Hi ρ' jm js' M' σ' H' → u D σ' H') : tSeq t u D σ H := h Hi0 Hi { D with nx := u D } σ H o k
theorem mok_then (h : EM te ρ M) (hj : jm < ρ.length) (o : Ok Hi0 Hi ρ σ H) (k : ∀ σ' H', MOk Hi0 Hi (ρ.set jm .no) jm [] M σ' H' → u D σ' H') : tSeq (tAsg te (gName jm)) u D σ H := mok_asg (D := { D with nx := u D }) h hj o k
theorem mokpar_then {i : Nat} {c : Int} (h : EM te ρ M) (hj : jm < ρ.length) (hi : jm ≠ i) (o : Ok Hi0 Hi ρ σ H) (k : ∀ σ' H', MOk Hi0 Hi ((ρ.set jm .no).set i (.dat (.int c))) jm [] M σ' H' → u D σ' H') : tSeq (tPar jm i (tCons te (tCons (tC (.int c)) tNil))) u D σ H := mok_par (D := { D with nx := u D }) h hj hi o k
theorem em_ret (h : EM te ρ M) (o : Ok Hi0 Hi ρ σ H) (k : ∀ p qs H0' H', Grow Hi0 Hi H0' H' → Hi p = none → (∀ q ∈ qs, Hi q = none) → MatH H0' H' p qs M → D.rt (.ref p) H') : tRet te D σ H := by
  obtain ⟨H0, s⟩ := o
  exact h σ H0 H s.gr.sub s.len s.dat _ fun p qs H1 H1' g hp hq m => k p qs H1 H1' (s.gr.trans g) (s.gr.big.free hp) (fun q z => s.gr.big.free (hq q z)) m
end
end DD
end

section
set_option Elab.async false
set_option linter.all false
set_option maxRecDepth 100000
set_option maxHeartbeats 4000000
/-! Square tables as functions; the table of a web; Bareiss's laps over it. -/
namespace K4P
open PySem PySem.Spec L2 DD K4
abbrev Fn := Nat → Nat → Int
def Mf (N : Nat) (f : Fn) : DD.Mx := (List.range N).map fun i => (List.range N).map (f i)
def upd2 (f : Fn) (i j : Nat) (k : Int) : Fn := fun a b => if a = i ∧ b = j then k else f a b
theorem Mf_len (N : Nat) (f : Fn) : (Mf N f).length = N := by unfold Mf; rw [List.length_map, List.length_range]
theorem Mf_get {N i : Nat} (f : Fn) (h : i < N) : (Mf N f)[i]? = some ((List.range N).map (f i)) := by
  unfold Mf
  rw [List.getElem?_map, List.getElem?_range h]
  rfl
theorem row_get {N j : Nat} (g : Nat → Int) (h : j < N) : ((List.range N).map g)[j]? = some (g j) := by
  rw [List.getElem?_map, List.getElem?_range h]
  rfl
theorem Mf_congr {N : Nat} {f g : Fn} (h : ∀ i, i < N → ∀ j, j < N → f i j = g i j) : Mf N f = Mf N g := by
  unfold Mf
  refine List.map_congr_left fun i hi => List.map_congr_left fun j hj => ?_
  exact h i (List.mem_range.mp hi) j (List.mem_range.mp hj)
theorem Mf_set {N i j : Nat} (f : Fn) (k : Int) (hi : i < N) (hj : j < N) : (Mf N f).set i (((List.range N).map (f i)).set j k) = Mf N (upd2 f i j k) := by
  refine List.ext_getElem? fun a => ?_
  by_cases ha : a < N
  · rw [Mf_get _ ha]
    by_cases h : i = a
    · subst h
      rw [List.getElem?_set_self (by rw [Mf_len]; exact ha)]
      refine congrArg some (List.ext_getElem? fun b => ?_)
      by_cases hb : b < N
      · rw [row_get _ hb]
        by_cases h2 : j = b
        · subst h2
          rw [List.getElem?_set_self (by rw [List.length_map, List.length_range]; exact hb)]
          show some k = some (if i = i ∧ j = j then k else f i j)
          rw [if_pos ⟨rfl, rfl⟩]
        · rw [List.getElem?_set_ne h2, row_get _ hb]
          show some (f i b) = some (if i = i ∧ b = j then k else f i b)
          rw [if_neg (fun z => h2 z.2.symm)]
      · rw [List.getElem?_eq_none (by rw [List.length_set, List.length_map, List.length_range]; omega), List.getElem?_eq_none (by rw [List.length_map, List.length_range]; omega)]
    · rw [List.getElem?_set_ne h, Mf_get _ ha]
      refine congrArg some (List.map_congr_left fun b _ => ?_)
      show f a b = if a = i ∧ b = j then k else f a b
      rw [if_neg (fun z => h z.1.symm)]
  · rw [List.getElem?_eq_none (by rw [List.length_set, Mf_len]; omega), List.getElem?_eq_none (by rw [Mf_len]; omega)]
theorem ixN_nat {N i : Nat} (h : i < N) : ixN N (i : Int) = some i := by
  unfold ixN
  rw [if_pos (by omega), if_pos (by omega)]
  rfl
section
variable {ρ ρ' : DD.Env} {jm : Nat} {js js' : List (Nat × Nat)} {te ta tb to ti : TE} {K : PySem.W.Frag} {N : Nat} {f : Fn}
theorem er_ixF {i : Nat} (h2 : EI tb ρ jm js (Mf N f) (i : Int)) (hi : i < N) : ER (tOp (rIxL K) (tVar jm) tb) ρ jm js (Mf N f) i := er_ix h2 (by rw [Mf_len]; exact ixN_nat hi)
theorem ei_ixF {i j : Nat} (h1 : ER ta ρ jm js (Mf N f) i) (h2 : EI tb ρ jm js (Mf N f) (j : Int)) (hi : i < N) (hj : j < N) : EI (tOp (rIxL K) ta tb) ρ jm js (Mf N f) (f i j) := ei_ix h1 h2 (Mf_get f hi) (atI_nat (row_get (f i) hj))
theorem rm_setF {i j : Nat} {k : Int} (h : EI te ρ jm js (Mf N f) k) (h1 : ER to ρ jm js (Mf N f) i) (h2 : EI ti ρ jm js (Mf N f) (j : Int)) (hi : i < N) (hj : j < N) : RM (tAsg te (gSub to ti rSetL)) ρ jm js (Mf N f) ρ js (Mf N (upd2 f i j k)) :=
  rm_is (rm_set h h1 h2 (Mf_get f hi) (by rw [List.length_map, List.length_range]; exact ixN_nat hj)) rfl rfl (Mf_set f k hi hj)
end
/-! the table of a web -/
def lapF (m N : Nat) (U : List Tie) : Fn := lap (List.range N) (U.map (ed m))
def lapStep (f : Fn) (h r : Nat) : Fn := upd2 (upd2 (upd2 (upd2 f h h (f h h + 1)) r r ((upd2 f h h (f h h + 1)) r r + 1)) h r (-1)) r h (-1)
theorem lap_app (ms : List Nat) (i j : Nat) : ∀ (es : List Ed) (e : Ed), lap ms (es ++ [e]) i j = lap ms es i j + bv ms e i * bv ms e j
  | [], e => by
    show bv ms e i * bv ms e j + 0 = 0 + _
    omega
  | x :: es, e => by
    show bv ms x i * bv ms x j + lap ms (es ++ [e]) i j = bv ms x i * bv ms x j + lap ms es i j + _
    rw [lap_app ms i j es e]
    omega
theorem bv_range {N : Nat} {e : Ed} (i : Nat) (h1 : e.1 < N) (h2 : e.2 < N) : bv (List.range N) e i = delta i e.1 - delta i e.2 := by
  unfold bv
  rw [mk_range N _ h1, mk_range N _ h2]
theorem lap_none {m N : Nat} {t : Tie} (hm : t.1 < m) : ∀ (U : List Tie), (∀ u ∈ U, u.1 < m ∧ m + u.2 < N) → t ∉ U → m + t.2 < N → lapF m N U t.1 (m + t.2) = 0 ∧ lapF m N U (m + t.2) t.1 = 0
  | [], _, _, _ => ⟨rfl, rfl⟩
  | u :: U, h, hn, ht => by
    obtain ⟨i1, i2⟩ := lap_none hm U (fun v hv => h v (List.mem_cons_of_mem _ hv)) (fun z => hn (List.mem_cons_of_mem _ z)) ht
    obtain ⟨u1, u2⟩ := h u (List.mem_cons_self ..)
    have b : ∀ i, bv (List.range N) (ed m u) i = delta i u.1 - delta i (m + u.2) := fun i => bv_range i (by show u.1 < N; omega) u2
    have hne : ¬ (t.1 = u.1 ∧ t.2 = u.2) := fun z => hn (List.mem_cons.mpr (.inl (Prod.ext z.1 z.2)))
    have e1 : delta t.1 (m + u.2) = 0 := by unfold K4.delta; rw [if_neg (by omega)]
    have e2 : delta (m + t.2) u.1 = 0 := by unfold K4.delta; rw [if_neg (by omega)]
    have e3 : delta t.1 u.1 * delta (m + t.2) (m + u.2) = 0 := by
      unfold K4.delta
      by_cases h1 : t.1 = u.1
      · rw [if_neg (show ¬ m + t.2 = m + u.2 by omega), Int.mul_zero]
      · rw [if_neg h1, Int.zero_mul]
    constructor
    · show bv (List.range N) (ed m u) t.1 * bv (List.range N) (ed m u) (m + t.2) + lapF m N U t.1 (m + t.2) = 0
      rw [i1, b, b, e1, e2, Int.sub_zero, Int.zero_sub, Int.mul_neg, e3]
      rfl
    · show bv (List.range N) (ed m u) (m + t.2) * bv (List.range N) (ed m u) t.1 + lapF m N U (m + t.2) t.1 = 0
      rw [i2, b, b, e1, e2, Int.sub_zero, Int.zero_sub, Int.neg_mul, Int.mul_comm, e3]
      rfl
theorem lap_step {m N : Nat} {U : List Tie} {t : Tie} (hm : t.1 < m) (h : ∀ u ∈ U, u.1 < m ∧ m + u.2 < N) (hn : t ∉ U) (ht : m + t.2 < N) (i j : Nat) : lapStep (lapF m N U) t.1 (m + t.2) i j = lapF m N (U ++ [t]) i j := by
  obtain ⟨z1, z2⟩ := lap_none hm U h hn ht
  have e : lapF m N (U ++ [t]) i j = lapF m N U i j + (delta i t.1 - delta i (m + t.2)) * (delta j t.1 - delta j (m + t.2)) := by
    unfold lapF
    rw [List.map_append]
    show lap _ (U.map (ed m) ++ [ed m t]) i j = _
    rw [lap_app, bv_range i (by show t.1 < N; omega) ht, bv_range j (by show t.1 < N; omega) ht]
    rfl
  rw [e]
  unfold lapStep upd2 K4.delta
  by_cases a1 : i = t.1
  · subst a1
    by_cases b1 : j = t.1
    · subst b1
      simp [show ¬ t.1 = m + t.2 by omega]
    · by_cases b2 : j = m + t.2
      · subst b2
        simp [show ¬ t.1 = m + t.2 by omega, show ¬ m + t.2 = t.1 by omega, z1]
      · simp [b1, b2, show ¬ t.1 = m + t.2 by omega]
  · by_cases a2 : i = m + t.2
    · subst a2
      by_cases b1 : j = t.1
      · subst b1
        simp [show ¬ t.1 = m + t.2 by omega, show ¬ m + t.2 = t.1 by omega, z2]
      · by_cases b2 : j = m + t.2
        · subst b2
          simp [show ¬ m + t.2 = t.1 by omega]
        · simp [b1, b2, show ¬ m + t.2 = t.1 by omega]
    · simp [a1, a2]
/-! Bareiss's laps -/
def FB (n : Nat) (A : K4.Mx) (k : Nat) : Fn := fun i j => BB n A (min k (min i j)) i j
def SB (n : Nat) (A : K4.Mx) (k R C : Nat) : Fn := fun a b => if a < R ∨ (a = R ∧ b < C) then FB n A (k + 1) a b else FB n A k a b
theorem FB_low {n : Nat} {A : K4.Mx} {k a b : Nat} (h : a ≤ k ∨ b ≤ k) : FB n A (k + 1) a b = FB n A k a b := by
  unfold FB
  rw [show min (k + 1) (min a b) = min k (min a b) by omega]
theorem SB_start {n : Nat} {A : K4.Mx} {k : Nat} (a b : Nat) : SB n A k (k + 1) 0 a b = FB n A k a b := by
  unfold SB
  split
  · rename_i h
    exact FB_low (by omega)
  · rfl
theorem SB_row {n : Nat} {A : K4.Mx} {k R : Nat} (a b : Nat) : SB n A k R 0 a b = SB n A k R (k + 1) a b := by
  unfold SB
  by_cases h : a < R
  · rw [if_pos (.inl h), if_pos (.inl h)]
  · rw [if_neg (by omega)]
    by_cases h2 : a = R ∧ b < k + 1
    · rw [if_pos (.inr h2)]
      exact (FB_low (by omega)).symm
    · rw [if_neg (by omega)]
theorem SB_next {n : Nat} {A : K4.Mx} {k R : Nat} (a b : Nat) (hb : b < n) : SB n A k R n a b = SB n A k (R + 1) 0 a b := by
  unfold SB
  by_cases h : a < R ∨ (a = R ∧ b < n)
  · rw [if_pos h, if_pos (by omega)]
  · rw [if_neg h, if_neg (by omega)]
theorem SB_end {n : Nat} {A : K4.Mx} {k : Nat} (a b : Nat) (ha : a < n) : SB n A k n 0 a b = FB n A (k + 1) a b := by
  unfold SB
  rw [if_pos (.inl ha)]
theorem SB_set {n : Nat} {A : K4.Mx} {k R C : Nat} (hR : k < R) (hC : k < C) (v : Int) (hv : v = BB n A (k + 1) R C) (a b : Nat) : upd2 (SB n A k R C) R C v a b = SB n A k R (C + 1) a b := by
  unfold upd2
  by_cases h : a = R ∧ b = C
  · rw [if_pos h, hv]
    unfold SB
    rw [if_pos (by omega), h.1, h.2]
    unfold FB
    rw [show min (k + 1) (min R C) = k + 1 by omega]
  · rw [if_neg h]
    unfold SB
    by_cases h2 : a < R ∨ (a = R ∧ b < C)
    · rw [if_pos h2, if_pos (by omega)]
    · rw [if_neg h2, if_neg (by omega)]
theorem SB_own {n : Nat} {A : K4.Mx} {k R C : Nat} (hR : k < R) (hC : k < C) : SB n A k R C R C = BB n A k R C := by
  unfold SB
  rw [if_neg (by omega)]
  unfold FB
  rw [show min k (min R C) = k by omega]
theorem SB_left {n : Nat} {A : K4.Mx} {k R C : Nat} (hR : k < R) (hC : k < C) : SB n A k R C R k = BB n A k R k := by
  unfold SB
  rw [if_pos (by omega)]
  unfold FB
  rw [show min (k + 1) (min R k) = k by omega]
theorem SB_first {n : Nat} {A : K4.Mx} {k R C b : Nat} (hR : k < R) (hb : k ≤ b) : SB n A k R C k b = BB n A k k b := by
  unfold SB
  rw [if_pos (by omega)]
  unfold FB
  rw [show min (k + 1) (min k b) = k by omega]
theorem facts_all : ((List.range 24).all fun n => decide (fact n * 60 ^ n < 2 ^ 256)) = true := by decide +kernel
theorem fact_lt {n : Nat} (h : n < 24) : fact n * 60 ^ n < 2 ^ 256 := of_decide_eq_true (List.all_eq_true.mp facts_all n (List.mem_range.mpr h))
/-- the reduced table of a web -/
structure RedW (n : Nat) (A : K4.Mx) : Prop where
  n1 : 0 < n
  n24 : n < 24
  abs : ∀ i, i < n → ∀ j, j < n → (A i j).natAbs ≤ 60
  pv : ∀ k, k ≤ n → 0 < pv' n A k
section
variable {n : Nat} {A : K4.Mx} (w : RedW n A)
include w
theorem RedW.bb {k i j : Nat} (hi : i < n) : (BB n A k i j).natAbs < 2 ^ 256 := Nat.lt_of_le_of_lt (BB_abs n 60 A (by decide) w.abs k i j hi) (fact_lt w.n24)
theorem RedW.pvlt {k : Nat} (hk : k ≤ n) : (pv' n A k).natAbs < 2 ^ 256 := by
  cases k with
  | zero =>
    rw [pv_zero]
    decide
  | succ k =>
    rw [← BB_diag]
    exact w.bb (by omega)
theorem RedW.step {k R C : Nat} (hR : k < R) (hC : k < C) (hRn : R < n) (hCn : C < n) : (BB n A k R C * BB n A k k k - BB n A k R k * BB n A k k C) / pv' n A k = BB n A (k + 1) R C := by
  have h := bar_step n A k R C (by omega) hCn hC (fun l hl => Int.ne_of_gt (w.pv l (by omega)))
  rw [← h]
  exact Int.mul_ediv_cancel_left _ (Int.ne_of_gt (w.pv k (by omega)))
end
end K4P
end

section
set_option Elab.async false
set_option linter.all false
set_option maxRecDepth 100000
set_option maxHeartbeats 4000000
/-! sorted(set(ties)) by data. -/
namespace K4P
open PySem PySem.Spec L2 RZ DD K4
def tn (t : Tie) : List Int := [(t.1 : Int), (t.2 : Int)]
theorem tn_inj {a b : Tie} (h : tn a = tn b) : a = b := by
  unfold tn at h
  simp only [List.cons.injEq, and_true] at h
  exact Prod.ext (by omega) (by omega)
theorem ties_ks {H : Hp} : ∀ (X : List Tie) (xs : List V), DqAll H xs (X.map tieD) → ∃ ks : List (Addr × Tie), xs = ks.map (fun p => V.ref p.1) ∧ X = ks.map (·.2) ∧ ∀ p ∈ ks, H p.1 = some (.tup ((tn p.2).map V.int))
  | [], xs, h => by
    cases h
    exact ⟨[], rfl, rfl, fun p hp => nomatch hp⟩
  | t :: X, xs, h => by
    cases h with
    | cons h1 h2 =>
      obtain ⟨a, ys, rfl, h3, h4⟩ := h1.tup_inv
      obtain ⟨ks, rfl, rfl, h5⟩ := ties_ks X _ h2
      have e := DqAll.ints_inv [(t.1 : Int), (t.2 : Int)] ys h4
      subst e
      refine ⟨(a, t) :: ks, rfl, rfl, fun p hp => ?_⟩
      rcases List.mem_cons.mp hp with rfl | hp
      · exact h3
      · exact h5 p hp
theorem dq_ties {H : Hp} : ∀ (L : List (Addr × List Int)) (Y : List Tie), L.map (·.2) = Y.map tn → (∀ p ∈ L, H p.1 = some (.tup (p.2.map V.int))) → DqAll H (L.map fun p => V.ref p.1) (Y.map tieD)
  | [], [], _, _ => .nil
  | [], _ :: _, h, _ => by cases h
  | _ :: _, [], h, _ => by cases h
  | p :: L, t :: Y, h, hp => by
    rw [List.map_cons, List.map_cons] at h
    obtain ⟨e1, e2⟩ := List.cons.inj h
    have q := hp p (List.mem_cons_self ..)
    rw [e1] at q
    exact .cons (.tup q (DqAll.ints [(t.1 : Int), (t.2 : Int)])) (dq_ties L Y e2 fun p hp' => hp p (List.mem_cons_of_mem _ hp'))
theorem el_sortSet {K : PySem.W.Frag} {P : Program} {w : World} {ρ : DD.Env} {te : TE} {X Y : List Tie} (h : ED te ρ (tiesD X)) (hl : X.length < 64) (hb : ∀ t ∈ X, t.1 < 64 ∧ t.2 < 64) (hy : Y.Pairwise ltT) (hm : ∀ t, t ∈ Y ↔ t ∈ X) :
    EL (tCB (rSortedT K P w) (tCons (tCB (rSetT K P w) (tCons te tNil)) tNil)) ρ (Y.map tieD) := fun σ H0 H s l q Q k => h σ H0 H s l q _ fun v H1 H1' g q1 => by
  obtain ⟨a, xs, rfl, h1, h2⟩ := q1.tup_inv
  obtain ⟨ks, rfl, rfl, h3⟩ := ties_ks X xs h2
  refine ⟨a, ks.map fun p => (p.1, tn p.2), rfl, .inl (.inl (by rw [List.map_map]; exact g.sub _ _ h1)), fun p hp => ?_, by rw [List.length_map]; rw [List.length_map] at hl; exact hl, fun b L hB hL1 hL2 => ?_⟩
  · obtain ⟨p', hp', rfl⟩ := List.mem_map.mp hp
    exact .inl (.inl (g.sub _ _ (h3 p' hp')))
  · have hL : ∀ p ∈ L, ∃ t, t ∈ ks.map (·.2) ∧ p.2 = tn t ∧ H1 p.1 = some (.tup (p.2.map V.int)) := fun p hp => by
      obtain ⟨p', hp', e⟩ := List.mem_map.mp (hL1 p hp)
      subst e
      exact ⟨p'.2, List.mem_map.mpr ⟨p', hp', rfl⟩, rfl, h3 p' hp'⟩
    refine ⟨b, L, 2, 64, rfl, upd_same, fun p hp => ?_, by decide, fun p hp => ?_, fun L' p hperm hnd hlen hpw hp => ?_⟩
    · obtain ⟨t, _, e, hh⟩ := hL p hp
      refine .inl (.inl ?_)
      rw [upd_ne (fun z => by rw [z] at hh; rw [g.sub _ _ hh] at hB; cases hB)]
      exact g.sub _ _ hh
    · obtain ⟨t, ht, e, _⟩ := hL p hp
      have := hb t ht
      rw [e]
      refine ⟨rfl, ?_⟩
      intro z hz
      rcases List.mem_cons.mp hz with rfl | hz
      · omega
      · rw [List.mem_singleton.mp hz]
        omega
    · have hL' : ∀ p ∈ L', ∃ t, t ∈ ks.map (·.2) ∧ p.2 = tn t ∧ H1 p.1 = some (.tup (p.2.map V.int)) := fun p hp => hL p (hperm.mem_iff.mp hp)
      have hZ : ∃ Z : List Tie, L'.map (·.2) = Z.map tn := by
        have : ∀ M : List (Addr × List Int), (∀ p ∈ M, ∃ t, t ∈ ks.map (·.2) ∧ p.2 = tn t ∧ H1 p.1 = some (.tup (p.2.map V.int))) → ∃ Z : List Tie, M.map (·.2) = Z.map tn := by
          intro M
          induction M with
          | nil => intro _; exact ⟨[], rfl⟩
          | cons p M ih =>
            intro hM
            obtain ⟨t, _, e, _⟩ := hM p (List.mem_cons_self ..)
            obtain ⟨Z, hZ⟩ := ih fun p hp => hM p (List.mem_cons_of_mem _ hp)
            exact ⟨t :: Z, by rw [List.map_cons, List.map_cons, hZ, e]⟩
        exact this L' hL'
      obtain ⟨Z, hZ⟩ := hZ
      have hmem : ∀ t, t ∈ Z ↔ t ∈ ks.map (·.2) := fun t => by
        constructor
        · intro ht
          have : tn t ∈ L'.map (·.2) := by rw [hZ]; exact List.mem_map.mpr ⟨t, ht, rfl⟩
          obtain ⟨p, hp, e⟩ := List.mem_map.mp this
          obtain ⟨t', ht', e', _⟩ := hL' p hp
          rw [← tn_inj (e'.symm.trans e)]
          exact ht'
        · intro ht
          obtain ⟨p, hp, e⟩ := List.mem_map.mp ht
          have h1 := hL2 (p.1, tn p.2) (List.mem_map.mpr ⟨p, hp, rfl⟩)
          have h2 : tn p.2 ∈ L'.map (·.2) := (hperm.map (·.2)).mem_iff.mpr h1
          rw [hZ] at h2
          obtain ⟨t', ht', e'⟩ := List.mem_map.mp h2
          rw [← e, ← tn_inj e']
          exact ht'
      have hasc : Z.Pairwise ltT := by
        have h1 : (Z.map tn).Pairwise (fun x y => TS.code 64 x ≤ TS.code 64 y) := by
          rw [← hZ, List.pairwise_map]
          exact hpw
        have h2 : (Z.map tn).Pairwise (· ≠ ·) := by rw [← hZ]; exact hnd
        rw [List.pairwise_map] at h1 h2
        refine (h1.and h2).imp_of_mem fun {a b} ha' hb' ⟨q1, q2⟩ => ?_
        have b1 := hb a ((hmem a).mp ha')
        have b2 := hb b ((hmem b).mp hb')
        have := pair_lt q1 q2 (by omega) (by omega) (by omega) (by omega)
        unfold ltT
        omega
      have hYZ : Y = Z := asc_eq hy hasc fun t => (hm t).trans (hmem t).symm
      subst hYZ
      refine k p _ H1 _ ((g.trans (.big1 g.sub hB)).trans (.big1 (fun a' o e => ?_) hp)) ?_ ?_ upd_same (dq_ties L' Y hZ fun p hp => ?_)
      · exact same_new hB _ _ (g.sub _ _ e)
      · exact (g.trans (.big1 g.sub hB)).big.free hp
      · exact (show Same H1 (upd H1' b _) from fun a' o e => same_new hB _ _ (g.sub _ _ e)).free hp
      · obtain ⟨t, _, _, hh⟩ := hL' p hp
        exact hh
end K4P
end

section
set_option Elab.async false
set_option linter.all false
set_option maxRecDepth 100000
set_option maxHeartbeats 4000000
/-! Single webs, looked at; webs in order; some tree. -/
namespace K4P
open PySem PySem.Spec PySem.W K4
instance decLtT : DecidableRel ltT := fun a b => by unfold ltT; infer_instance
theorem Web.of_srt {m n : Nat} {T : List Tie} (w : WebU m n T) (hd : T.Nodup) : Web m n (srt1 T) := { w.perm (srt1_perm T) with asc := srt1_asc hd }
theorem count_srt {m n : Nat} {T : List Tie} (w : WebU m n T) : count m n (srt1 T) = count m n T := count_perm w (srt1_perm T)
theorem greedy_bush {m n : Nat} {U : List Tie} (w : Web m n U) : (greedy m (List.range (m + n)) [] U).Pairwise ltT ∧ (greedy m (List.range (m + n)) [] U).length + 1 = m + n ∧ (∀ t ∈ greedy m (List.range (m + n)) [] U, t ∈ U) ∧ one (grown (List.range (m + n)) ((greedy m (List.range (m + n)) [] U).map (ed m))) = true := by
  have h := greedy_mem m U (List.range (m + n)) [] w.len0 w.eds' w.grown
  obtain ⟨h1, h2, h3⟩ := treesW_mem w.toWebU _ h
  exact ⟨w.asc.sublist h1, h2, fun t ht => h1.subset ht, h3⟩
def houseT : List Tie := [(0, 0), (0, 1), (1, 0), (1, 1), (2, 1), (2, 2)]
def houseX : List Tie := [(0, 0), (0, 1), (1, 1), (2, 1), (2, 2)]
def tiedT (m n : Nat) : List Tie := (List.range m).flatMap fun i => (List.range n).map fun j => (i, j)
def ringT (k : Nat) : List Tie := (List.range k).map (fun i => (i, i)) ++ (List.range k).map fun i => (i, (i + 1) % k)
def tailT (m n : Nat) : List Tie := tiedT m n ++ [(m - 1, n), (0, n + 1)]
def bars (m n : Nat) (T : List Tie) : Int := barF (m + n - 1) 1 (tab (red (m + n) (T.map (ed m))) 0 (m + n - 1))
def vt (m n : Nat) : Nat := m ^ (n - 1) * n ^ (m - 1)
def sixteen : List (Nat × Nat) := (List.range 4).flatMap fun i => (List.range 4).map fun j => (i + 1, j + 1)
def singles : List (Nat × Nat) := [(3, 3), (1, 9), (4, 4), (12, 5), (5, 6), (2, 7), (3, 5)]
theorem tied_look : ((singles ++ sixteen).all fun p => webOk p.1 p.2 (tiedT p.1 p.2) && decide ((tiedT p.1 p.2).Pairwise ltT) && (bars p.1 p.2 (tiedT p.1 p.2) == (vt p.1 p.2 : Int))) = true := by decide +kernel
theorem tail_look : (sixteen.all fun p => webOk p.1 (p.2 + 2) (tailT p.1 p.2) && decide ((tailT p.1 p.2).Nodup) && (bars p.1 (p.2 + 2) (tailT p.1 p.2) == (vt p.1 p.2 : Int))) = true := by decide +kernel
theorem ring_look : (([(4, 8), (12, 24)] : List (Nat × Nat)).all fun p => webOk p.1 p.1 (ringT p.1) && decide ((ringT p.1).Nodup) && (bars p.1 p.1 (ringT p.1) == (p.2 : Int))) = true := by decide +kernel
theorem house_look : (webOk 3 3 houseT && decide (houseT.Pairwise ltT) && (bars 3 3 houseT == 4) && webOk 1 1 [(0, 0)] && (bars 1 1 [(0, 0)] == 1)) = true := by decide +kernel
theorem tied_web {m n : Nat} (h : (m, n) ∈ singles ++ sixteen) : Web m n (tiedT m n) ∧ count m n (tiedT m n) = vt m n := by
  have q := List.all_eq_true.mp tied_look _ h
  simp only [Bool.and_eq_true, decide_eq_true_eq, beq_iff_eq] at q
  have w := WebU.of_look q.1.1
  refine ⟨{ w with asc := q.1.2 }, ?_⟩
  have := count_reckon w
  unfold bars at q
  omega
theorem tail_web {m n : Nat} (h : (m, n) ∈ sixteen) : WebU m (n + 2) (tailT m n) ∧ (tailT m n).Nodup ∧ count m (n + 2) (tailT m n) = vt m n := by
  have q := List.all_eq_true.mp tail_look _ h
  simp only [Bool.and_eq_true, decide_eq_true_eq, beq_iff_eq] at q
  have w := WebU.of_look q.1.1
  refine ⟨w, q.1.2, ?_⟩
  have := count_reckon w
  unfold bars at q
  omega
theorem ring_web {k c : Nat} (h : (k, c) ∈ ([(4, 8), (12, 24)] : List (Nat × Nat))) : WebU k k (ringT k) ∧ (ringT k).Nodup ∧ count k k (ringT k) = c := by
  have q := List.all_eq_true.mp ring_look _ h
  simp only [Bool.and_eq_true, decide_eq_true_eq, beq_iff_eq] at q
  have w := WebU.of_look q.1.1
  refine ⟨w, q.1.2, ?_⟩
  have := count_reckon w
  unfold bars at q
  omega
theorem house_web : Web 3 3 houseT ∧ count 3 3 houseT = 4 ∧ Web 1 1 [(0, 0)] ∧ count 1 1 [(0, 0)] = 1 := by
  have q := house_look
  simp only [Bool.and_eq_true, decide_eq_true_eq, beq_iff_eq] at q
  have w := WebU.of_look q.1.1.1.1
  have w1 := WebU.of_look q.1.2
  refine ⟨{ w with asc := q.1.1.1.2 }, ?_, { w1 with asc := List.pairwise_singleton .. }, ?_⟩
  · have := count_reckon w
    unfold bars at q
    omega
  · have := count_reckon w1
    unfold bars at q
    omega
def houseL : List (List Tie) := [[(0, 0), (0, 1), (1, 0), (2, 1), (2, 2)], [(0, 0), (0, 1), (1, 1), (2, 1), (2, 2)], [(0, 0), (1, 0), (1, 1), (2, 1), (2, 2)], [(0, 1), (1, 0), (1, 1), (2, 1), (2, 2)]]
theorem srtT_id {L : List (List Tie)} (h : L.Pairwise fun a b => leT a b = true) : srtT L = L := by
  have t := le_tot tiesD
  exact List.Perm.eq_of_pairwise (le := fun a b => leT a b = true) (fun a b _ _ => leT_anti a b) (List.pairwise_mergeSort t.1 t.2 L) h (srtT_perm L)
theorem house_trees : srtT (treesW 3 3 houseT) = houseL := by
  have p : (treesW 3 3 houseT).Perm houseL := List.isPerm_iff.mp (by decide +kernel)
  rw [srtT_eq p]
  exact srtT_id (by decide +kernel)
theorem lone_trees : srtT (treesW 1 1 [(0, 0)]) = [[(0, 0)]] := by
  have p : treesW 1 1 [(0, 0)] = [[(0, 0)]] := by decide +kernel
  rw [p]
  exact srtT_id (List.pairwise_singleton ..)
theorem shift_inj {m1 n1 : Nat} (h : 0 < m1) {a b : Tie} (e : shiftT m1 n1 a = shiftT m1 n1 b) : a = b := by
  unfold shiftT at e
  have e1 := congrArg Prod.fst e
  have e2 := congrArg Prod.snd e
  simp only at e1 e2
  refine Prod.ext ?_ (by omega)
  split at e1 <;> split at e1 <;> omega
theorem glue_nodup {m1 n1 : Nat} {T1 T2 : List Tie} (w1 : WebU m1 n1 T1) (h1 : T1.Nodup) (h2 : T2.Nodup) : (T1 ++ T2.map (shiftT m1 n1)).Nodup := by
  refine List.nodup_append.mpr ⟨h1, ?_, fun a ha b hb e => ?_⟩
  · rw [List.Nodup, List.pairwise_map]
    exact h2.imp fun {a b} hne e => hne (shift_inj w1.hm e)
  · obtain ⟨t, ht, rfl⟩ := List.mem_map.mp hb
    have := (w1.rng a ha).2
    rw [e] at this
    unfold shiftT at this
    simp only at this
    omega
theorem tied_len (m n : Nat) : (tiedT m n).length = m * n := by
  unfold tiedT
  rw [List.length_flatMap]
  have : (List.range m).map (fun i => ((List.range n).map fun j => (i, j)).length) = (List.range m).map fun _ => n := List.map_congr_left fun i _ => by rw [List.length_map, List.length_range]
  rw [this, List.map_const', List.length_range, List.sum_replicate_nat]
end K4P
end

section
set_option Elab.async false
set_option linter.all false
set_option maxRecDepth 100000
set_option maxHeartbeats 4000000
/-! Draws: a list of three ints that every draw changes; what is drawn is not foreseen. -/
namespace DD
open PySem PySem.Spec L2
def erase (H : Hp) (p : Addr) : Hp := fun a => if a = p then none else H a
theorem erase_same {H : Hp} {p : Addr} : erase H p p = none := if_pos rfl
theorem erase_ne {H : Hp} {p a : Addr} (h : a ≠ p) : erase H p a = H a := if_neg h
section
variable {Hi0 Hi H0 H H0' H' : Hp} {σ : St} {ρ : DD.Env}
theorem StOk.store (s : StOk Hi0 Hi H0 H σ ρ) {j : Nat} {p : Addr} {vs' : List V} {ds ds' : List PyData} (hj : ρ[j]? = some (.own ds)) (hs : σ[j]? = some (some (.ref p))) (q : DqAll H0 vs' ds') :
    StOk Hi0 Hi H0 (upd H p (.lst vs')) σ (ρ.set j (.own ds')) := by
  obtain ⟨p', vs, h1, h2, h3, h4, h5⟩ := s.own j ds hj
  rw [hs] at h1
  cases h1
  have hjl := (List.getElem?_eq_some_iff.mp hj).1
  have key : ∀ i es, (ρ.set j (Sl.own ds'))[i]? = some (Sl.own es) → (i = j ∧ es = ds') ∨ (i ≠ j ∧ ρ[i]? = some (Sl.own es)) := fun i es e => by
    by_cases h : j = i
    · subst h
      rw [List.getElem?_set_self hjl] at e
      cases e
      exact .inl ⟨rfl, rfl⟩
    · rw [List.getElem?_set_ne h] at e
      exact .inr ⟨fun z => h z.symm, e⟩
  have hown : ∀ i es, (ρ.set j (Sl.own ds'))[i]? = some (Sl.own es) → ∃ es', ρ[i]? = some (Sl.own es') := fun i es e => by
    rcases key i es e with ⟨rfl, _⟩ | ⟨_, e'⟩
    · exact ⟨ds, hj⟩
    · exact ⟨es, e'⟩
  refine ⟨s.gr.change h3 h4, by rw [List.length_set, s.len], fun i d' e => ?_, fun i es e => ?_, fun i k es fs q e1 e2 e3 e4 => ?_⟩
  · refine s.dat i d' ?_
    by_cases h : j = i
    · subst h
      rw [List.getElem?_set_self hjl] at e
      cases e
    · rw [List.getElem?_set_ne h] at e
      exact e
  · rcases key i es e with ⟨rfl, rfl⟩ | ⟨hne, e'⟩
    · exact ⟨p, vs', hs, upd_same, h3, h4, q⟩
    · obtain ⟨p2, ws, k1, k2, k3, k4, k5⟩ := s.own i es e'
      have hpp : p2 ≠ p := fun z => hne (s.dis i j es ds p e' hj (z ▸ k1) hs)
      exact ⟨p2, ws, k1, by rw [upd_ne hpp]; exact k2, k3, k4, k5⟩
  · obtain ⟨_, f1⟩ := hown i es e1
    obtain ⟨_, f2⟩ := hown k fs e2
    exact s.dis i k _ _ q f1 f2 e3 e4
theorem StOk.inn {H1 : Hp} (s : StOk Hi0 Hi H0 H σ ρ) (s1 : Same Hi0 H1) (sm : Same H1 H0) : StOk H1 (un H1 Hi) H0 H σ ρ :=
  ⟨grow_in s.gr s1 sm, s.len, s.dat, fun i ds e => by
    obtain ⟨p, vs, h1, h2, h3, h4, h5⟩ := s.own i ds e
    exact ⟨p, vs, h1, h2, h3, un_none.mpr ⟨sm.free h3, h4⟩, h5⟩, s.dis⟩
theorem StOk.outt {H1 H1' : Hp} (g1 : Grow Hi0 Hi H1 H1') (s : StOk H1 (un H1 Hi) H0 H σ ρ) : StOk Hi0 Hi H0 H σ ρ :=
  ⟨grow_out g1 s.gr, s.len, s.dat, fun i ds e => by
    obtain ⟨p, vs, h1, h2, h3, h4, h5⟩ := s.own i ds e
    exact ⟨p, vs, h1, h2, h3, (un_none.mp h4).2, h5⟩, s.dis⟩
end
/-- the three ints, the third small -/
def TB (b c k : Int) : Prop := 0 ≤ b ∧ b < 4611686018427387904 ∧ 0 ≤ c ∧ c ≤ k
def tin (a b c : Int) : List PyData := [.int a, .int b, .int c]
def tinV (a b c : Int) : List V := [.int a, .int b, .int c]
theorem tin_dq (H : Hp) (a b c : Int) : DqAll H (tinV a b c) (tin a b c) := DqAll.ints [a, b, c]
/-- what an expression may make of the state and which datum it gives -/
def EX (te : TE) (ρ : DD.Env) (P : DD.Env → PyData → Prop) : Prop := ∀ (Hi0 Hi H0 H : Hp) (σ : St), StOk Hi0 Hi H0 H σ ρ → ∀ Q : VK, (∀ ρ' d v H0' H', P ρ' d → Same H0 H0' → StOk Hi0 Hi H0' H' σ ρ' → Dq H0' v d → Q v H') → te σ H Q
abbrev At (F : Nat → Addr) (js : List Nat) (σ : St) : Prop := ∀ j ∈ js, σ[j]? = some (some (.ref (F j)))
def OT (Hi0 Hi : Hp) (F : Nat → Addr) (js : List Nat) (ρ : DD.Env) (σ : St) (H : Hp) : Prop := ∃ H0, StOk Hi0 Hi H0 H σ ρ ∧ At F js σ
theorem At.set {F : Nat → Addr} {js : List Nat} {σ : St} {i : Nat} {x : Option V} (h : At F js σ) (hi : i ∉ js) : At F js (σ.set i x) := fun j hj => by
  rw [List.getElem?_set_ne (fun z => hi (by rw [z]; exact hj))]
  exact h j hj
def TX (jt : List Nat) (t : TS) (A B : DD.Env → Prop) : Prop := ∀ (p : Nat → Addr) (Hi0 Hi : Hp) (D : Ends) (σ : St) (H : Hp) (ρ : DD.Env), A ρ → OT Hi0 Hi p jt ρ σ H → (∀ ρ' σ' H', B ρ' → OT Hi0 Hi p jt ρ' σ' H' → D.nx σ' H') → t D σ H
def TXR (jt : List Nat) (t : TS) (A : DD.Env → Prop) (B : DD.Env → PyData → Prop) : Prop := ∀ (p : Nat → Addr) (Hi0 Hi : Hp) (D : Ends) (σ : St) (H : Hp) (ρ : DD.Env), A ρ → OT Hi0 Hi p jt ρ σ H →
  (∀ ρ' d v σ' H0' H', B ρ' d → StOk Hi0 Hi H0' H' σ' ρ' → At p jt σ' → Dq H0' v d → D.rt v H') → t D σ H
section
variable {ρ : DD.Env} {te ta tb : TE} {jt : List Nat} {A B C : DD.Env → Prop} {P : DD.Env → PyData → Prop} {K : PySem.W.Frag} {t u : TS} {d : PyData}
theorem ex_ed (h : ED te ρ d) (hp : P ρ d) : EX te ρ P := fun Hi0 Hi H0 H σ s Q k => h σ H0 H s.gr.sub s.len s.dat Q fun v H1 H1' g q => k ρ d v H1 H1' hp g.base (s.more g) q
theorem ex_imp {P' : DD.Env → PyData → Prop} (h : EX te ρ P') (i : ∀ ρ' d, P' ρ' d → P ρ' d) : EX te ρ P := fun Hi0 Hi H0 H σ s Q k => h Hi0 Hi H0 H σ s Q fun ρ' d v H1 H1' hp => k ρ' d v H1 H1' (i ρ' d hp)
theorem ex_op {r : R2} {P1 : DD.Env → PyData → Prop} (h1 : EX ta ρ P1) (h2 : ∀ ρ1 d1, P1 ρ1 d1 → EX tb ρ1 (fun ρ2 d2 => ∃ z, R2D r d1 d2 z ∧ P ρ2 z)) : EX (tOp r ta tb) ρ P := fun Hi0 Hi H0 H σ s Q k =>
  h1 Hi0 Hi H0 H σ s _ fun ρ1 d1 x H1 H1' p1 sm1 s1 q1 => h2 ρ1 d1 p1 Hi0 Hi H1 H1' σ s1 _ fun ρ2 d2 y H2 H2' ⟨z, hr, p2⟩ sm2 s2 q2 => hr x y H2 H2' s2.gr.sub (q1.up sm2) q2 _ fun v H3 H3' g q => k ρ2 z v H3 H3' p2 ((sm1.trans sm2).trans g.base) (s2.more g) q
theorem ex_lenO {j : Nat} {ds : List PyData} (hj : ρ[j]? = some (.own ds)) (hp : P ρ (.int (ds.length : Nat))) : EX (tCB (fun xs H Q => ∃ p ys, xs = [.ref p] ∧ (SqL K H p ys ∨ SqT K H p ys) ∧ Q (.int ys.length) H) (tCons (tVar j) tNil)) ρ P := fun Hi0 Hi H0 H σ s Q k => by
  obtain ⟨p, vs, h1, h2, h3, h4, h5⟩ := s.own j ds hj
  exact ⟨_, h1, p, vs, rfl, .inl (.inl (.inl h2)), k ρ _ _ H0 H hp (Same.refl _) s (by rw [h5.len]; exact .int _)⟩
theorem tx_seq (h1 : TX jt t A B) (h2 : TX jt u B C) : TX jt (tSeq t u) A C := fun p Hi0 Hi D σ H ρ a o k => h1 p Hi0 Hi { D with nx := u D } σ H ρ a o fun ρ' σ' H' b o' => h2 p Hi0 Hi D σ' H' ρ' b o' k
theorem txr_seq (h1 : TX jt t A B) (h2 : TXR jt u B P) : TXR jt (tSeq t u) A P := fun p Hi0 Hi D σ H ρ a o k => h1 p Hi0 Hi { D with nx := u D } σ H ρ a o fun ρ' σ' H' b o' => h2 p Hi0 Hi D σ' H' ρ' b o' k
theorem tx_imp (h : TX jt t A B) (i : ∀ ρ, B ρ → C ρ) : TX jt t A C := fun p Hi0 Hi D σ H ρ a o k => h p Hi0 Hi D σ H ρ a o fun ρ' σ' H' b => k ρ' σ' H' (i ρ' b)
theorem tx_pre (h : ∀ ρ, A ρ → TX jt t (· = ρ) B) : TX jt t A B := fun p Hi0 Hi D σ H ρ a o k => h ρ a p Hi0 Hi D σ H ρ rfl o k
theorem txr_pre (h : ∀ ρ, A ρ → TXR jt t (· = ρ) P) : TXR jt t A P := fun p Hi0 Hi D σ H ρ a o k => h ρ a p Hi0 Hi D σ H ρ rfl o k
theorem tx_next (h : ∀ ρ, A ρ → B ρ) : TX jt tNext A B := fun p Hi0 Hi D σ H ρ a o k => k ρ σ H (h ρ a) o
theorem tx_asg {i : Nat} (hi : i ∉ jt) (h : ∀ ρ, A ρ → EX te ρ fun ρ' d => B (ρ'.set i (.dat d))) : TX jt (tAsg te (gName i)) A B := fun p Hi0 Hi D σ H ρ a ⟨H0, s, hp⟩ k =>
  h ρ a Hi0 Hi H0 H σ s _ fun ρ' d v H1 H1' b sm s1 q => k _ _ _ b ⟨H1, s1.setD i q, hp.set hi⟩
theorem setS_slot {H0 : Hp} {F : Nat → Addr} {js : List Nat} : ∀ {ws : List (Nat × V)} {us : List (Nat × PyData)} {σ : St}, Match H0 ws us → (∀ u ∈ us, u.1 ∉ js) → At F js σ → At F js (DD.setS σ ws) := by
  intro ws us σ m h e
  induction m generalizing σ with
  | nil => exact e
  | cons q m ih => exact ih (fun u hu => h u (List.mem_cons_of_mem _ hu)) (e.set (h _ (List.mem_cons_self ..)))
theorem tx_tgt {g : TG} (h : ∀ ρ, A ρ → EX te ρ fun ρ' d => ∃ us, TgtD g d us ∧ (∀ u ∈ us, u.1 ∉ jt) ∧ B (setE ρ' us)) : TX jt (tAsg te g) A B := fun p Hi0 Hi D σ H ρ a ⟨H0, s, hp⟩ k =>
  h ρ a Hi0 Hi H0 H σ s _ fun ρ' d v H1 H1' ⟨us, hg, hu, b⟩ sm s1 q => by
    obtain ⟨ws, mm, go⟩ := hg H1 H1' v s1.gr.sub q
    exact go σ _ (k _ _ _ b ⟨H1, s1.setS mm, setS_slot mm hu hp⟩)
theorem tx_asgL {i : Nat} (hi : i ∉ jt) (h : ∀ ρ, A ρ → ∃ ds, EL te ρ ds ∧ B (ρ.set i (.own ds))) : TX jt (tAsg te (gName i)) A B := fun p Hi0 Hi D σ H ρ a ⟨H0, s, hp⟩ k => by
  obtain ⟨ds, hl, b⟩ := h ρ a
  exact hl σ H0 H s.gr.sub s.len s.dat _ fun p' vs H1 H1' g hp' h0 h1 q => k _ _ _ b ⟨H1, (s.more g).setO i h1 h0 (s.gr.big.free hp') (fun i es q h h2 => ownNe (H1 := H1) (H1' := H1') s hp' i es q h h2) q, hp.set hi⟩
theorem tx_if {c : TT} (h : ∀ ρ, A ρ → ∃ b, ET c ρ b ∧ (b = true → TX jt t (· = ρ) B) ∧ (b = false → TX jt u (· = ρ) B)) : TX jt (tIfS c t u) A B := fun p Hi0 Hi D σ H ρ a ⟨H0, s, hp⟩ k => by
  obtain ⟨b, hc, h1, h2⟩ := h ρ a
  refine hc σ H0 H s.gr.sub s.len s.dat _ fun H1 H1' g => ?_
  cases b with
  | true => exact iteT (h1 rfl p Hi0 Hi D σ H1' ρ rfl ⟨H1, s.more g, hp⟩ k)
  | false => exact iteF (h2 rfl p Hi0 Hi D σ H1' ρ rfl ⟨H1, s.more g, hp⟩ k)
theorem txr_ret (h : ∀ ρ, A ρ → EX te ρ P) : TXR jt (tRet te) A P := fun p Hi0 Hi D σ H ρ a ⟨H0, s, hp⟩ k => h ρ a Hi0 Hi H0 H σ s _ fun ρ' d v H1 H1' pp sm s1 q => k ρ' d v σ H1 H1' pp s1 hp q
/-- found.append(e) -/
theorem tx_app {j : Nat} (hj : j ∉ jt) (h : ∀ ρ, A ρ → (∃ es, ρ[j]? = some (.own es)) ∧ EX te ρ fun ρ' d => ∃ es, ρ'[j]? = some (.own es) ∧ es.length < 100000 ∧ B (ρ'.set j (.own (es ++ [d])))) : TX jt (tDrop (tBM K "list" rAppend (tVar j) (tCons te tNil))) A B := fun p Hi0 Hi D σ H ρ a ⟨H0, s, hp⟩ k => by
  obtain ⟨⟨es0, e0⟩, he⟩ := h ρ a
  obtain ⟨pf, vs, h1, h2, h3, h4, h5⟩ := s.own j es0 e0
  refine ⟨.ref pf, h1, .inl ⟨rfl, _, .inl (.inl h2)⟩, he Hi0 Hi H0 H σ s _ fun ρ' d v H1 H1' ⟨es, e1, hl, b⟩ sm s1 q => ?_⟩
  obtain ⟨pf', vs', k1, k2, k3, k4, k5⟩ := s1.own j es e1
  rw [h1] at k1
  cases k1
  refine ⟨pf, vs', v, rfl, rfl, k2, ?_, k _ _ _ b ⟨H1, s1.push e1 h1 k2 q, hp⟩⟩
  rw [k5.len]
  exact Nat.lt_of_lt_of_le hl (by decide)
/-- pool.pop(i) -/
theorem ex_pop {j : Nat} (h0 : ∃ es, ρ[j]? = some (.own es)) (h : EX te ρ fun ρ' d => ∃ (es : List PyData) (i : Nat) (z : PyData), d = .int (i : Nat) ∧ ρ'[j]? = some (.own es) ∧ es[i]? = some z ∧ i < 100000 ∧ P (ρ'.set j (.own (es.eraseIdx i))) z) : EX (tBM K "list" rPopAt (tVar j) (tCons te tNil)) ρ P := fun Hi0 Hi H0 H σ s Q k => by
  obtain ⟨es0, e0⟩ := h0
  obtain ⟨pf, vs, h1, h2, h3, h4, h5⟩ := s.own j es0 e0
  refine ⟨.ref pf, h1, .inl ⟨rfl, _, .inl (.inl h2)⟩, h Hi0 Hi H0 H σ s _ fun ρ' d v H1 H1' ⟨es, i, z, hd, e1, ez, hi, b⟩ sm s1 q => ?_⟩
  subst hd
  rw [q.int_inv]
  obtain ⟨pf', vs', k1, k2, k3, k4, k5⟩ := s1.own j es e1
  rw [h1] at k1
  cases k1
  obtain ⟨y, hy, qy⟩ := k5.get ez
  have hlt := (List.getElem?_eq_some_iff.mp hy).1
  have herase : DqAll H1 (vs'.eraseIdx i) (es.eraseIdx i) := by
    rw [List.eraseIdx_eq_take_drop_succ, List.eraseIdx_eq_take_drop_succ]
    exact (k5.take i).append (k5.drop (i + 1))
  refine ⟨pf, vs', (i : Int), i, y, rfl, rfl, k2, by omega, by omega, ?_, hy, k _ _ _ H1 _ b sm (s1.store e1 h1 herase) qy⟩
  exact (ixN_seq (n := vs'.length) (i := (i : Int)) (j := i) (by unfold ixN; rw [if_pos (by omega), if_pos (by omega)]; rfl)).1
end
/-! whole numbers, the heap as it is -/
def JI (te : TE) (σ : St) (H : Hp) (k : Int) : Prop := ∀ Q : VK, Q (.int k) H → te σ H Q
section
variable {te ta tb : TE} {σ : St} {H : Hp} {K : PySem.W.Frag}
theorem ji_var {i : Nat} {k : Int} (h : σ[i]? = some (some (.int k))) : JI (tVar i) σ H k := fun Q q => ⟨_, h, q⟩
theorem ji_int {k : Int} : JI (tC (.int k)) σ H k := fun Q q => q
theorem ji_op {g : Int → Int → Int} {a b : Int} (h1 : JI ta σ H a) (h2 : JI tb σ H b) : JI (tOp (rI0 fun i j => .int (g i j)) ta tb) σ H (g a b) := fun Q q => h1 _ (h2 _ ⟨a, b, rfl, rfl, q⟩)
theorem ji_opC {Cc : Int → Int → Prop} {g : Int → Int → Int} {a b : Int} (h1 : JI ta σ H a) (h2 : JI tb σ H b) (hc : Cc a b) : JI (tOp (rI Cc fun i j => .int (g i j)) ta tb) σ H (g a b) := fun Q q => h1 _ (h2 _ ⟨a, b, rfl, rfl, hc, q⟩)
theorem ji_cast {k : Int} (h : JI te σ H k) : JI (tCB (fun xs H Q => (∃ i, xs = [.int i] ∧ Q (.int i) H) ∨ ∃ k, xs = [.bl k] ∧ Q (.int (if k then 1 else 0)) H) (tCons te tNil)) σ H k := fun Q q => h _ (.inl ⟨k, rfl, q⟩)
theorem ji_at {j : Nat} {i k : Int} {p : Addr} {xs : List V} (h : σ[j]? = some (some (.ref p))) (hp : H p = some (.lst xs)) (hi : JI tb σ H i) (e : atI xs i = some (.int k)) : JI (tOp (rIxL K) (tVar j) tb) σ H k := fun Q q => ⟨_, h, hi _ ⟨p, xs, i, .int k, rfl, rfl, .inl (.inl hp), e, q⟩⟩
end
def S_take : Sp := fun vs H Q _ => ∃ (p : Addr) (n a b c k : Int), vs = [.ref p, .int n] ∧ 0 < n ∧ n < 1000000 ∧ H p = some (.lst (tinV a b c)) ∧ TB b c k ∧ k ≤ 1000000 ∧ ∀ (r a' c' : Int), 0 ≤ r → r < n → TB b c' (k + 1) → Q (.int r) (upd H p (.lst (tinV a' b c')))
def S_of : Sp := fun vs H Q _ => ∃ (p q : Addr) (ns : List Int) (a b c k : Int), vs = [.ref p, .ref q] ∧ p ≠ q ∧ H q = some (.lst (ns.map V.int)) ∧ 0 < ns.length ∧ ns.length < 1000000 ∧ H p = some (.lst (tinV a b c)) ∧ TB b c k ∧ k ≤ 1000000 ∧ ∀ (r a' c' : Int), r ∈ ns → TB b c' (k + 1) → Q (.int r) (upd H p (.lst (tinV a' b c')))
/-- a def that draws and makes a datum -/
def DrawT (n : Int) (Dom : List PyData → Prop) (R : List PyData → PyData → Prop) : Sp := fun vs H Q _ => ∃ (p : Addr) (vs' : List V) (H0 : Hp) (ds : List PyData) (a b c k : Int), vs = .ref p :: vs' ∧ Same H0 H ∧ H0 p = none ∧ H p = some (.lst (tinV a b c)) ∧ TB b c k ∧ k + n ≤ 1000000 ∧ DqAll H0 vs' ds ∧ Dom ds ∧
  ∀ (d : PyData) (v : V) (a' b' c' : Int) (H0' H' : Hp), R ds d → Grow H0 (erase H p) H0' H' → H0' p = none → H' p = some (.lst (tinV a' b' c')) → TB b' c' (k + n) → Dq H0' v d → Q v H'
section
variable {ρ : DD.Env} {te : TE} {ta : TA} {jt : Nat} {P : DD.Env → PyData → Prop} {K : PySem.W.Frag} {E : XK}
theorem ex_take {a b c : Int} (h0 : ρ[jt]? = some (.own (tin a b c))) (h : EX te ρ fun ρ' d => ∃ (n a b c k : Int), d = .int n ∧ 0 < n ∧ n < 1000000 ∧ ρ'[jt]? = some (.own (tin a b c)) ∧ TB b c k ∧ k ≤ 1000000 ∧ ∀ r a' c', 0 ≤ r → r < n → TB b c' (k + 1) → P (ρ'.set jt (.own (tin a' b c'))) (.int r)) :
    EX (tCall S_take [] E (tCons (tVar jt) (tCons te tNil))) ρ P := fun Hi0 Hi H0 H σ s Q k => by
  obtain ⟨p, vs, h1, h2, h3, h4, h5⟩ := s.own jt _ h0
  refine ⟨.ref p, h1, h Hi0 Hi H0 H σ s _ fun ρ' d v H1 H1' ⟨n, a, b, c, kk, hd, hn, hn2, e1, tb, hk, pp⟩ sm s1 q => ?_⟩
  subst hd
  rw [q.int_inv]
  obtain ⟨p', vs', k1, k2, k3, k4, k5⟩ := s1.own jt _ e1
  rw [h1] at k1
  cases k1
  have ev : vs' = tinV a b c := k5.ints_inv [a, b, c] vs'
  subst ev
  exact ⟨p, n, a, b, c, kk, rfl, hn, hn2, k2, tb, hk, fun r a' c' h6 h7 tb' => k _ _ _ H1 _ (pp r a' c' h6 h7 tb') sm (s1.store e1 h1 (tin_dq H1 a' b c')) (.int _)⟩
theorem ex_of {a b c k : Int} {j : Nat} {ns : List Int} (h0 : ρ[jt]? = some (.own (tin a b c))) (hj : ρ[j]? = some (.own (ns.map .int))) (hne : j ≠ jt) (tb : TB b c k) (hk : k ≤ 1000000) (hl : 0 < ns.length ∧ ns.length < 1000000) (hp : ∀ r a' c', r ∈ ns → TB b c' (k + 1) → P (ρ.set jt (.own (tin a' b c'))) (.int r)) :
    EX (tCall S_of [] E (tCons (tVar jt) (tCons (tVar j) tNil))) ρ P := fun Hi0 Hi H0 H σ s Q kk => by
  obtain ⟨p, vs, h1, h2, h3, h4, h5⟩ := s.own jt _ h0
  obtain ⟨q, ws, g1, g2, g3, g4, g5⟩ := s.own j _ hj
  have ev : vs = tinV a b c := h5.ints_inv [a, b, c] vs
  have ew : ws = ns.map V.int := g5.ints_inv ns ws
  subst ev ew
  have hpq : p ≠ q := fun z => hne (s.dis j jt _ _ q hj h0 g1 (z ▸ h1))
  exact ⟨.ref p, h1, .ref q, g1, p, q, ns, a, b, c, k, rfl, hpq, g2, hl.1, hl.2, h2, tb, hk, fun r a' c' hr tb' => kk _ _ _ H0 _ (hp r a' c' hr tb') (Same.refl _) (s.store h0 h1 (tin_dq H0 a' b c')) (.int _)⟩
theorem StOk.draw {Hi0 Hi H0 H H1 H1' : Hp} {σ : St} {p : Addr} {ds : List PyData} {a b c : Int} (s : StOk Hi0 Hi H0 H σ ρ) (h0 : ρ[jt]? = some (.own ds)) (h1 : σ[jt]? = some (some (.ref p))) (g : Grow H0 (erase H p) H1 H1') (e0 : H1 p = none) (e1 : H1' p = some (.lst (tinV a b c))) : StOk Hi0 Hi H1 H1' σ (ρ.set jt (.own (tin a b c))) := by
  obtain ⟨p', vs, h1', h2, h3, h4, h5⟩ := s.own jt _ h0
  rw [h1] at h1'
  cases h1'
  have hjl := (List.getElem?_eq_some_iff.mp h0).1
  have key : ∀ i es, (ρ.set jt (Sl.own (tin a b c)))[i]? = some (Sl.own es) → (i = jt ∧ es = tin a b c) ∨ (i ≠ jt ∧ ρ[i]? = some (Sl.own es)) := fun i es e => by
    by_cases h : jt = i
    · subst h
      rw [List.getElem?_set_self hjl] at e
      cases e
      exact .inl ⟨rfl, rfl⟩
    · rw [List.getElem?_set_ne h] at e
      exact .inr ⟨fun z => h z.symm, e⟩
  have hown : ∀ i es, (ρ.set jt (Sl.own (tin a b c)))[i]? = some (Sl.own es) → ∃ es', ρ[i]? = some (Sl.own es') := fun i es e => by
    rcases key i es e with ⟨z, _⟩ | ⟨_, e'⟩
    · exact ⟨ds, by rw [z]; exact h0⟩
    · exact ⟨es, e'⟩
  have hbig : ∀ x o, x ≠ p → H x = some o → H1' x = some o := fun x o hx e => g.big x o (by rw [erase_ne hx]; exact e)
  have hnew : ∀ x (o : List V), x ≠ p → H x = some (.lst o) → H0 x = none → H1 x = none := fun x o hx e n0 => by
    cases q : H1 x with
    | none => rfl
    | some o' =>
      rcases g.new x o' q with ⟨u, hu⟩ | hu | ⟨xs, hu⟩
      · rw [n0] at hu
        cases hu
      · rw [erase_ne hx, e] at hu
        cases hu
      · rw [erase_ne hx, e] at hu
        cases hu
  refine ⟨⟨s.gr.base.trans g.base, g.sub, fun x o e => ?_, fun x o e => ?_⟩, by rw [List.length_set, s.len], fun i d' e => ?_, fun i es e => ?_, fun i k es fs q f1 f2 f3 f4 => ?_⟩
  · refine hbig x o (fun z => ?_) (s.gr.big x o e)
    rw [z, h4] at e
    cases e
  · rcases g.new x o e with ⟨u, hu⟩ | hu | ⟨xs, hu⟩
    · exact s.gr.new x u hu
    · by_cases z : x = p
      · exact .inr (.inl (z ▸ h4))
      · rw [erase_ne z] at hu
        exact .inr (.inl (s.gr.big.free hu))
    · have z : x ≠ p := fun z => by
        rw [z, erase_same] at hu
        cases hu
      rw [erase_ne z] at hu
      rcases q : Hi x with _ | o'
      · exact .inr (.inl rfl)
      · have w := s.gr.big x o' q
        rw [hu] at w
        cases w
        exact .inr (.inr ⟨xs, rfl⟩)
  · by_cases h : jt = i
    · subst h
      rw [List.getElem?_set_self hjl] at e
      cases e
    · rw [List.getElem?_set_ne h] at e
      obtain ⟨v, k1, k2⟩ := s.dat i d' e
      exact ⟨v, k1, k2.up g.base⟩
  · rcases key i es e with ⟨z, z2⟩ | ⟨hne, e'⟩
    · rw [z, z2]
      exact ⟨p, _, h1, e1, e0, h4, tin_dq H1 a b c⟩
    · obtain ⟨p2, ws, k1, k2, k3, k4, k5⟩ := s.own i es e'
      have hpp : p2 ≠ p := fun z => hne (s.dis i jt es ds p e' h0 (z ▸ k1) h1)
      exact ⟨p2, ws, k1, hbig p2 _ hpp k2, hnew p2 _ hpp k2 k3, k4, k5.up g.base⟩
  · obtain ⟨_, m1⟩ := hown i es f1
    obtain ⟨_, m2⟩ := hown k fs f2
    exact s.dis i k _ _ q m1 m2 f3 f4
/-- a call that draws and makes a datum -/
theorem ex_draw {n : Int} {Dom : List PyData → Prop} {R : List PyData → PyData → Prop} {ds : List PyData} {a b c k : Int} (h0 : ρ[jt]? = some (.own (tin a b c))) (h : EA ta ρ ds) (tb : TB b c k) (hk : k + n ≤ 1000000) (hd : Dom ds) (hp : ∀ d a' b' c', R ds d → TB b' c' (k + n) → P (ρ.set jt (.own (tin a' b' c'))) d) :
    EX (tCall (DrawT n Dom R) [] E (tCons (tVar jt) ta)) ρ P := fun Hi0 Hi H0 H σ s Q kk => by
  obtain ⟨p, vs, h1, h2, h3, h4, h5⟩ := s.own jt _ h0
  have ev : vs = tinV a b c := h5.ints_inv [a, b, c] vs
  subst ev
  refine ⟨.ref p, h1, h σ H0 H s.gr.sub s.len s.dat _ fun vs' H1 H1' g q => ?_⟩
  have s1 := s.more g
  refine ⟨p, vs', H1, ds, a, b, c, k, List.append_nil _, g.sub, g.out h3 h2, g.big _ _ h2, tb, hk, q, hd, fun d v a' b' c' H2 H2' hr g2 e0 e1 tb' qv => ?_⟩
  exact kk _ d v H2 H2' (hp d a' b' c' hr tb') (g.base.trans g2.base) (s1.draw h0 h1 g2 e0 e1) qv
/-- the start of a def that draws -/
theorem draw_start {N : List Str} {vs : List V} {H0 H : Hp} {p : Addr} {ds : List PyData} {a b c : Int} (s : Same H0 H) (h0 : H0 p = none) (hp : H p = some (.lst (tinV a b c))) (q : DqAll H0 vs ds) : OT H0 (erase H p) (fun _ => p) [0] (.own (tin a b c) :: (ds.map .dat ++ List.replicate (N.length - (ds.length + 1)) .no)) (L2.start N (.ref p :: vs)) H := by
  have hno : ∀ (i : Nat) (x : Sl), (Sl.own (tin a b c) :: (ds.map Sl.dat ++ List.replicate (N.length - (ds.length + 1)) .no))[i]? = some x → (i = 0 ∧ x = .own (tin a b c)) ∨ (0 < i ∧ (x = .no ∨ ∃ d, ds[i - 1]? = some d ∧ x = .dat d)) := fun i x e => by
    cases i with
    | zero => exact .inl ⟨rfl, (Option.some.inj e).symm⟩
    | succ i =>
      rw [List.getElem?_cons_succ] at e
      refine .inr ⟨Nat.zero_lt_succ _, ?_⟩
      by_cases h : i < ds.length
      · rw [List.getElem?_append_left (by rw [List.length_map]; exact h), List.getElem?_map] at e
        obtain ⟨d, h1, h2⟩ := Option.map_eq_some_iff.mp e
        exact .inr ⟨d, h1, h2.symm⟩
      · rw [List.getElem?_append_right (by rw [List.length_map]; omega), List.getElem?_replicate] at e
        split at e
        · exact .inl (Option.some.inj e).symm
        · cases e
  refine ⟨H0, ⟨⟨Same.refl _, s, fun x o e => ?_, fun x o e => .inl ⟨o, e⟩⟩, ?_, fun i d e => ?_, fun i es e => ?_, fun i j es fs q' e1 e2 e3 e4 => ?_⟩, fun j hj => by rw [List.mem_singleton.mp hj]; rfl⟩
  · by_cases z : x = p
    · rw [z, erase_same] at e
      cases e
    · rw [erase_ne z] at e
      exact e
  · unfold L2.start
    rw [List.length_append, List.length_map, List.length_cons, List.length_replicate, List.length_cons, List.length_append, List.length_map, List.length_replicate, q.len]
    omega
  · rcases hno i _ e with ⟨_, z⟩ | ⟨hi, z | ⟨d', h1, h2⟩⟩
    · cases z
    · cases z
    · cases h2
      obtain ⟨v, h3, h4⟩ := q.get h1
      refine ⟨v, ?_, h4⟩
      obtain ⟨i', rfl⟩ : ∃ i', i = i' + 1 := ⟨i - 1, by omega⟩
      unfold L2.start
      rw [List.map_cons, List.cons_append, List.getElem?_cons_succ, List.getElem?_append_left (by rw [List.length_map]; exact (List.getElem?_eq_some_iff.mp h3).1), List.getElem?_map]
      rw [Nat.add_sub_cancel] at h3
      rw [h3]
      rfl
  · rcases hno i _ e with ⟨rfl, z⟩ | ⟨hi, z | ⟨d', h1, h2⟩⟩
    · cases z
      exact ⟨p, tinV a b c, rfl, hp, h0, erase_same, tin_dq H0 a b c⟩
    · cases z
    · cases h2
  · rcases hno i _ e1 with ⟨rfl, _⟩ | ⟨hi, z | ⟨d', h1, h2⟩⟩
    · rcases hno j _ e2 with ⟨rfl, _⟩ | ⟨hi, z | ⟨d', h1, h2⟩⟩
      · rfl
      · cases z
      · cases h2
    · cases z
    · cases h2
end
section
variable {jt : List Nat} {A B : DD.Env → Prop}
/-- for .. in a list that is made on the spot -/
theorem tx_forS {wi : TI} {g : TG} {tb : TS} {β : Type} (dsOf : β → List PyData) (I : β → Nat → DD.Env → Prop)
    (hs : ∀ ρ, A ρ → ∀ (Hi0 Hi H0 H : Hp) (σ : St), StOk Hi0 Hi H0 H σ ρ → ∀ R : It → Hp → Prop, (∀ x ρ' J H1 H1', I x 0 ρ' → Same H0 H1 → StOk Hi0 Hi H1 H1' σ ρ' → (∃ Y, Walk J (dsOf x).length (Same H1) Y ∧ ∀ i Hc y Hc', i < (dsOf x).length → Y i Hc y Hc' → ∀ Hb, Same H1 Hb → Same Hb Hc → ∃ Hb' d, (dsOf x)[i]? = some d ∧ Grow Hb Hc Hb' Hc' ∧ Dq Hb' y d) → R J H1') → wi σ H R)
    (hb : ∀ x i d, (dsOf x)[i]? = some d → ∀ ρ, I x i ρ → ∃ us, TgtD g d us ∧ (∀ u ∈ us, u.1 ∉ jt) ∧ TX jt tb (· = setE ρ us) (I x (i + 1))) (he : ∀ x ρ, I x (dsOf x).length ρ → B ρ) : TX jt (tFor wi g tb) A B := fun p Hi0 Hi D σ H ρ a ⟨H0, s, hp⟩ k =>
  hs ρ a Hi0 Hi H0 H σ s _ fun x ρ1 J H1 H1' i0 sm0 s1 ⟨Y, w, hy⟩ => by
    refine for_it w (fun i σ' Hc => ∃ ρ' Hb, I x i ρ' ∧ StOk Hi0 Hi Hb Hc σ' ρ' ∧ At p jt σ' ∧ Same H1 Hb) ⟨ρ1, H1, i0, s1, hp, Same.refl _⟩ (fun i σ' Hc _ ⟨_, Hb, _, sb, _, sm⟩ => sm.trans sb.gr.sub) (fun i y σ' Hc Hc' hi ⟨ρ', Hb, ii, sb, hpb, sm⟩ yy => ?_) (fun σ' Hc ⟨ρ', Hb, ii, sb, hpb, _⟩ => k ρ' σ' Hc (he x ρ' ii) ⟨Hb, sb, hpb⟩)
    obtain ⟨Hb', d, ed, gc, qd⟩ := hy i Hc y Hc' hi yy Hb sm sb.gr.sub
    obtain ⟨us, hg, hu, hr⟩ := hb x i d ed ρ' ii
    obtain ⟨ws, mm, go⟩ := hg Hb' Hc' y gc.sub qd
    refine go σ' _ ?_
    have s2 := (sb.more gc).setS mm
    have sm2 : Same H1 Hb' := sm.trans gc.base
    exact hr p H1 (un H1 Hi) { D with nx := _, ct := _, bk := D.nx } _ _ _ rfl ⟨Hb', s2.inn s1.gr.base sm2, setS_slot mm hu hpb⟩ fun ρ'' σ'' H'' b ⟨Hz, sz, hz⟩ => ⟨ρ'', Hz, b, sz.outt s1.gr, hz, sz.gr.base⟩
theorem tx_forL {te : TE} {g : TG} {tb : TS} {K : PySem.W.Frag} (I : List PyData → Nat → DD.Env → Prop) (hs : ∀ ρ, A ρ → EX te ρ fun ρ' d => ∃ ds, d = .list ds ∧ I ds 0 ρ')
    (hb : ∀ ds i d, ds[i]? = some d → ∀ ρ, I ds i ρ → ∃ us, TgtD g d us ∧ (∀ u ∈ us, u.1 ∉ jt) ∧ TX jt tb (· = setE ρ us) (I ds (i + 1))) (he : ∀ ds ρ, I ds ds.length ρ → B ρ) : TX jt (tFor (iList K te) g tb) A B :=
  tx_forS (fun ds => ds) I (fun ρ a Hi0 Hi H0 H σ s R k => hs ρ a Hi0 Hi H0 H σ s _ fun ρ' d v H1 H1' ⟨ds, e, i0⟩ sm s1 q => by
    subst e
    obtain ⟨ad, xs, rfl, h1, h2⟩ := q.lst_inv
    refine ⟨ad, rfl, ⟨xs, .inl (.inl (s1.gr.sub _ _ h1))⟩, k ds ρ' _ H1 H1' i0 sm s1 ⟨YAt xs, ?_, fun i Hc x Hc' hi y Hb b1 b2 => ?_⟩⟩
    · rw [← h2.len]
      exact walk_list.mono (fun H z => .inl (.inl (z _ _ h1))) (fun _ _ _ _ _ _ y => y)
    · obtain ⟨rfl, y⟩ := y
      obtain ⟨d, e, q⟩ := h2.getV y
      exact ⟨Hb, d, e, .refl b2, q.up b1⟩) hb he
theorem tx_forR {te : TE} {g : TG} {tb : TS} (I : Nat → Nat → DD.Env → Prop) (hs : ∀ ρ, A ρ → EX te ρ fun ρ' d => ∃ n : Nat, d = .int (n : Int) ∧ n ≤ 100000 ∧ I n 0 ρ')
    (hb : ∀ n (i : Nat), i < n → ∀ ρ, I n i ρ → ∃ us, TgtD g (.int (i : Int)) us ∧ (∀ u ∈ us, u.1 ∉ jt) ∧ TX jt tb (· = setE ρ us) (I n (i + 1))) (he : ∀ n ρ, I n n ρ → B ρ) : TX jt (tFor (iRng1 (tCons te tNil)) g tb) A B :=
  tx_forS (fun n => rngD 0 n) I (fun ρ a Hi0 Hi H0 H σ s R k => hs ρ a Hi0 Hi H0 H σ s _ fun ρ' d v H1 H1' ⟨n, e, hn, i0⟩ sm s1 q => by
    subst e
    refine ⟨(n : Int), by rw [q.int_inv], by omega, by omega, ?_⟩
    rw [Int.toNat_natCast]
    refine k n ρ' _ H1 H1' i0 sm s1 ⟨YFn fun i => .int (0 + i), ?_, fun i Hc x Hc' hi y Hb b1 b2 => ?_⟩
    · rw [rngD_len]
      exact walk_range.mono (fun _ _ => trivial) (fun _ _ _ _ _ _ y => y)
    · obtain ⟨rfl, rfl⟩ := y
      rw [rngD_len] at hi
      exact ⟨Hb, _, rngD_get 0 n i hi, .refl b2, .int _⟩) (fun n i d hd ρ ii => by
    have hi := (List.getElem?_eq_some_iff.mp hd).1
    rw [rngD_len] at hi
    rw [rngD_get 0 n i hi, Int.zero_add] at hd
    cases hd
    exact hb n i hi ρ ii) (fun n ρ ii => he n ρ (by rw [rngD_len] at ii; exact ii))
end
end DD
namespace DD
open PySem PySem.Spec L2
def JB (te : TE) (σ : St) (H : Hp) (b : Bool) : Prop := ∀ Q : VK, Q (.bl b) H → te σ H Q
section
variable {te ta tb ti : TE} {σ : St} {H : Hp} {t u : TS} {D : Ends}
theorem jb_op {g : Int → Int → Bool} {a b : Int} (h1 : JI ta σ H a) (h2 : JI tb σ H b) : JB (tOp (rI0 fun i j => .bl (g i j)) ta tb) σ H (g a b) := fun Q q => h1 _ (h2 _ ⟨a, b, rfl, rfl, q⟩)
theorem j_if {b : Bool} (h : JB te σ H b) (h1 : b = true → t D σ H) (h2 : b = false → u D σ H) : tIfS (tTest te) t u D σ H := h _ ⟨b, rfl, by
  cases b with
  | true => exact iteT (h1 rfl)
  | false => exact iteF (h2 rfl)⟩
theorem j_ifr {v : TS} {b : Bool} (h : JB te σ H b) (h1 : b = true → t { D with nx := v D } σ H) (h2 : b = false → v D σ H) : tSeq (tIfS (tTest te) t tNext) v D σ H := j_if (D := { D with nx := v D }) h h1 h2
theorem j_asg {i : Nat} {k : Int} (h : JI te σ H k) (q : u D (σ.set i (some (.int k))) H) : tSeq (tAsg te (gName i)) u D σ H := h _ q
theorem j_store {j : Nat} {i k : Int} {n : Nat} {p : Addr} {xs : List V} (h : JI te σ H k) (h1 : σ[j]? = some (some (.ref p))) (hp : H p = some (.lst xs)) (hi : JI ti σ H i) (hn : ixN xs.length i = some n) (q : u D σ (upd H p (.lst (xs.set n (.int k))))) : tSeq (tAsg te (gSub (tVar j) ti rSetL)) u D σ H := h _ ⟨_, h1, hi _ ⟨p, xs, i, n, rfl, rfl, hp, hn, q⟩⟩
theorem j_ret {k : Int} (h : JI te σ H k) (q : D.rt (.int k) H) : tRet te D σ H := h _ q
end
theorem upd_upd {H : Hp} {p : Addr} {x y : HO} : upd (upd H p x) p y = upd H p y := by
  funext a
  by_cases h : a = p
  · subst h
    rw [upd_same, upd_same]
  · rw [upd_ne h, upd_ne h, upd_ne h]
end DD
namespace DD
open PySem PySem.Spec L2
def startT (n : Nat) (a b c : Int) (ds : List PyData) : DD.Env := .own (tin a b c) :: (ds.map .dat ++ List.replicate (n - (ds.length + 1)) .no)
theorem draw_run {N : List Str} {t : TS} {n : Int} {Dom : List PyData → Prop} {R : List PyData → PyData → Prop} (h : ∀ ds a b c k, Dom ds → TB b c k → k + n ≤ 1000000 → TXR [0] t (· = startT N.length a b c ds) (fun ρ' d => R ds d ∧ ∃ a' b' c', ρ'[0]? = some (.own (tin a' b' c')) ∧ TB b' c' (k + n)))
    (vs : List V) (H : Hp) (Q : VK) (E : XK) (hp : DrawT n Dom R vs H Q E) : t { nx := fun _ H' => Q .non H', rt := Q } (L2.start N vs) H := by
  obtain ⟨p, vs', H0, ds, a, b, c, k, rfl, hs, h0, h1, tb, hk, q, hd, kk⟩ := hp
  refine h ds a b c k hd tb hk (fun _ => p) H0 (erase H p) _ _ H _ rfl (draw_start (N := N) hs h0 h1 q) fun ρ' d v σ' H0' H' ⟨hr, a', b', c', e, tb'⟩ s hp' qv => ?_
  obtain ⟨p', vs, g1, g2, g3, g4, g5⟩ := s.own 0 _ e
  rw [hp' 0 (List.mem_singleton.mpr rfl)] at g1
  cases g1
  have ev : vs = tinV a' b' c' := g5.ints_inv [a', b', c'] vs
  subst ev
  exact kk d v a' b' c' H0' H' hr s.gr g3 g2 tb' qv
theorem draw_len {n : Int} {Dom : List PyData → Prop} {R : List PyData → PyData → Prop} {m : Nat} (h : ∀ ds, Dom ds → ds.length + 1 = m) (vs : List V) (H : Hp) (Q : VK) (E : XK) (hp : DrawT n Dom R vs H Q E) : vs.length = m := by
  obtain ⟨p, vs', H0, ds, a, b, c, k, rfl, hs, h0, h1, tb, hk, q, hd, kk⟩ := hp
  rw [List.length_cons, q.len]
  exact h ds hd
section
variable {ρ : DD.Env} {ta tb : TE} {jt : List Nat} {A B : DD.Env → Prop} {ds es : List PyData}
theorem tx_parLL {i j : Nat} (hij : i ≠ j) (hi : i ∉ jt) (hj : j ∉ jt) (h1 : EL ta ρ ds) (h2 : EL tb ρ es) (hB : B ((ρ.set i (.own ds)).set j (.own es))) : TX jt (tPar i j (tCons ta (tCons tb tNil))) (· = ρ) B := fun p Hi0 Hi D σ H ρ' e ⟨H0, s, hp⟩ k => by
  subst e
  refine h1 σ H0 H s.gr.sub s.len s.dat _ fun p1 vs1 H1 H1' g1 hp1 h01 h11 q1 => ?_
  have s1 := s.more g1
  refine h2 σ H1 H1' s1.gr.sub s1.len s1.dat _ fun p2 vs2 H2 H2' g2 hp2 h02 h12 q2 => ?_
  have s2 := s1.more g2
  have sA := s2.setO i (g2.big _ _ h11) (g2.out h01 h11) (s.gr.big.free hp1) (fun i es q h h2 => ownNe (H1 := H2) (H1' := H2') s hp1 i es q h h2) (q1.up g2.base)
  have sB := sA.setO j h12 h02 (s1.gr.big.free hp2) (fun i' es' q h h2 z => by
    by_cases hii : i = i'
    · subst hii
      have hl := (List.getElem?_eq_some_iff.mp h2).1
      rw [List.length_set] at hl
      rw [List.getElem?_set_self hl] at h2
      cases h2
      rw [z, hp2] at h11
      cases h11
    · rw [List.getElem?_set_ne hii] at h h2
      exact ownNe (H1 := H2) (H1' := H2') s1 hp2 i' es' q h h2 z) q2
  exact ⟨_, _, rfl, k _ _ _ hB ⟨H2, sB, (hp.set hi).set hj⟩⟩
theorem txr_retO {j : Nat} {P : DD.Env → PyData → Prop} (hj : j ∉ jt) (h : ∀ ρ, A ρ → ∃ es, ρ[j]? = some (.own es) ∧ P (ρ.set j (.dat (.list es))) (.list es)) : TXR jt (tRet (tVar j)) A P := fun p Hi0 Hi D σ H ρ a ⟨H0, s, hp⟩ k => by
  obtain ⟨es, e, b⟩ := h ρ a
  obtain ⟨H1, s1⟩ := s.freeze e
  have hl := (List.getElem?_eq_some_iff.mp e).1
  obtain ⟨v, e1, q⟩ := s1.dat j _ (List.getElem?_set_self hl)
  exact ⟨v, e1, k _ _ v σ H1 H b s1 hp q⟩
end
end DD
namespace DD
open PySem PySem.Spec L2
theorem tx_lose {jt : List Nat} {j : Nat} {t : TS} {A B : DD.Env → Prop} (h : TX jt t A B) : TX jt t A (fun ρ => ∃ ρ0, B ρ0 ∧ ρ = ρ0.set j .no) := fun p Hi0 Hi D σ H ρ a o k => h p Hi0 Hi D σ H ρ a o fun ρ' σ' H' b ⟨H0, s, hp⟩ => k _ σ' H' ⟨ρ', b, rfl⟩ ⟨H0, s.lose j, hp⟩
theorem erase_perm {α : Type} (l : List α) (j : Nat) (h : j < l.length) : (l[j] :: l.eraseIdx j).Perm l := by
  have e : l.take j ++ l[j] :: l.drop (j + 1) = l := by rw [← List.drop_eq_getElem_cons h, List.take_append_drop]
  rw [List.eraseIdx_eq_take_drop_succ]
  exact List.perm_middle.symm.trans (List.Perm.of_eq e)
end DD
namespace DD
open PySem PySem.Spec L2
theorem tx_parDL {ρ : DD.Env} {ta tb : TE} {jt : List Nat} {B : DD.Env → Prop} {d : PyData} {es : List PyData} {i j : Nat} (hij : i ≠ j) (hi : i ∉ jt) (hj : j ∉ jt) (h1 : ED ta ρ d) (h2 : EL tb ρ es) (hB : B ((ρ.set i (.dat d)).set j (.own es))) : TX jt (tPar i j (tCons ta (tCons tb tNil))) (· = ρ) B := fun p Hi0 Hi D σ H ρ' e ⟨H0, s, hp⟩ k => by
  subst e
  refine h1 σ H0 H s.gr.sub s.len s.dat _ fun v1 H1 H1' g1 q1 => ?_
  have s1 := s.more g1
  refine h2 σ H1 H1' s1.gr.sub s1.len s1.dat _ fun p2 vs2 H2 H2' g2 hp2 h02 h12 q2 => ?_
  have s2 := s1.more g2
  have sA := s2.setD i (q1.up g2.base)
  have sB := sA.setO j h12 h02 (s1.gr.big.free hp2) (fun i' es' q h h2 z => by
    by_cases hii : i = i'
    · subst hii
      have hl := (List.getElem?_eq_some_iff.mp h).1
      rw [List.length_set] at hl
      rw [List.getElem?_set_self hl] at h
      cases h
    · rw [List.getElem?_set_ne hii] at h h2
      exact ownNe (H1 := H2) (H1' := H2') s1 hp2 i' es' q h h2 z) q2
  exact ⟨_, _, rfl, k _ _ _ hB ⟨H2, sB, (hp.set hi).set hj⟩⟩
theorem perm_map {α β : Type} (f : α → β) {ys zs : List β} (h : ys.Perm zs) : ∀ U : List α, zs = U.map f → ∃ Y : List α, Y.Perm U ∧ ys = Y.map f := by
  induction h with
  | nil =>
    intro U e
    exact ⟨U, .refl _, e⟩
  | cons x p ih =>
    intro U e
    cases U with
    | nil => cases e
    | cons u U =>
      obtain ⟨e1, e2⟩ := List.cons.inj e
      obtain ⟨Y, h1, h2⟩ := ih U e2
      exact ⟨u :: Y, h1.cons u, by rw [List.map_cons, e1, h2]⟩
  | swap x y l =>
    intro U e
    cases U with
    | nil => cases e
    | cons u U =>
      cases U with
      | nil => cases (List.cons.inj e).2
      | cons w U =>
        obtain ⟨e1, e2⟩ := List.cons.inj e
        obtain ⟨e3, e4⟩ := List.cons.inj e2
        exact ⟨w :: u :: U, .swap u w U, by rw [List.map_cons, List.map_cons, e1, e3, e4]⟩
  | trans p q ih1 ih2 =>
    intro U e
    obtain ⟨Y, h1, h2⟩ := ih2 U e
    obtain ⟨Z, h3, h4⟩ := ih1 Y h2
    exact ⟨Z, h3.trans h1, h4⟩
end DD
namespace DD
open PySem PySem.Spec L2
theorem txr_freeze {jt : List Nat} {j : Nat} {t : TS} {ρ : DD.Env} {es : List PyData} {P : DD.Env → PyData → Prop} (hj : ρ[j]? = some (.own es)) (h : TXR jt t (· = ρ.set j (.dat (.list es))) P) : TXR jt t (· = ρ) P := fun p Hi0 Hi D σ H ρ' e ⟨H0, s, hp⟩ k => by
  subst e
  obtain ⟨H1, s1⟩ := s.freeze hj
  exact h p Hi0 Hi D σ H _ rfl ⟨H1, s1, hp⟩ k
theorem tx_freeze {jt : List Nat} {j : Nat} {t : TS} {ρ : DD.Env} {es : List PyData} {B : DD.Env → Prop} (hj : ρ[j]? = some (.own es)) (h : TX jt t (· = ρ.set j (.dat (.list es))) B) : TX jt t (· = ρ) B := fun p Hi0 Hi D σ H ρ' e ⟨H0, s, hp⟩ k => by
  subst e
  obtain ⟨H1, s1⟩ := s.freeze hj
  exact h p Hi0 Hi D σ H _ rfl ⟨H1, s1, hp⟩ k
end DD
end

section
set_option Elab.async false
set_option linter.all false
set_option maxRecDepth 100000
set_option maxHeartbeats 4000000
/-! A dict of ties that grows, beside the draws. -/
namespace K4P
open PySem PySem.Spec L2 RZ DD K4
def kT (t : Tie) : List Key := [.inl (t.1 : Int), .inl (t.2 : Int)]
def kvT (T : List Tie) : List (List Key × V) := T.map fun t => (kT t, V.bl true)
def putT (T : List Tie) (t : Tie) : List Tie := if t ∈ T then T else T ++ [t]
theorem kT_inj {a b : Tie} (h : kT a = kT b) : a = b := by
  unfold kT at h
  simp only [List.cons.injEq, Sum.inl.injEq, and_true] at h
  exact Prod.ext (by omega) (by omega)
theorem kT_V (t : Tie) : (kT t).map kV = [V.int (t.1 : Int), V.int (t.2 : Int)] := rfl
theorem putK_T (T : List Tie) (t : Tie) : putK (kvT T) (kT t) (V.bl true) = kvT (putT T t) := by
  unfold putK putT
  have h1 : ((kvT T).any fun kv => decide (kv.1 = kT t)) = decide (t ∈ T) := by
    unfold kvT
    rw [List.any_map]
    by_cases h : t ∈ T
    · rw [decide_eq_true h]
      exact List.any_eq_true.mpr ⟨t, h, decide_eq_true rfl⟩
    · rw [decide_eq_false h]
      refine List.any_eq_false.mpr fun u hu => ?_
      have : ¬ kT u = kT t := fun z => h (kT_inj z ▸ hu)
      simp [this]
  rw [h1]
  by_cases h : t ∈ T
  · rw [if_pos (decide_eq_true h), if_pos h]
    refine (List.map_congr_left fun kv hkv => ?_).trans (List.map_id _)
    obtain ⟨u, _, rfl⟩ := List.mem_map.mp hkv
    show (if kT u = kT t then (kT u, V.bl true) else (kT u, V.bl true)) = (kT u, V.bl true)
    split <;> rfl
  · rw [if_neg (by rw [decide_eq_false h]; exact Bool.false_ne_true), if_neg h]
    unfold kvT
    rw [List.map_append]
    rfl
def HD (Hi : Hp) (pd : Addr) (T : List Tie) : Hp := upd Hi pd (.dT (kvT T))
section
variable {Hi0 Hi H0 H : Hp} {σ : L2.St} {ρ : DD.Env} {pd : Addr} {T T' : List Tie}
theorem hd_at : HD Hi pd T pd = some (.dT (kvT T)) := upd_same
theorem hd_base (s : StOk Hi0 (HD Hi pd T) H0 H σ ρ) (h : Hi0 pd = none) : H0 pd = none := by
  rcases e : H0 pd with _ | o
  · rfl
  · rcases s.gr.new pd o e with ⟨u, hu⟩ | hu | ⟨xs, hu⟩
    · rw [h] at hu
      cases hu
    · rw [hd_at] at hu
      cases hu
    · rw [hd_at] at hu
      cases hu
theorem hd_big (s : StOk Hi0 (HD Hi pd T) H0 H σ ρ) : H pd = some (.dT (kvT T)) := s.gr.big pd _ hd_at
theorem dset (s : StOk Hi0 (HD Hi pd T) H0 H σ ρ) (h : Hi0 pd = none) : StOk Hi0 (HD Hi pd T') H0 (upd H pd (.dT (kvT T'))) σ ρ := by
  have b0 := hd_base s h
  have b1 := hd_big s
  refine ⟨⟨s.gr.base, fun a o e => ?_, fun a o e => ?_, fun a o e => ?_⟩, s.len, s.dat, fun i ds e => ?_, s.dis⟩
  · have z : a ≠ pd := fun z => by rw [z, b0] at e; cases e
    rw [upd_ne z]
    exact s.gr.sub a o e
  · by_cases z : a = pd
    · subst z
      rw [show HD Hi a T' a = _ from upd_same] at e
      rw [upd_same]
      exact e
    · rw [upd_ne z]
      refine s.gr.big a o ?_
      unfold HD at e ⊢
      rw [upd_ne z] at e ⊢
      exact e
  · have z : a ≠ pd := fun z => by rw [z, b0] at e; cases e
    have := s.gr.new a o e
    unfold HD at this ⊢
    rw [upd_ne z] at this ⊢
    exact this
  · obtain ⟨p, vs, h1, h2, h3, h4, h5⟩ := s.own i ds e
    have z : p ≠ pd := fun z => by rw [z, b1] at h2; cases h2
    refine ⟨p, vs, h1, by rw [upd_ne z]; exact h2, h3, ?_, h5⟩
    unfold HD at h4 ⊢
    rw [upd_ne z] at h4 ⊢
    exact h4
theorem un_hd {H1 : Hp} (h : H1 pd = none) : un H1 (HD Hi pd T) = HD (un H1 Hi) pd T := by
  funext a
  unfold un HD
  by_cases z : a = pd
  · subst z
    rw [upd_same, h, upd_same]
  · rw [upd_ne z, upd_ne z]
end
def DX (t : TS) (A B : DD.Env → List Tie → Prop) : Prop := ∀ (F : Nat → Addr) (Hi0 Hi : Hp) (D : Ends) (σ : L2.St) (H : Hp) (ρ : DD.Env) (T : List Tie), A ρ T → Hi0 (F 4) = none → Hi (F 4) = none → OT Hi0 (HD Hi (F 4) T) F [0, 4] ρ σ H →
  (∀ ρ' T' σ' H', B ρ' T' → OT Hi0 (HD Hi (F 4) T') F [0, 4] ρ' σ' H' → D.nx σ' H') → t D σ H
section
variable {A B C : DD.Env → List Tie → Prop} {t u : TS} {ty te : TE}
theorem dx_tx (h : ∀ T, TX [0, 4] t (fun ρ => A ρ T) (fun ρ => B ρ T)) : DX t A B := fun F Hi0 Hi D σ H ρ T a _ _ o k => h T F Hi0 (HD Hi (F 4) T) D σ H ρ a o fun ρ' σ' H' b o' => k ρ' T σ' H' b o'
theorem dx_seq (h1 : DX t A B) (h2 : DX u B C) : DX (tSeq t u) A C := fun F Hi0 Hi D σ H ρ T a n1 n2 o k => h1 F Hi0 Hi { D with nx := u D } σ H ρ T a n1 n2 o fun ρ' T' σ' H' b o' => h2 F Hi0 Hi D σ' H' ρ' T' b n1 n2 o' k
theorem dx_imp (h : DX t A B) (i : ∀ ρ T, B ρ T → C ρ T) : DX t A C := fun F Hi0 Hi D σ H ρ T a n1 n2 o k => h F Hi0 Hi D σ H ρ T a n1 n2 o fun ρ' T' σ' H' b => k ρ' T' σ' H' (i ρ' T' b)
theorem dx_pre (h : ∀ ρ T, A ρ T → DX t (fun ρ' T' => ρ' = ρ ∧ T' = T) B) : DX t A B := fun F Hi0 Hi D σ H ρ T a n1 n2 o k => h ρ T a F Hi0 Hi D σ H ρ T ⟨rfl, rfl⟩ n1 n2 o k
theorem dx_if {c : TT} (h : ∀ ρ T, A ρ T → ∃ b, ET c ρ b ∧ (b = true → DX t (fun ρ' T' => ρ' = ρ ∧ T' = T) B) ∧ (b = false → DX u (fun ρ' T' => ρ' = ρ ∧ T' = T) B)) : DX (tIfS c t u) A B := fun F Hi0 Hi D σ H ρ T a n1 n2 ⟨H0, s, hp⟩ k => by
  obtain ⟨b, hc, h1, h2⟩ := h ρ T a
  refine hc σ H0 H s.gr.sub s.len s.dat _ fun H1 H1' g => ?_
  cases b with
  | true => exact iteT (h1 rfl F Hi0 Hi D σ H1' ρ T ⟨rfl, rfl⟩ n1 n2 ⟨H1, s.more g, hp⟩ k)
  | false => exact iteF (h2 rfl F Hi0 Hi D σ H1' ρ T ⟨rfl, rfl⟩ n1 n2 ⟨H1, s.more g, hp⟩ k)
/-- bonds[x, y] = True -/
theorem dx_put (h : ∀ ρ T, A ρ T → T.length < 1000 ∧ EX ty ρ fun ρ' d => ∃ t, d = tieD t ∧ B ρ' (putT T t)) : DX (sDPut (tVar 4) ty (tC (.bl true))) A B := fun F Hi0 Hi D σ H ρ T a n1 n2 ⟨H0, s, hp⟩ k => by
  obtain ⟨hl, he⟩ := h ρ T a
  refine ⟨.ref (F 4), hp 4 (by decide), he Hi0 _ H0 H σ s _ fun ρ' d v H1 H1' ⟨t, hd, b⟩ sm s1 q => ?_⟩
  subst hd
  obtain ⟨ad, xs, rfl, e1, e2⟩ := q.tup_inv
  have ex : xs = [V.int (t.1 : Int), V.int (t.2 : Int)] := e2.ints_inv [(t.1 : Int), (t.2 : Int)] xs
  subst ex
  refine ⟨F 4, _, rfl, DPut.t (k := kT t) (hd_big s1) (s1.gr.sub _ _ e1) (by unfold kvT; rw [List.length_map]; exact Nat.lt_trans hl (by decide)), ?_⟩
  rw [putK_T]
  exact k _ _ _ _ b ⟨H1, dset s1 n1, hp⟩
theorem dx_forS {wi : TI} {g : TG} {tb : TS} {β : Type} (dsOf : β → List PyData) (I : β → Nat → DD.Env → List Tie → Prop)
    (hs : ∀ ρ T, A ρ T → ∀ (Hi0 Hi H0 H : Hp) (σ : L2.St), StOk Hi0 Hi H0 H σ ρ → ∀ R : It → Hp → Prop, (∀ x ρ' J H1 H1', I x 0 ρ' T → Same H0 H1 → StOk Hi0 Hi H1 H1' σ ρ' → (∃ Y, Walk J (dsOf x).length (Same H1) Y ∧ ∀ i Hc y Hc', i < (dsOf x).length → Y i Hc y Hc' → ∀ Hb, Same H1 Hb → Same Hb Hc → ∃ Hb' d, (dsOf x)[i]? = some d ∧ Grow Hb Hc Hb' Hc' ∧ Dq Hb' y d) → R J H1') → wi σ H R)
    (hb : ∀ x i d, (dsOf x)[i]? = some d → ∀ ρ T, I x i ρ T → ∃ us, TgtD g d us ∧ (∀ u ∈ us, u.1 ∉ [0, 4]) ∧ DX tb (fun ρ' T' => ρ' = setE ρ us ∧ T' = T) (I x (i + 1))) (he : ∀ x ρ T, I x (dsOf x).length ρ T → B ρ T) : DX (tFor wi g tb) A B := fun F Hi0 Hi D σ H ρ T a n1 n2 ⟨H0, s, hp⟩ k =>
  hs ρ T a Hi0 _ H0 H σ s _ fun x ρ1 J H1 H1' i0 sm0 s1 ⟨Y, w, hy⟩ => by
    have b0 := hd_base s1 n1
    refine for_it w (fun i σ' Hc => ∃ ρ' T' Hb, I x i ρ' T' ∧ StOk Hi0 (HD Hi (F 4) T') Hb Hc σ' ρ' ∧ At F [0, 4] σ' ∧ Same H1 Hb) ⟨ρ1, T, H1, i0, s1, hp, Same.refl _⟩ (fun i σ' Hc _ ⟨_, _, Hb, _, sb, _, sm⟩ => sm.trans sb.gr.sub) (fun i y σ' Hc Hc' hi ⟨ρ', T', Hb, ii, sb, hpb, sm⟩ yy => ?_) (fun σ' Hc ⟨ρ', T', Hb, ii, sb, hpb, _⟩ => k ρ' T' σ' Hc (he x ρ' T' ii) ⟨Hb, sb, hpb⟩)
    obtain ⟨Hb', d, ed, gc, qd⟩ := hy i Hc y Hc' hi yy Hb sm sb.gr.sub
    obtain ⟨us, hg, hu, hr⟩ := hb x i d ed ρ' T' ii
    obtain ⟨ws, mm, go⟩ := hg Hb' Hc' y gc.sub qd
    refine go σ' _ ?_
    have s2 := (sb.more gc).setS mm
    have sm2 : Same H1 Hb' := sm.trans gc.base
    have s3 := s2.inn s1.gr.base sm2
    rw [un_hd b0] at s3
    refine hr F H1 (un H1 Hi) { D with nx := _, ct := _, bk := D.nx } _ _ _ T' ⟨rfl, rfl⟩ b0 (un_none.mpr ⟨b0, n2⟩) ⟨Hb', s3, setS_slot mm hu hpb⟩ fun ρ'' T'' σ'' H'' b ⟨Hz, sz, hz⟩ => ?_
    rw [← un_hd b0] at sz
    exact ⟨ρ'', T'', Hz, b, sz.outt (dset (T' := T'') s1 n1).gr, hz, sz.gr.base⟩
theorem dx_forL {te : TE} {g : TG} {tb : TS} {K : PySem.W.Frag} (I : List PyData → Nat → DD.Env → List Tie → Prop) (hs : ∀ ρ T, A ρ T → EX te ρ fun ρ' d => ∃ ds, d = .list ds ∧ I ds 0 ρ' T)
    (hb : ∀ ds i d, ds[i]? = some d → ∀ ρ T, I ds i ρ T → ∃ us, TgtD g d us ∧ (∀ u ∈ us, u.1 ∉ [0, 4]) ∧ DX tb (fun ρ' T' => ρ' = setE ρ us ∧ T' = T) (I ds (i + 1))) (he : ∀ ds ρ T, I ds ds.length ρ T → B ρ T) : DX (tFor (iList K te) g tb) A B :=
  dx_forS (fun ds => ds) I (fun ρ T a Hi0 Hi H0 H σ s R k => hs ρ T a Hi0 Hi H0 H σ s _ fun ρ' d v H1 H1' ⟨ds, e, i0⟩ sm s1 q => by
    subst e
    obtain ⟨ad, xs, rfl, h1, h2⟩ := q.lst_inv
    refine ⟨ad, rfl, ⟨xs, .inl (.inl (s1.gr.sub _ _ h1))⟩, k ds ρ' _ H1 H1' i0 sm s1 ⟨YAt xs, ?_, fun i Hc x Hc' hi y Hb b1 b2 => ?_⟩⟩
    · rw [← h2.len]
      exact walk_list.mono (fun H z => .inl (.inl (z _ _ h1))) (fun _ _ _ _ _ _ y => y)
    · obtain ⟨rfl, y⟩ := y
      obtain ⟨d, e, q⟩ := h2.getV y
      exact ⟨Hb, d, e, .refl b2, q.up b1⟩) hb he
theorem dx_forR {te : TE} {g : TG} {tb : TS} (I : Nat → Nat → DD.Env → List Tie → Prop) (hs : ∀ ρ T, A ρ T → EX te ρ fun ρ' d => ∃ n : Nat, d = .int (n : Int) ∧ n ≤ 100000 ∧ I n 0 ρ' T)
    (hb : ∀ n (i : Nat), i < n → ∀ ρ T, I n i ρ T → ∃ us, TgtD g (.int (i : Int)) us ∧ (∀ u ∈ us, u.1 ∉ [0, 4]) ∧ DX tb (fun ρ' T' => ρ' = setE ρ us ∧ T' = T) (I n (i + 1))) (he : ∀ n ρ T, I n n ρ T → B ρ T) : DX (tFor (iRng1 (tCons te tNil)) g tb) A B :=
  dx_forS (fun n => rngD 0 n) I (fun ρ T a Hi0 Hi H0 H σ s R k => hs ρ T a Hi0 Hi H0 H σ s _ fun ρ' d v H1 H1' ⟨n, e, hn, i0⟩ sm s1 q => by
    subst e
    refine ⟨(n : Int), by rw [q.int_inv], by omega, by omega, ?_⟩
    rw [Int.toNat_natCast]
    refine k n ρ' _ H1 H1' i0 sm s1 ⟨YFn fun i => .int (0 + i), ?_, fun i Hc x Hc' hi y Hb b1 b2 => ?_⟩
    · rw [rngD_len]
      exact walk_range.mono (fun _ _ => trivial) (fun _ _ _ _ _ _ y => y)
    · obtain ⟨rfl, rfl⟩ := y
      rw [rngD_len] at hi
      exact ⟨Hb, _, rngD_get 0 n i hi, .refl b2, .int _⟩) (fun n i d hd ρ T ii => by
    have hi := (List.getElem?_eq_some_iff.mp hd).1
    rw [rngD_len] at hi
    rw [rngD_get 0 n i hi, Int.zero_add] at hd
    cases hd
    exact hb n i hi ρ T ii) (fun n ρ T ii => he n ρ T (by rw [rngD_len] at ii; exact ii))
end
end K4P
end

section
set_option Elab.async false
set_option linter.all false
set_option maxRecDepth 100000
set_option maxHeartbeats 4000000
namespace K4P
open PySem PySem.Spec L2 RZ DD K4
section
variable {js : List Nat} {A B : DD.Env → Prop} {ta tb te : TE} {t u : TS}
theorem tx_parXX {i j : Nat} (hi : i ∉ js) (hj : j ∉ js) (h : ∀ ρ, A ρ → EX ta ρ fun ρ1 d1 => EX tb ρ1 fun ρ2 d2 => B ((ρ2.set i (.dat d1)).set j (.dat d2))) : TX js (tPar i j (tCons ta (tCons tb tNil))) A B := fun F Hi0 Hi D σ H ρ a ⟨H0, s, hp⟩ k =>
  h ρ a Hi0 Hi H0 H σ s _ fun ρ1 d1 v1 H1 H1' h2 sm1 s1 q1 => h2 Hi0 Hi H1 H1' σ s1 _ fun ρ2 d2 v2 H2 H2' b sm2 s2 q2 => ⟨_, _, rfl, k _ _ _ b ⟨H2, (s2.setD i (q1.up sm2)).setD j q2, (hp.set hi).set hj⟩⟩
theorem tx_ifX (h : ∀ ρ, A ρ → EX te ρ fun ρ' d => ∃ b, d = .bool b ∧ (b = true → TX js t (· = ρ') B) ∧ (b = false → TX js u (· = ρ') B)) : TX js (tIfS (tTest te) t u) A B := fun F Hi0 Hi D σ H ρ a ⟨H0, s, hp⟩ k =>
  h ρ a Hi0 Hi H0 H σ s _ fun ρ' d v H1 H1' ⟨b, hd, h1, h2⟩ sm s1 q => by
    subst hd
    refine ⟨b, q.bl_inv, ?_⟩
    cases b with
    | true => exact iteT (h1 rfl F Hi0 Hi D σ H1' ρ' rfl ⟨H1, s1, hp⟩ k)
    | false => exact iteF (h2 rfl F Hi0 Hi D σ H1' ρ' rfl ⟨H1, s1, hp⟩ k)
end
section
variable {Hi0 Hi H0 H : Hp} {σ : L2.St} {ρ : DD.Env}
theorem setN (s : StOk Hi0 Hi H0 H σ ρ) (j : Nat) (x : Option V) : StOk Hi0 Hi H0 H (σ.set j x) (ρ.set j .no) := by
  have key : ∀ i ds, (ρ.set j Sl.no)[i]? = some (Sl.own ds) → i ≠ j ∧ ρ[i]? = some (Sl.own ds) := fun i ds e => by
    by_cases h : j = i
    · subst h
      have hj := (List.getElem?_eq_some_iff.mp e).1
      rw [List.length_set] at hj
      rw [List.getElem?_set_self hj] at e
      cases e
    · rw [List.getElem?_set_ne h] at e
      exact ⟨fun z => h z.symm, e⟩
  refine ⟨s.gr, by rw [List.length_set, List.length_set, s.len], s.dat.setNo j x _ (fun _ q => nomatch q), fun i ds e => ?_, fun i k ds es p e1 e2 e3 e4 => ?_⟩
  · obtain ⟨hn, e'⟩ := key i ds e
    rw [List.getElem?_set_ne (Ne.symm hn)]
    exact s.own i ds e'
  · obtain ⟨n1, e1'⟩ := key i ds e1
    obtain ⟨n2, e2'⟩ := key k es e2
    rw [List.getElem?_set_ne (Ne.symm n1)] at e3
    rw [List.getElem?_set_ne (Ne.symm n2)] at e4
    exact s.dis i k ds es p e1' e2' e3 e4
/-- bonds, hands, tasks = ({(0, 0): True}, [0], [0]) -/
theorem par3D {F : Nat → Addr} {D : Ends} (o : OT Hi0 Hi F [0] ρ σ H) (k : ∀ (F' : Nat → Addr) σ' H', F' 0 = F 0 → Hi0 (F' 4) = none → Hi (F' 4) = none → OT Hi0 (HD Hi (F' 4) [(0, 0)]) F' [0, 4] (((ρ.set 4 .no).set 5 (.own [.int 0])).set 6 (.own [.int 0])) σ' H' → D.nx σ' H') (h4 : 4 < ρ.length) :
    tPar3 4 5 6 (tCons (tDispT (tTup (tCons (tC (.int 0)) (tCons (tC (.int 0)) tNil))) (tC (.bl true))) (tCons (tLst (tCons (tC (.int 0)) tNil)) (tCons (tLst (tCons (tC (.int 0)) tNil)) tNil))) D σ H := by
  obtain ⟨H0, s, hp⟩ := o
  intro p hpn
  refine ⟨by show 2 ≤ sizeLine; decide, fun q hqn => ?_⟩
  have hqp : q ≠ p := fun z => by rw [z, upd_same] at hqn; cases hqn
  have hq : H q = none := by rw [upd_ne hqp] at hqn; exact hqn
  refine ⟨q, [.inl 0, .inl 0], rfl, upd_same, by rw [upd_ne (Ne.symm hqp), upd_same], ?_⟩
  generalize hH3 : upd (upd (upd H p (.dT [])) q (.tup [V.int 0, V.int 0])) p (.dT [([.inl 0, .inl 0], V.bl true)]) = H3
  have g1 : ∀ a o, H a = some o → H3 a = some o := fun a o e => by
    have z1 : a ≠ p := fun z => by rw [z, hpn] at e; cases e
    have z2 : a ≠ q := fun z => by rw [z, hq] at e; cases e
    rw [← hH3, upd_ne z1, upd_ne z2, upd_ne z1]
    exact e
  have g2 : H3 p = some (.dT (kvT [(0, 0)])) := by rw [← hH3, upd_same]; rfl
  have hip : Hi p = none := s.gr.big.free hpn
  have h0p : H0 p = none := s.gr.sub.free hpn
  have hi0p : Hi0 p = none := s.gr.base.free h0p
  have s3 : StOk Hi0 (HD Hi p [(0, 0)]) H0 H3 σ ρ := by
    refine ⟨⟨s.gr.base, fun a o e => g1 a o (s.gr.sub a o e), fun a o e => ?_, fun a o e => ?_⟩, s.len, s.dat, fun i ds e => ?_, s.dis⟩
    · by_cases z : a = p
      · subst z
        rw [hd_at] at e
        rw [g2]
        exact e
      · unfold HD at e
        rw [upd_ne z] at e
        exact g1 a o (s.gr.big a o e)
    · have z : a ≠ p := fun z => by rw [z, h0p] at e; cases e
      have := s.gr.new a o e
      unfold HD
      rw [upd_ne z]
      exact this
    · obtain ⟨p', vs, h1, h2, h3, h4, h5⟩ := s.own i ds e
      have z : p' ≠ p := fun z => by rw [z, hpn] at h2; cases h2
      refine ⟨p', vs, h1, g1 _ _ h2, h3, ?_, h5⟩
      unfold HD
      rw [upd_ne z]
      exact h4
  refine el_lst (ρ := ρ) (ea_cons ed_int ea_nil) (len_ok rfl) σ H0 H3 s3.gr.sub s3.len s3.dat _ fun p1 vs1 H4 H4' g4 hp1 h01 h11 q1 => ?_
  have s4 := s3.more g4
  refine el_lst (ρ := ρ) (ea_cons ed_int ea_nil) (len_ok rfl) σ H4 H4' s4.gr.sub s4.len s4.dat _ fun p2 vs2 H5 H5' g5 hp2 h02 h12 q2 => ?_
  have s5 := s4.more g5
  have s6 := setN s5 4 (some (.ref p))
  have sA := s6.setO 5 (g5.big _ _ h11) (g5.out h01 h11) (s3.gr.big.free hp1) (fun i es q h h2 => by
    by_cases z : 4 = i
    · subst z
      rw [List.getElem?_set_self h4] at h
      cases h
    · rw [List.getElem?_set_ne z] at h h2
      exact ownNe (H1 := H5) (H1' := H5') s3 hp1 i es q h h2) (q1.up g5.base)
  have sB := sA.setO 6 h12 h02 (s4.gr.big.free hp2) (fun i es q h h2 z => by
    by_cases z5 : 5 = i
    · subst z5
      have hl := (List.getElem?_eq_some_iff.mp h2).1
      rw [List.length_set] at hl
      rw [List.getElem?_set_self hl] at h2
      cases h2
      rw [z, hp2] at h11
      cases h11
    · rw [List.getElem?_set_ne z5] at h h2
      by_cases z4 : 4 = i
      · subst z4
        rw [List.getElem?_set_self h4] at h
        cases h
      · rw [List.getElem?_set_ne z4] at h h2
        exact ownNe (H1 := H5) (H1' := H5') s4 hp2 i es q h h2 z) q2
  refine ⟨_, _, _, rfl, k (fun j => if j = 0 then F 0 else p) _ _ rfl (by exact hi0p) (by exact hip) ⟨H5, sB, fun j hj => ?_⟩⟩
  rcases List.mem_cons.mp hj with rfl | hj
  · rw [List.getElem?_set_ne (by decide), List.getElem?_set_ne (by decide), List.getElem?_set_ne (by decide)]
    exact hp 0 (List.mem_singleton.mpr rfl)
  · rw [List.mem_singleton.mp hj, List.getElem?_set_ne (by decide), List.getElem?_set_ne (by decide), List.getElem?_set_self (by rw [s.len]; exact h4)]
    rfl
/-- every tuple taken into the base -/
def tupB (H0 H : Hp) : Hp := fun a => match H0 a with
  | some o => some o
  | none => match H a with
    | some (.tup xs) => some (.tup xs)
    | _ => none
theorem tupB_old {a : Addr} {o : HO} (h : H0 a = some o) : tupB H0 H a = some o := by unfold tupB; rw [h]
theorem tupB_tup {a : Addr} {xs : List V} (hs : Same H0 H) (h : H a = some (.tup xs)) : tupB H0 H a = some (.tup xs) := by
  unfold tupB
  rcases e : H0 a with _ | o
  · simp only [h]
  · have := hs a o e
    rw [h] at this
    exact this.symm
theorem tupB_inv {a : Addr} {o : HO} (h : tupB H0 H a = some o) : H0 a = some o ∨ ∃ xs, H a = some (.tup xs) ∧ o = .tup xs := by
  unfold tupB at h
  rcases e : H0 a with _ | o'
  · rw [e] at h
    rcases e2 : H a with _ | o2
    · rw [e2] at h
      cases h
    · rw [e2] at h
      cases o2 <;> simp at h
      exact .inr ⟨_, rfl, h.symm⟩
  · rw [e] at h
    exact .inl h
theorem grow_tup {pd : Addr} {T : List Tie} (g : Grow Hi0 (HD Hi pd T) H0 H) (n1 : Hi0 pd = none) (n2 : Hi pd = none) : Grow Hi0 Hi (tupB H0 H) H where
  base := fun a o e => tupB_old (g.base a o e)
  sub := fun a o e => by
    rcases tupB_inv e with h | ⟨xs, h1, h2⟩
    · exact g.sub a o h
    · rw [h2]
      exact h1
  big := fun a o e => g.big a o (by
    unfold HD
    rw [upd_ne (fun z => by rw [z, n2] at e; cases e)]
    exact e)
  new := fun a o e => by
    rcases tupB_inv e with h | ⟨xs, h1, h2⟩
    · rcases g.new a o h with h | h | ⟨xs, h⟩
      · exact .inl h
      · refine .inr (.inl ?_)
        unfold HD at h
        by_cases z : a = pd
        · rw [z]
          exact n2
        · rw [upd_ne z] at h
          exact h
      · refine .inr (.inr ⟨xs, ?_⟩)
        unfold HD at h
        by_cases z : a = pd
        · rw [z, upd_same] at h
          cases h
        · rw [upd_ne z] at h
          exact h
    · rcases e2 : Hi a with _ | o'
      · exact .inr (.inl rfl)
      · have := g.big a o' (by
          unfold HD
          rw [upd_ne (fun z => by rw [z, n2] at e2; cases e2)]
          exact e2)
        rw [h1] at this
        cases this
        exact .inr (.inr ⟨xs, rfl⟩)
end
end K4P
end

section
set_option Elab.async false
set_option linter.all false
set_option maxRecDepth 100000
set_option maxHeartbeats 4000000
namespace K4P
open PySem PySem.Spec L2 RZ DD K4
open PyProof.Rows (firstMet)
local macro_rules | `(tactic| walk_at "ed") => `(tactic| (repeat' (first
  | (with_reducible (first | exact ed_int | exact ed_bl | exact ed_str | exact ed_non | exact ea_nil | exact et_yes _ | apply ea_cons | apply ed_tup | apply r2_B | apply r2_eqIb | apply r2_neIb | exact r2_I0 (fun _ => Dq.int _) | exact rc_abs | exact rc_intI | exact rc_intB | exact rc_min | exact rc_max | exact r2_isN | apply ed_isi | apply ed_andT | apply ed_andV | apply ed_notV | apply ed_notF | apply ed_op | apply ed_un | apply et_val | apply et_test | apply et_not | apply et_notF | apply et_notT | apply ed_call | apply ed_cb | apply ed_chainT | apply et_orF | apply et_andT))
  | ((with_reducible apply ed_var); exact rfl) | ((with_reducible apply len_ok); exact rfl) | ((with_reducible apply kits); exact rfl) | exact (rfl : decide _ = _) | exact (rfl : (_ == _) = _) | exact nI_beq _ _
  | ((with_reducible apply r2_ixTu); exact r2_ixT rfl) | ((with_reducible apply r2_ixLu); exact r2_ixL rfl) | ((with_reducible apply rc_u); first | exact rc_len (.inr rfl) | exact rc_len (.inl rfl)))))
section
variable {P : Program} {w : World} {K : PySem.W.Frag} {mg : Str → Option Value} {base : Heap} (T : Tx K mg)
def R_is_number (ds : List PyData) (d : PyData) : Prop := ∃ n : Nat, ds = [nI n] ∧ d = .bool true
theorem ok_is_number : FnOk P w K mg base CX0 1 T.f_is_number T.d_is_number ["thing"] (Pure R_is_number) := by
  refine T.F_is_number.ok sc_is_number (pure_len (n := 1) fun ds d ⟨_, e, _⟩ => by rw [e]; rfl) (fun cdv A outer s H vs Q E hr h => ⟨_, PSs.nox (pss_one (ps_ret (pe_and (pe_callB (show CallR _ _ (rIsi K) from call_isi) (by rfl) T.n_isinstance (by decide +kernel) (pa_cons (pv 0) (pa_cons (pe_bltn (v := .ty "int") (by rfl) T.n_int (by decide +kernel) rfl) pa_nil))) (pe_one (pe_not (pe_callB (show CallR _ _ (rIsi K) from call_isi) (by rfl) T.n_isinstance (by decide +kernel) (pa_cons (pv 0) (pa_cons (pe_bltn (v := .ty "bool") (by rfl) T.n_bool (by decide +kernel) rfl) pa_nil)))))))), pure_run (fun ds d r => ?_) vs H Q E h⟩)
  obtain ⟨n, rfl, rfl⟩ := r
  refine rr_ret ?_
  walk_at "ed"
def R_is_from (ds : List PyData) (d : PyData) : Prop := ∃ n : Nat, 0 < n ∧ ds = [nI n, .int 1] ∧ d = .bool true
theorem ok_is_from (G_is_number : FnOk P w K mg base CX0 1 T.f_is_number T.d_is_number ["thing"] (Pure R_is_number)) : FnOk P w K mg base CX0 2 T.f_is_from T.d_is_from ["thing", "least"] (Pure R_is_from) := by
  refine T.F_is_from.ok sc_is_from (pure_len (n := 2) fun ds d ⟨_, _, e, _⟩ => by rw [e]; rfl) (fun cdv A outer s H vs Q E hr h => ⟨_, PSs.nox (pss_one (ps_ret (pe_and (pe_call G_is_number (hr.mono (by decide)) (by rfl) T.g_is_number T.F_is_number.kp T.b_is_number .nil pass0 (pa_cons (pv 0) pa_nil)) (pe_one (pe_cmpR op_ge (pv 0) (pv 1) (by first | exact nomark _ | rfl)))))), pure_run (fun ds d r => ?_) vs H Q E h⟩)
  obtain ⟨n, h0, rfl, rfl⟩ := r
  refine rr_ret ?_
  walk_at "ed"
  · exact ⟨n, rfl, rfl⟩
  · exact decide_eq_true (by omega)
def R_is_long (ds : List PyData) (d : PyData) : Prop := ∃ xs, ds = [.tuple xs, .int (xs.length : Nat)] ∧ d = .bool true
theorem ok_is_long : FnOk P w K mg base CX0 1 T.f_is_long T.d_is_long ["thing", "length"] (Pure R_is_long) := by
  refine T.F_is_long.ok sc_is_long (pure_len (n := 2) fun ds d ⟨_, e, _⟩ => by rw [e]; rfl) (fun cdv A outer s H vs Q E hr h => ⟨_, PSs.nox (pss_one (ps_ret (pe_and (pe_callB (show CallR _ _ (rIsi K) from call_isi) (by rfl) T.n_isinstance (by decide +kernel) (pa_cons (pv 0) (pa_cons (pe_bltn (v := .ty "tuple") (by rfl) T.n_tuple (by decide +kernel) rfl) pa_nil))) (pe_one (pe_cmpR op_eq (pe_callB (call_lenK (K := K) rfl) (by rfl) T.n_len (by decide +kernel) (pa_cons (pv 0) pa_nil)) (pv 1) (by first | exact nomark _ | rfl)))))), pure_run (fun ds d r => ?_) vs H Q E h⟩)
  obtain ⟨xs, rfl, rfl⟩ := r
  refine rr_ret ?_
  walk_at "ed"
  exact beq_self_eq_true _
def R_are_numbers (ds : List PyData) (d : PyData) : Prop := ∃ xs : List Nat, xs.length ≤ 1000 ∧ ds = [.tuple (xs.map nI)] ∧ d = .bool true
theorem ok_are_numbers (G_is_number : FnOk P w K mg base CX0 1 T.f_is_number T.d_is_number ["thing"] (Pure R_is_number)) : FnOk P w K mg base CX0 2 T.f_are_numbers T.d_are_numbers ["thing"] (Pure R_are_numbers) := by
  refine T.F_are_numbers.ok sc_are_numbers (pure_len (n := 1) fun ds d ⟨_, _, e, _⟩ => by rw [e]; rfl) (fun cdv A outer s H vs Q E hr h => ⟨_, PSs.nox (pss_one (ps_ret (pe_and (pe_callB (show CallR _ _ (rIsi K) from call_isi) (by rfl) T.n_isinstance (by decide +kernel) (pa_cons (pv 0) (pa_cons (pe_bltn (v := .ty "tuple") (by rfl) T.n_tuple (by decide +kernel) rfl) pa_nil))) (pe_one (pe_callB (show CallR _ _ (rAll K) from cr_all rfl) (by rfl) T.n_all (by decide +kernel) (pa_cons (pe_lc (own := [("own", 1)]) rfl sc_are_numbers.nd (show PI _ _ _ (iTup K _) from pi_tup (pv 0)) (blkOk_by (own := [("own", 1)]) (N := ["thing", "own"]) (sc := defScope s_are_numbers) (by decide +kernel)) (fun _ _ _ _ _ => pg_name (i := 1) sc_are_numbers.nd rfl (by first | exact Or.inl rfl | exact Or.inr rfl)) (fun _ _ _ _ _ => pts_nil) (fun _ _ _ _ _ => (pe_call G_is_number (hr.mono (by decide)) (by rfl) T.g_is_number T.F_is_number.kp T.b_is_number .nil pass0 (pa_cons (pv 1) pa_nil)))) pa_nil)))))), pure_run (fun ds d r => ?_) vs H Q E h⟩)
  obtain ⟨xs, hl, rfl, rfl⟩ := r
  refine rr_ret ?_
  walk_at "ed"
  · refine EL.ed (el_lcE nI (fun _ => .bool true) xs (src_tup (ed_var rfl)) (by omega) (fun a _ => ?_))
    walk_at "ed"
    exact ⟨a, rfl, rfl⟩
  · rw [show (xs.map fun _ => PyData.bool true) = (xs.map fun _ => true).map .bool by rw [List.map_map]; rfl]
    refine rc_allb ?_
    rw [List.all_map]
    exact List.all_eq_true.mpr fun _ _ => rfl
def R_is_pair (ds : List PyData) (d : PyData) : Prop := ∃ t, ds = [tieD t] ∧ d = .bool true
theorem ok_is_pair (G_is_long : FnOk P w K mg base CX0 1 T.f_is_long T.d_is_long ["thing", "length"] (Pure R_is_long)) (G_are_numbers : FnOk P w K mg base CX0 2 T.f_are_numbers T.d_are_numbers ["thing"] (Pure R_are_numbers)) : FnOk P w K mg base CX0 3 T.f_is_pair T.d_is_pair ["thing"] (Pure R_is_pair) := by
  refine T.F_is_pair.ok sc_is_pair (pure_len (n := 1) fun ds d ⟨_, e, _⟩ => by rw [e]; rfl) (fun cdv A outer s H vs Q E hr h => ⟨_, PSs.nox (pss_one (ps_ret (pe_and (pe_call G_is_long (hr.mono (by decide)) (by rfl) T.g_is_long T.F_is_long.kp T.b_is_long .nil pass0 (pa_cons (pv 0) (pa_cons pe_int pa_nil))) (pe_one (pe_call G_are_numbers (hr.mono (by decide)) (by rfl) T.g_are_numbers T.F_are_numbers.kp T.b_are_numbers .nil pass0 (pa_cons (pv 0) pa_nil)))))), pure_run (fun ds d r => ?_) vs H Q E h⟩)
  obtain ⟨t, rfl, rfl⟩ := r
  refine rr_ret ?_
  walk_at "ed"
  · exact ⟨[nI t.1, nI t.2], rfl, rfl⟩
  · exact ⟨[t.1, t.2], Nat.le_of_ble_eq_true rfl, rfl, rfl⟩
def R_is_tie_of (ds : List PyData) (d : PyData) : Prop := ∃ m n t, t.1 < m ∧ t.2 < n ∧ ds = [nI m, nI n, tieD t] ∧ d = .bool true
theorem ok_is_tie_of (G_is_pair : FnOk P w K mg base CX0 3 T.f_is_pair T.d_is_pair ["thing"] (Pure R_is_pair)) : FnOk P w K mg base CX0 4 T.f_is_tie_of T.d_is_tie_of ["many", "number", "thing"] (Pure R_is_tie_of) := by
  refine T.F_is_tie_of.ok sc_is_tie_of (pure_len (n := 3) fun ds d ⟨_, _, _, _, _, e, _⟩ => by rw [e]; rfl) (fun cdv A outer s H vs Q E hr h => ⟨_, PSs.nox (pss_one (ps_ret (pe_and (pe_call G_is_pair (hr.mono (by decide)) (by rfl) T.g_is_pair T.F_is_pair.kp T.b_is_pair .nil pass0 (pa_cons (pv 2) pa_nil)) (pe_and (pe_chain op_le op_lt pe_int (pe_ix (show IxR _ (rIxT K) from ix_tup) (pv 2) pe_int (fun _ _ => rfl)) (pv 0)) (pe_one (pe_chain op_le op_lt pe_int (pe_ix (show IxR _ (rIxT K) from ix_tup) (pv 2) pe_int (fun _ _ => rfl)) (pv 1))))))), pure_run (fun ds d r => ?_) vs H Q E h⟩)
  obtain ⟨m, n, t, h1, h2, rfl, rfl⟩ := r
  refine rr_ret ?_
  walk_at "ed"
  · exact ⟨t, rfl, rfl⟩
  all_goals exact decide_eq_true (by omega)
def R_marked (ds : List PyData) (d : PyData) : Prop := ∃ ms m t, ds = [msD ms, nI m, tieD t] ∧ t.1 < ms.length ∧ m + t.2 < ms.length ∧ ms.length ≤ 60 ∧ d = msD (merge ms (ed m t))
theorem ok_marked : FnOk P w K mg base CX0 1 T.f_marked T.d_marked ["marks", "many", "tie"] (Pure R_marked) := by
  refine T.F_marked.ok sc_marked (pure_len (n := 3) fun ds d ⟨_, _, _, e, _⟩ => by rw [e]; rfl) (fun cdv A outer s H vs Q E hr h => ⟨_, PSs.nox (pss_cons (ps_asg (pe_tup (pa_cons (pe_ix (show IxR _ (rIxL K) from ix_list) (pv 0) (pe_ix (show IxR _ (rIxT K) from ix_tup) (pv 2) pe_int (fun _ _ => rfl)) (fun _ _ => rfl)) (pa_cons (pe_ix (show IxR _ (rIxL K) from ix_list) (pv 0) (pe_op op_add (pv 1) (pe_ix (show IxR _ (rIxT K) from ix_tup) (pv 2) pe_int (fun _ _ => rfl))) (fun _ _ => rfl)) pa_nil))) (show PG _ _ (gTup K _ _) from pg_tup rfl (pgs_cons (pg_name (i := 3) sc_marked.nd rfl (by first | exact Or.inl rfl | exact Or.inr rfl)) (pgs_cons (pg_name (i := 4) sc_marked.nd rfl (by first | exact Or.inl rfl | exact Or.inr rfl)) pgs_nil)))) (pss_one (ps_ret (pe_ifExp (pt_cmpR op_eq (pv 3) (pv 4) (by first | exact nomark _ | rfl)) (pv 0) (pe_lc (own := [("own", 5)]) rfl sc_marked.nd (show PI _ _ _ (iList K _) from pi_list (pv 0)) (blkOk_by (own := [("own", 5)]) (N := ["marks", "many", "tie", "near", "far", "own"]) (sc := defScope s_marked) (by decide +kernel)) (fun _ _ _ _ _ => pg_name (i := 5) sc_marked.nd rfl (by first | exact Or.inl rfl | exact Or.inr rfl)) (fun _ _ _ _ _ => pts_nil) (fun _ _ _ _ _ => (pe_ifExp (pt_cmpR op_eq (pv 5) (pv 4) (by first | exact nomark _ | rfl)) (pv 3) (pv 5)))))))), pure_run (fun ds d r => ?_) vs H Q E h⟩)
  obtain ⟨ms, m, t, rfl, h1, h2, h3, rfl⟩ := r
  have e1 : atI (ms.map nI) ((m : Int) + (t.2 : Int)) = some (nI (K4.mk ms (m + t.2))) := by
    rw [← Int.natCast_add]
    exact at_ms h2
  refine rr_seq (rn_tgt (d := .tuple [nI (K4.mk ms t.1), nI (K4.mk ms (m + t.2))]) ?_ tgt_two) (rr_ret (ed_if (b := decide (K4.mk ms t.1 = K4.mk ms (m + t.2))) ?_ (fun hb => ?_) (fun hb => ?_)))
  · walk_at "ed"
    · exact r2_ixL (at_ms h1)
    · exact r2_ixL e1
  · walk_at "ed"
  · rw [merge_same (of_decide_eq_true hb)]
    walk_at "ed"
  · rw [merge_diff (of_decide_eq_false hb)]
    refine ed_is (EL.ed (el_lcE nI (fun o => nI (relab (K4.mk ms t.1) (K4.mk ms (m + t.2)) o)) ms (src_list (ed_var rfl)) (by omega) (fun o _ => ?_))) (congrArg PyData.list (by rw [List.map_map]; rfl))
    refine ed_if (b := decide (o = K4.mk ms (m + t.2))) ?_ (fun hc => ?_) (fun hc => ?_)
    · walk_at "ed"
    · unfold relab
      rw [if_pos (of_decide_eq_true hc)]
      walk_at "ed"
    · unfold relab
      rw [if_neg (of_decide_eq_false hc)]
      walk_at "ed"
def R_grown_from (ds : List PyData) (d : PyData) : Prop := ∃ ms m U, ds = [msD ms, nI m, tiesD U] ∧ (∀ e ∈ U.map (ed m), e.1 < ms.length ∧ e.2 < ms.length) ∧ ms.length ≤ 60 ∧ U.length ≤ 1000 ∧ d = msD (grown ms (U.map (ed m)))
theorem grown_take (ms : List Nat) : ∀ (es : List Ed) (i : Nat) (e : Ed), es[i]? = some e → grown ms (es.take (i + 1)) = merge (grown ms (es.take i)) e := by
  intro es i e h
  have h2 : es.take (i + 1) = es.take i ++ [e] := by
    rw [List.take_add_one, h]
    rfl
  have key : ∀ (xs : List Ed) (ms : List Nat), grown ms (xs ++ [e]) = merge (grown ms xs) e := by
    intro xs
    induction xs with
    | nil => intro ms; rfl
    | cons x xs ih => intro ms; exact ih _
  rw [h2, key]
theorem ok_grown_from (G_marked : FnOk P w K mg base CX0 1 T.f_marked T.d_marked ["marks", "many", "tie"] (Pure R_marked)) : FnOk P w K mg base CX0 2 T.f_grown_from T.d_grown_from ["marks", "many", "ties"] (Pure R_grown_from) := by
  refine T.F_grown_from.ok sc_grown_from (pure_len (n := 3) fun ds d ⟨_, _, _, e, _⟩ => by rw [e]; rfl) (fun cdv A outer s H vs Q E hr h => ⟨_, PSs.nox (pss_cons (ps_for PassesOwn.never rfl (show PI _ _ _ (iTup K _) from pi_tup (pv 2)) (pg_name (i := 3) sc_grown_from.nd rfl (by first | exact Or.inl rfl | exact Or.inr rfl)) (pss_one (ps_set (i := 0) sc_grown_from.nd rfl (by first | exact Or.inl rfl | exact Or.inr rfl) (pe_call G_marked (hr.mono (by decide)) (by rfl) T.g_marked T.F_marked.kp T.b_marked .nil pass0 (pa_cons (pv 0) (pa_cons (pv 1) (pa_cons (pv 3) pa_nil))))))) (pss_one (ps_ret (pv 0)))), pure_run (fun ds d r => ?_) vs H Q E h⟩)
  obtain ⟨ms, m, U, rfl, h1, h2, h3, rfl⟩ := r
  refine rr_seq (rn_for (ρs := fun i => [.dat (msD (grown ms ((U.map (ed m)).take i))), .dat (nI m), .dat (tiesD U), .no]) (ds := U.map tieD) (src_tup (ed_var rfl)) (fun i d hd => ?_)) ?_
  · rw [List.getElem?_map] at hd
    obtain ⟨t, ht, rfl⟩ := Option.map_eq_some_iff.mp hd
    have he : (U.map (ed m))[i]? = some (ed m t) := by rw [List.getElem?_map, ht]; rfl
    have hx := h1 _ (List.mem_of_getElem? he)
    refine ⟨[(3, tieD t)], tgt_name, rn_is (rn_lose 3 (rn_asg (d := msD (grown ms ((U.map (ed m)).take (i + 1)))) ?_)) rfl⟩
    walk_at "ed"
    refine ⟨grown ms ((U.map (ed m)).take i), m, t, rfl, ?_, ?_, ?_, ?_⟩
    · rw [grown_len]; exact hx.1
    · rw [grown_len]; exact hx.2
    · rw [grown_len]; exact h2
    · rw [grown_take ms _ i _ he]
  · refine rr_ret (ed_is (ed_var rfl) ?_)
    rw [List.length_map, List.take_of_length_le (by rw [List.length_map]; exact Nat.le_refl _)]
def R_hangs_in (ds : List PyData) (d : PyData) : Prop := ∃ m n U, 0 < m + n ∧ ds = [nI m, nI n, tiesD U] ∧ (∀ e ∈ U.map (ed m), e.1 < m + n ∧ e.2 < m + n) ∧ m + n ≤ 60 ∧ U.length ≤ 1000 ∧ d = .bool (one (grown (List.range (m + n)) (U.map (ed m))))
theorem lenset_one (ms : List Nat) (h0 : 0 < ms.length) : ((((firstMet (fun i => (ms.map fun (n : Nat) => (n : Int)).getD i 0) (ms.map fun (n : Nat) => (n : Int)).length).length : Nat) : Int) == 1) = one ms := by
  have h := met_one (ms.map fun (n : Nat) => (n : Int)) (by rw [List.length_map]; exact h0)
  have h2 : (∀ x ∈ ms.map (fun (n : Nat) => (n : Int)), x = (ms.map fun (n : Nat) => (n : Int)).getD 0 0) ↔ one ms = true := by
    rw [one_iff]
    cases ms with
    | nil => exact absurd h0 (by decide)
    | cons a r =>
      constructor
      · intro z i hi
        have hm : ((K4.mk (a :: r) i : Nat) : Int) ∈ (a :: r).map (fun (n : Nat) => (n : Int)) := List.mem_map.mpr ⟨_, List.mem_of_getElem? (mk_get hi), rfl⟩
        have q := z _ hm
        have q0 : ((K4.mk (a :: r) i : Nat) : Int) = (a : Int) := q
        show K4.mk (a :: r) i = a
        omega
      · intro z x hx
        obtain ⟨y, hy, rfl⟩ := List.mem_map.mp hx
        obtain ⟨i, hi, e⟩ := List.mem_iff_getElem.mp hy
        have q := z i hi
        have q1 : (a :: r)[i]? = some y := by rw [List.getElem?_eq_getElem hi, e]
        rw [mk_get hi] at q1
        have q2 := Option.some.inj q1
        show (y : Int) = (a : Int)
        have q3 : K4.mk (a :: r) 0 = a := rfl
        omega
  rw [h2] at h
  cases hb : one ms with
  | true =>
    rw [h.mpr hb]
    rfl
  | false =>
    refine beq_eq_false_iff_ne.mpr fun z => ?_
    have := h.mp (by omega)
    rw [hb] at this
    cases this
theorem msI (ms : List Nat) : ms.map nI = (ms.map fun (n : Nat) => (n : Int)).map .int := by rw [List.map_map]; rfl
theorem ok_hangs_in (G_grown_from : FnOk P w K mg base CX0 2 T.f_grown_from T.d_grown_from ["marks", "many", "ties"] (Pure R_grown_from)) : FnOk P w K mg base CX0 3 T.f_hangs_in T.d_hangs_in ["many", "number", "ties"] (Pure R_hangs_in) := by
  refine T.F_hangs_in.ok sc_hangs_in (pure_len (n := 3) fun ds d ⟨_, _, _, _, e, _⟩ => by rw [e]; rfl) (fun cdv A outer s H vs Q E hr h => ⟨_, PSs.nox (pss_one (ps_ret (pe_cmpR op_eq (show PE _ _ (tLenSetG K _) from pe_lenSetG rfl (by rfl) T.n_len (by rfl) T.n_set (pe_call G_grown_from (hr.mono (by decide)) (by rfl) T.g_grown_from T.F_grown_from.kp T.b_grown_from .nil pass0 (pa_cons (pe_listRg rfl (by rfl) T.n_list (prg_1 (by rfl) T.n_range (pe_op op_add (pv 0) (pv 1)))) (pa_cons (pv 0) (pa_cons (pv 2) pa_nil))))) pe_int (by first | exact nomark _ | rfl)))), pure_run (fun ds d r => ?_) vs H Q E h⟩)
  obtain ⟨m, n, U, h0, rfl, h1, h2, h3, rfl⟩ := r
  have hg : ∀ e ∈ U.map (ed m), e.1 < (List.range (m + n)).length ∧ e.2 < (List.range (m + n)).length := by rw [List.length_range]; exact h1
  rw [← lenset_one _ (by rw [grown_len, List.length_range]; exact h0)]
  refine rr_ret ?_
  apply ed_op
  · apply ed_lenSet
    · rw [← msI]
      apply ed_call
      · apply ea_cons
        · exact EL.ed (el_listRg (n := (m : Int) + n) (by walk_at "ed") (by omega))
        · walk_at "ed"
      · exact ⟨List.range (m + n), m, U, by rw [← Int.natCast_add, Int.toNat_natCast, rngD_nat]; rfl, hg, by rw [List.length_range]; exact h2, h3, rfl⟩
    · rw [List.length_map, grown_len, List.length_range]; omega
  · exact ed_int
  · exact r2_eqI
end
end K4P
end

section
set_option Elab.async false
set_option linter.all false
set_option maxRecDepth 100000
set_option maxHeartbeats 4000000
namespace K4P
open PySem PySem.Spec L2 RZ DD K4
open PyProof.Rows (firstMet)
local macro_rules | `(tactic| walk_at "ed") => `(tactic| (repeat' (first
  | (with_reducible (first | exact ed_int | exact ed_bl | exact ed_str | exact ed_non | exact ea_nil | exact et_yes _ | apply ea_cons | apply ed_tup | apply r2_B | apply r2_eqIb | apply r2_neIb | exact r2_I0 (fun _ => Dq.int _) | exact rc_abs | exact rc_intI | exact rc_intB | exact rc_min | exact rc_max | exact r2_isN | apply ed_isi | apply ed_andT | apply ed_andV | apply ed_notV | apply ed_notF | apply ed_op | apply ed_un | apply et_val | apply et_test | apply et_not | apply et_notF | apply et_notT | apply ed_call | apply ed_cb | apply ed_chainT | apply et_orF | apply et_andT))
  | ((with_reducible apply ed_var); exact rfl) | ((with_reducible apply len_ok); exact rfl) | ((with_reducible apply kits); exact rfl) | exact (rfl : decide _ = _) | exact (rfl : (_ == _) = _) | exact nI_beq _ _
  | ((with_reducible apply r2_ixTu); exact r2_ixT rfl) | ((with_reducible apply r2_ixLu); exact r2_ixL rfl) | ((with_reducible apply rc_u); first | exact rc_len (.inr rfl) | exact rc_len (.inl rfl)))))
section
variable {P : Program} {w : World} {K : PySem.W.Frag} {mg : Str → Option Value} {base : Heap} (T : Tx K mg)
inductive Tp : Nat → PyData → PyData → Prop
  | int (k : Nat) (n : Int) : Tp k (.int n) (.int n)
  | lst (k : Nat) (xs : List (PyData × PyData)) (h : ∀ z ∈ xs, Tp k z.1 z.2) (hl : xs.length ≤ 1000) : Tp (k + 1) (.list (xs.map (·.1))) (.tuple (xs.map (·.2)))
  | tup (k : Nat) (xs : List (PyData × PyData)) (h : ∀ z ∈ xs, Tp k z.1 z.2) (hl : xs.length ≤ 1000) : Tp (k + 1) (.tuple (xs.map (·.1))) (.tuple (xs.map (·.2)))
def R_tupled : Nat → List PyData → PyData → Prop
  | 0 => fun _ _ => False
  | k + 1 => fun ds d => ∃ x, ds = [x] ∧ Tp k x d
theorem ok_tupled1 {k : Nat} (G_tupled : FnOk P w K mg base CX0 k T.f_tupled T.d_tupled ["value"] (Pure (R_tupled k))) : FnOk P w K mg base CX0 (k + 1) T.f_tupled T.d_tupled ["value"] (Pure (R_tupled (k + 1))) := by
  refine T.F_tupled.ok sc_tupled (pure_len (n := 1) fun ds d ⟨_, e, _⟩ => by rw [e]; rfl) (fun cdv A outer s H vs Q E hr h => ⟨_, PSs.nox (pss_one (ps_ret (pe_ifExp (pt_val (pe_callB (show CallR _ _ (rIsiT K) from call_isiT) (by rfl) T.n_isinstance (by decide +kernel) (pa_cons (pv 0) (pa_cons (pe_tup (pa_cons (pe_bltn (v := .ty "list") (by rfl) T.n_list (by decide +kernel) rfl) (pa_cons (pe_bltn (v := .ty "tuple") (by rfl) T.n_tuple (by decide +kernel) rfl) pa_nil))) pa_nil)))) (pe_callTy (call_tupleK (K := K) rfl) (by rfl) T.n_tuple (by decide +kernel) (pa_cons (pe_lc (own := [("own", 1)]) rfl sc_tupled.nd (pi_or (pi_list (pv 0)) (pi_tup (pv 0))) (blkOk_by (own := [("own", 1)]) (N := ["value", "own"]) (sc := defScope s_tupled) (by decide +kernel)) (fun _ _ _ _ _ => pg_name (i := 1) sc_tupled.nd rfl (by first | exact Or.inl rfl | exact Or.inr rfl)) (fun _ _ _ _ _ => pts_nil) (fun _ _ _ _ _ => (pe_call G_tupled hr (by rfl) T.g_tupled T.F_tupled.kp T.b_tupled .nil pass0 (pa_cons (pv 1) pa_nil)))) pa_nil)) (pv 0)))), pure_run (fun ds d r => ?_) vs H Q E h⟩)
  obtain ⟨x, rfl, r⟩ := r
  have hR : ∀ z : PyData × PyData, Tp k z.1 z.2 → R_tupled (k + 1) [z.1] z.2 := fun z h => ⟨z.1, rfl, h⟩
  have hS : ∀ k' (z : PyData × PyData), Tp k' z.1 z.2 → k = k' + 1 → R_tupled k [z.1] z.2 := fun k' z hh e => by subst e; exact ⟨z.1, rfl, hh⟩
  cases r with
  | int _ n => exact rr_ret (ed_if (b := false) (et_val (ed_isi2 (b := false) (c := false) (ed_var rfl) (kits _ _ _ rfl) (kits _ _ _ rfl))) (fun z => absurd z Bool.false_ne_true) fun _ => ed_var rfl)
  | lst k' xs hh hl =>
    refine rr_ret (ed_if (b := true) (et_val (ed_is (ed_isi2 (b := true) (c := false) (ed_var rfl) (kits _ _ _ rfl) (kits _ _ _ rfl)) rfl)) (fun _ => ?_) fun z => absurd z.symm Bool.false_ne_true)
    refine ed_cb (ea_cons (EL.ed (el_lcE (·.1) (·.2) xs (src_or1 (src_list (ed_var rfl))) (by omega) (fun z hz => ?_))) ea_nil) (rc_tupleOf (.inl rfl))
    walk_at "ed"
    exact hS _ z (hh z hz) rfl
  | tup k' xs hh hl =>
    refine rr_ret (ed_if (b := true) (et_val (ed_is (ed_isi2 (b := false) (c := true) (ed_var rfl) (kits _ _ _ rfl) (kits _ _ _ rfl)) rfl)) (fun _ => ?_) fun z => absurd z.symm Bool.false_ne_true)
    refine ed_cb (ea_cons (EL.ed (el_lcE (·.1) (·.2) xs (src_or2 (src_tup (ed_var rfl))) (by omega) (fun z hz => ?_))) ea_nil) (rc_tupleOf (.inl rfl))
    walk_at "ed"
    exact hS _ z (hh z hz) rfl
theorem ok_tupled : ∀ k, FnOk P w K mg base CX0 k T.f_tupled T.d_tupled ["value"] (Pure (R_tupled k))
  | 0 => fn_none
  | k + 1 => ok_tupled1 T (ok_tupled k)
def R_ascends (ds : List PyData) (d : PyData) : Prop := ∃ U : List Tie, U.Pairwise ltT ∧ U.length ≤ 1000 ∧ ds = [tiesD U] ∧ d = .bool true
theorem lex_ltT {a b : Tie} (h : ltT a b) : HT.lexLt [(a.1 : Int), (a.2 : Int)] [(b.1 : Int), (b.2 : Int)] = true := by
  rw [HT.lexLt_cons]
  rcases h with h | ⟨h1, h2⟩
  · rw [if_neg (by omega)]
    exact decide_eq_true (by omega)
  · rw [if_pos (by omega), HT.lexLt_cons, if_neg (by omega)]
    exact decide_eq_true (by omega)
theorem ok_ascends : FnOk P w K mg base CX0 1 T.f_ascends T.d_ascends ["row"] (Pure R_ascends) := by
  refine T.F_ascends.ok sc_ascends (pure_len (n := 1) fun ds d ⟨_, _, _, e, _⟩ => by rw [e]; rfl) (fun cdv A outer s H vs Q E hr h => ⟨_, PSs.nox (pss_one (ps_ret (pe_callB (show CallR _ _ (rAll K) from cr_all rfl) (by rfl) T.n_all (by decide +kernel) (pa_cons (pe_lc (own := [("k", 1)]) rfl sc_ascends.nd (pi_range1 (by rfl) T.n_range (pa_cons (pe_op op_sub (pe_callB (call_lenK (K := K) rfl) (by rfl) T.n_len (by decide +kernel) (pa_cons (pv 0) pa_nil)) pe_int) pa_nil)) (blkOk_by (own := [("k", 1)]) (N := ["row", "k"]) (sc := defScope s_ascends) (by decide +kernel)) (fun _ _ _ _ _ => pg_name (i := 1) sc_ascends.nd rfl (by first | exact Or.inl rfl | exact Or.inr rfl)) (fun _ _ _ _ _ => pts_nil) (fun _ _ _ _ _ => (pe_cmpR (show OpR _ _ (rLtT K) from op_ltT hr.units0) (pe_ix (show IxR _ (rIxT K) from ix_tup) (pv 0) (pv 1) (fun _ _ => rfl)) (pe_ix (show IxR _ (rIxT K) from ix_tup) (pv 0) (pe_op op_add (pv 1) pe_int) (fun _ _ => rfl)) (by first | exact nomark _ | rfl)))) pa_nil)))), pure_run (fun ds d r => ?_) vs H Q E h⟩)
  obtain ⟨U, h, hl, rfl, rfl⟩ := r
  refine rr_ret (ed_cb (ea_cons (EL.ed (el_is (zs := ((List.range (U.length - 1)).map fun _ => true).map .bool) (el_lcE nI (fun _ => .bool true) (List.range (U.length - 1)) ?_ (by rw [List.length_range]; omega) (fun i hi => ?_)) ?_)) ea_nil) (rc_allb ?_))
  · refine src_rngN (k := (U.length : Int) - 1) ?_ (by omega) (by omega)
    refine ea_cons (ed_op (d := .int (U.length : Int)) ?_ ed_int (r2_I0 fun _ => Dq.int _)) ea_nil
    refine ed_cb (ea_cons (ed_var rfl) ea_nil) (rc_lenN (.inr rfl) (by rw [List.length_map]))
  · have hi2 : i + 1 < U.length := by
      have := List.mem_range.mp hi
      omega
    have e1 : atI (U.map tieD) (i : Int) = some (tieD U[i]) := at_map tieD (List.getElem?_eq_getElem (by omega))
    have e2 : atI (U.map tieD) ((i : Int) + 1) = some (tieD U[i + 1]) := at_map (j := i + 1) tieD (List.getElem?_eq_getElem (by omega))
    have hlt : ltT U[i] U[i + 1] := List.pairwise_iff_getElem.mp h i (i + 1) (by omega) hi2 (by omega)
    rw [← lex_ltT hlt]
    refine ed_op ?_ ?_ (r2_ltT (ns := [(U[i].1 : Int), (U[i].2 : Int)]) (ms := [(U[i + 1].1 : Int), (U[i + 1].2 : Int)]))
    · exact ed_op (ed_var rfl) (ed_var rfl) (r2_ixT e1)
    · exact ed_op (ed_var rfl) (ed_op (ed_var rfl) ed_int (r2_I0 fun _ => Dq.int _)) (r2_ixT e2)
  · rw [List.map_map]
    rfl
  · rw [List.all_map]
    exact List.all_eq_true.mpr fun _ _ => rfl
def R_is_web (ds : List PyData) (d : PyData) : Prop := ∃ m n U, Web m n U ∧ m + n ≤ 60 ∧ U.length ≤ 1000 ∧ ds = [webD m n U] ∧ d = .bool true
theorem ok_is_web (G_is_long : FnOk P w K mg base CX0 1 T.f_is_long T.d_is_long ["thing", "length"] (Pure R_is_long)) (G_is_from : FnOk P w K mg base CX0 2 T.f_is_from T.d_is_from ["thing", "least"] (Pure R_is_from)) (G_is_tie_of : FnOk P w K mg base CX0 4 T.f_is_tie_of T.d_is_tie_of ["many", "number", "thing"] (Pure R_is_tie_of)) (G_ascends : FnOk P w K mg base CX0 1 T.f_ascends T.d_ascends ["row"] (Pure R_ascends)) (G_hangs_in : FnOk P w K mg base CX0 3 T.f_hangs_in T.d_hangs_in ["many", "number", "ties"] (Pure R_hangs_in)) : FnOk P w K mg base CX0 5 T.f_is_web T.d_is_web ["thing"] (Pure R_is_web) := by
  refine T.F_is_web.ok sc_is_web (pure_len (n := 1) fun ds d ⟨_, _, _, _, _, _, e, _⟩ => by rw [e]; rfl) (fun cdv A outer s H vs Q E hr h => ⟨_, PSs.nox (pss_cons (ps_if (PW.pt (pw_or (pt_not (pt_val (pe_call G_is_long (hr.mono (by decide)) (by rfl) T.g_is_long T.F_is_long.kp T.b_is_long .nil pass0 (pa_cons (pv 0) (pa_cons pe_int pa_nil))))) (pw_or (pt_not (pt_val (pe_call G_is_from (hr.mono (by decide)) (by rfl) T.g_is_from T.F_is_from.kp T.b_is_from .nil pass0 (pa_cons (pe_ix (show IxR _ (rIxT K) from ix_tup) (pv 0) pe_int (fun _ _ => rfl)) (pa_cons pe_int pa_nil))))) (pw_or1 (pt_not (pt_val (pe_call G_is_from (hr.mono (by decide)) (by rfl) T.g_is_from T.F_is_from.kp T.b_is_from .nil pass0 (pa_cons (pe_ix (show IxR _ (rIxT K) from ix_tup) (pv 0) pe_int (fun _ _ => rfl)) (pa_cons pe_int pa_nil))))))))) (pss_one (ps_ret pe_bl)) pss_nil) (pss_cons (ps_if (PW.pt (pw_or (pt_not (pt_val (pe_callB (show CallR _ _ (rIsi K) from call_isi) (by rfl) T.n_isinstance (by decide +kernel) (pa_cons (pe_ix (show IxR _ (rIxT K) from ix_tup) (pv 0) pe_int (fun _ _ => rfl)) (pa_cons (pe_bltn (v := .ty "tuple") (by rfl) T.n_tuple (by decide +kernel) rfl) pa_nil))))) (pw_or1 (pt_not (pt_val (pe_callB (show CallR _ _ (rAll K) from cr_all rfl) (by rfl) T.n_all (by decide +kernel) (pa_cons (pe_lc (own := [("own", 1)]) rfl sc_is_web.nd (show PI _ _ _ (iTup K _) from pi_tup (pe_ix (show IxR _ (rIxT K) from ix_tup) (pv 0) pe_int (fun _ _ => rfl))) (blkOk_by (own := [("own", 1)]) (N := ["thing", "own"]) (sc := defScope s_is_web) (by decide +kernel)) (fun _ _ _ _ _ => pg_name (i := 1) sc_is_web.nd rfl (by first | exact Or.inl rfl | exact Or.inr rfl)) (fun _ _ _ _ _ => pts_nil) (fun _ _ _ _ _ => (pe_call G_is_tie_of (hr.mono (by decide)) (by rfl) T.g_is_tie_of T.F_is_tie_of.kp T.b_is_tie_of .nil pass0 (pa_cons (pe_ix (show IxR _ (rIxT K) from ix_tup) (pv 0) pe_int (fun _ _ => rfl)) (pa_cons (pe_ix (show IxR _ (rIxT K) from ix_tup) (pv 0) pe_int (fun _ _ => rfl)) (pa_cons (pv 1) pa_nil)))))) pa_nil))))))) (pss_one (ps_ret pe_bl)) pss_nil) (pss_one (ps_ret (pe_and (pe_call G_ascends (hr.mono (by decide)) (by rfl) T.g_ascends T.F_ascends.kp T.b_ascends .nil pass0 (pa_cons (pe_ix (show IxR _ (rIxT K) from ix_tup) (pv 0) pe_int (fun _ _ => rfl)) pa_nil)) (pe_and (pe_cmpR op_ge (pe_callB (call_lenK (K := K) rfl) (by rfl) T.n_len (by decide +kernel) (pa_cons (pe_ix (show IxR _ (rIxT K) from ix_tup) (pv 0) pe_int (fun _ _ => rfl)) pa_nil)) (pe_op op_sub (pe_op op_add (pe_ix (show IxR _ (rIxT K) from ix_tup) (pv 0) pe_int (fun _ _ => rfl)) (pe_ix (show IxR _ (rIxT K) from ix_tup) (pv 0) pe_int (fun _ _ => rfl))) pe_int) (by first | exact nomark _ | rfl)) (pe_one (pe_call G_hangs_in (hr.mono (by decide)) (by rfl) T.g_hangs_in T.F_hangs_in.kp T.b_hangs_in .nil pass0 (pa_cons (pe_ix (show IxR _ (rIxT K) from ix_tup) (pv 0) pe_int (fun _ _ => rfl)) (pa_cons (pe_ix (show IxR _ (rIxT K) from ix_tup) (pv 0) pe_int (fun _ _ => rfl)) (pa_cons (pe_ix (show IxR _ (rIxT K) from ix_tup) (pv 0) pe_int (fun _ _ => rfl)) pa_nil))))))))))), pure_run (fun ds d r => ?_) vs H Q E h⟩)
  obtain ⟨m, n, U, hw, h1, h2, rfl, rfl⟩ := r
  refine rr_out ?_ (rr_out ?_ (rr_ret ?_))
  · walk_at "ed"
    · exact ⟨_, rfl, rfl⟩
    · exact ⟨m, hw.hm, rfl, rfl⟩
    · exact ⟨n, hw.hn, rfl, rfl⟩
  · walk_at "ed"
    · refine EL.ed (el_lcE tieD (fun _ => .bool true) U (src_tup (ed_op (ed_var rfl) ed_int (r2_ixT rfl))) (by omega) (fun t ht => ?_))
      walk_at "ed"
      exact ⟨m, n, t, (hw.rng t ht).1, (hw.rng t ht).2, rfl, rfl⟩
    · rw [show (U.map fun _ => PyData.bool true) = (U.map fun _ => true).map .bool by rw [List.map_map]; rfl]
      refine rc_allb ?_
      rw [List.all_map]
      exact List.all_eq_true.mpr fun _ _ => rfl
  · walk_at "ed"
    · exact ⟨U, hw.asc, h2, rfl, rfl⟩
    · refine decide_eq_true ?_
      have := hw.len
      rw [List.length_map]
      omega
    · exact ⟨m, n, U, hw.pos, rfl, hw.eds, h1, h2, by rw [hw.grown]⟩
def R_sure_web (ds : List PyData) (d : PyData) : Prop := ∃ x m n U, Tp 3 x (webD m n U) ∧ Web m n U ∧ m + n ≤ 60 ∧ U.length ≤ 1000 ∧ ds = [x] ∧ d = webD m n U
theorem ok_sure_web (G_is_web : FnOk P w K mg base CX0 5 T.f_is_web T.d_is_web ["thing"] (Pure R_is_web)) (G_tupled : FnOk P w K mg base CX0 4 T.f_tupled T.d_tupled ["value"] (Pure (R_tupled 4))) : FnOk P w K mg base CX0 6 T.f_sure_web T.d_sure_web ["web"] (Pure R_sure_web) := by
  refine T.F_sure_web.ok sc_sure_web (pure_len (n := 1) fun ds d ⟨_, _, _, _, _, _, _, _, e, _⟩ => by rw [e]; rfl) (fun cdv A outer s H vs Q E hr h => ⟨_, PSs.nox (pss_cons (ps_set (i := 1) sc_sure_web.nd rfl (by first | exact Or.inl rfl | exact Or.inr rfl) (pe_call G_tupled (hr.mono (by decide)) (by rfl) T.g_tupled T.F_tupled.kp T.b_tupled .nil pass0 (pa_cons (pv 0) pa_nil))) (pss_cons (ps_if (pt_not (pt_val (pe_call G_is_web (hr.mono (by decide)) (by rfl) T.g_is_web T.F_is_web.kp T.b_is_web .nil pass0 (pa_cons (pv 1) pa_nil)))) (pss_one ps_never) pss_nil) (pss_one (ps_ret (pv 1))))), pure_run (fun ds d r => ?_) vs H Q E h⟩)
  obtain ⟨x, m, n, U, ht, hw, h1, h2, rfl, rfl⟩ := r
  refine rr_seq (rn_asg (d := webD m n U) ?_) (rr_out ?_ (rr_ret ?_))
  · walk_at "ed"
    exact ⟨x, rfl, ht⟩
  · walk_at "ed"
    exact ⟨m, n, U, hw, h1, h2, rfl, rfl⟩
  · walk_at "ed"
end
end K4P
end

section
set_option Elab.async false
set_option linter.all false
set_option maxRecDepth 100000
set_option maxHeartbeats 4000000
namespace K4P
open PySem PySem.Spec L2 RZ DD K4
open PyProof.Rows (firstMet)
local macro_rules | `(tactic| walk_at "ed") => `(tactic| (repeat' (first
  | (with_reducible (first | exact ed_int | exact ed_bl | exact ed_str | exact ed_non | exact ea_nil | exact et_yes _ | apply ea_cons | apply ed_tup | apply r2_B | apply r2_eqIb | apply r2_neIb | exact r2_I0 (fun _ => Dq.int _) | exact rc_abs | exact rc_intI | exact rc_intB | exact rc_min | exact rc_max | exact r2_isN | apply ed_isi | apply ed_andT | apply ed_andV | apply ed_notV | apply ed_notF | apply ed_op | apply ed_un | apply et_val | apply et_test | apply et_not | apply et_notF | apply et_notT | apply ed_call | apply ed_cb | apply ed_chainT | apply et_orF | apply et_andT))
  | ((with_reducible apply ed_var); exact rfl) | ((with_reducible apply len_ok); exact rfl) | ((with_reducible apply kits); exact rfl) | exact (rfl : decide _ = _) | exact (rfl : (_ == _) = _) | exact nI_beq _ _
  | ((with_reducible apply r2_ixTu); exact r2_ixT rfl) | ((with_reducible apply r2_ixLu); exact r2_ixL rfl) | ((with_reducible apply rc_u); first | exact rc_len (.inr rfl) | exact rc_len (.inl rfl)))))
section
variable {P : Program} {w : World} {K : PySem.W.Frag} {mg : Str → Option Value} {base : Heap} (T : Tx K mg)
theorem any_tie (U : List Tie) (t : Tie) : ((U.map tieD).any fun z => PyData.eqv z (tieD t)) = decide (t ∈ U) := by
  induction U with
  | nil => rfl
  | cons u U ih =>
    rw [List.map_cons, List.any_cons, ih, tieD_eqv]
    by_cases h : u = t
    · rw [decide_eq_true h, Bool.true_or, decide_eq_true (List.mem_cons.mpr (.inl h.symm))]
    · rw [decide_eq_false h, Bool.false_or]
      by_cases h2 : t ∈ U
      · rw [decide_eq_true h2, decide_eq_true (List.mem_cons_of_mem _ h2)]
      · rw [decide_eq_false h2, decide_eq_false (fun z => (List.mem_cons.mp z).elim (fun q => h q.symm) h2)]
theorem all_yes {α : Type} {xs : List α} : ((xs.map fun _ => true).all id) = true := by
  rw [List.all_map]
  exact List.all_eq_true.mpr fun _ _ => rfl
theorem map_yes {α : Type} {xs : List α} : (xs.map fun _ => PyData.bool true) = (xs.map fun _ => true).map .bool := by rw [List.map_map]; rfl
def R_is_tree_in (ds : List PyData) (d : PyData) : Prop := ∃ m n U X, Web m n U ∧ m + n ≤ 60 ∧ U.length ≤ 1000 ∧ X.Pairwise ltT ∧ X.length + 1 = m + n ∧ (∀ t ∈ X, t ∈ U) ∧ ds = [webD m n U, tiesD X] ∧ d = .bool (one (grown (List.range (m + n)) (X.map (ed m))))
theorem ok_is_tree_in (G_is_pair : FnOk P w K mg base CX0 3 T.f_is_pair T.d_is_pair ["thing"] (Pure R_is_pair)) (G_ascends : FnOk P w K mg base CX0 1 T.f_ascends T.d_ascends ["row"] (Pure R_ascends)) (G_hangs_in : FnOk P w K mg base CX0 3 T.f_hangs_in T.d_hangs_in ["many", "number", "ties"] (Pure R_hangs_in)) : FnOk P w K mg base CX0 4 T.f_is_tree_in T.d_is_tree_in ["web", "thing"] (Pure R_is_tree_in) := by
  refine T.F_is_tree_in.ok sc_is_tree_in (pure_len (n := 2) fun ds d ⟨_, _, _, _, _, _, _, _, _, _, e, _⟩ => by rw [e]; rfl) (fun cdv A outer s H vs Q E hr h => ⟨_, PSs.nox (pss_cons (ps_if (PW.pt (pw_or (pt_not (pt_val (pe_callB (show CallR _ _ (rIsi K) from call_isi) (by rfl) T.n_isinstance (by decide +kernel) (pa_cons (pv 1) (pa_cons (pe_bltn (v := .ty "tuple") (by rfl) T.n_tuple (by decide +kernel) rfl) pa_nil))))) (pw_or1 (pt_cmpR op_ne (pe_callB (call_lenK (K := K) rfl) (by rfl) T.n_len (by decide +kernel) (pa_cons (pv 1) pa_nil)) (pe_op op_sub (pe_op op_add (pe_ix (show IxR _ (rIxT K) from ix_tup) (pv 0) pe_int (fun _ _ => rfl)) (pe_ix (show IxR _ (rIxT K) from ix_tup) (pv 0) pe_int (fun _ _ => rfl))) pe_int) (by first | exact nomark _ | rfl))))) (pss_one (ps_ret pe_bl)) pss_nil) (pss_cons (ps_if (pt_not (pt_val (pe_callB (show CallR _ _ (rAll K) from cr_all rfl) (by rfl) T.n_all (by decide +kernel) (pa_cons (pe_lc (own := [("own", 2)]) rfl sc_is_tree_in.nd (show PI _ _ _ (iTup K _) from pi_tup (pv 1)) (blkOk_by (own := [("own", 2)]) (N := ["web", "thing", "own"]) (sc := defScope s_is_tree_in) (by decide +kernel)) (fun _ _ _ _ _ => pg_name (i := 2) sc_is_tree_in.nd rfl (by first | exact Or.inl rfl | exact Or.inr rfl)) (fun _ _ _ _ _ => pts_nil) (fun _ _ _ _ _ => (pe_and (pe_call G_is_pair (hr.mono (by decide)) (by rfl) T.g_is_pair T.F_is_pair.kp T.b_is_pair .nil pass0 (pa_cons (pv 2) pa_nil)) (pe_one (pe_cmpR (show OpR _ _ (rInT K) from op_inT (by first | exact room_un 65 hr rfl | exact room_un 68 hr rfl | exact room_un 71 hr rfl)) (pv 2) (pe_ix (show IxR _ (rIxT K) from ix_tup) (pv 0) pe_int (fun _ _ => rfl)) (by first | exact nomark _ | rfl)))))) pa_nil)))) (pss_one (ps_ret pe_bl)) pss_nil) (pss_one (ps_ret (pe_and (pe_call G_ascends (hr.mono (by decide)) (by rfl) T.g_ascends T.F_ascends.kp T.b_ascends .nil pass0 (pa_cons (pv 1) pa_nil)) (pe_one (pe_call G_hangs_in (hr.mono (by decide)) (by rfl) T.g_hangs_in T.F_hangs_in.kp T.b_hangs_in .nil pass0 (pa_cons (pe_ix (show IxR _ (rIxT K) from ix_tup) (pv 0) pe_int (fun _ _ => rfl)) (pa_cons (pe_ix (show IxR _ (rIxT K) from ix_tup) (pv 0) pe_int (fun _ _ => rfl)) (pa_cons (pv 1) pa_nil)))))))))), pure_run (fun ds d r => ?_) vs H Q E h⟩)
  obtain ⟨m, n, U, X, hw, h1, h2, h3, h4, h5, rfl, rfl⟩ := r
  refine rr_out ?_ (rr_out ?_ (rr_ret ?_))
  · walk_at "ed"
    rw [List.length_map]
    exact congrArg not (beq_iff_eq.mpr (by omega))
  · walk_at "ed"
    · refine EL.ed (el_lcE tieD (fun _ => .bool true) X (src_tup (ed_var rfl)) (by omega) (fun t ht => ?_))
      walk_at "ed"
      · exact ⟨t, rfl, rfl⟩
      · exact r2_inTb (tieD_sh t) (tiesD_sh U) ((any_tie U t).trans (decide_eq_true (h5 t ht)))
    · rw [map_yes]
      exact rc_allb all_yes
  · refine ed_is (ed_andV (a := true) (b := one (grown (List.range (m + n)) (X.map (ed m)))) ?_ fun _ => ?_) rfl
    · walk_at "ed"
      exact ⟨X, h3, by omega, rfl, rfl⟩
    · walk_at "ed"
      refine ⟨m, n, X, hw.pos, rfl, fun e he => ?_, h1, by omega, rfl⟩
      obtain ⟨t, ht, rfl⟩ := List.mem_map.mp he
      exact hw.eds _ (List.mem_map.mpr ⟨t, h5 t ht, rfl⟩)
def gS (m : Nat) (s : List Nat × List Tie) (t : Tie) : List Nat × List Tie := (merge s.1 (ed m t), if merge s.1 (ed m t) ≠ s.1 then s.2 ++ [t] else s.2)
theorem greedy_fold (m : Nat) : ∀ (U : List Tie) (ms : List Nat) (acc : List Tie), greedy m ms acc U = (U.foldl (gS m) (ms, acc)).2
  | [], _, _ => rfl
  | t :: r, ms, acc => greedy_fold m r _ _
def R_some_in (ds : List PyData) (d : PyData) : Prop := ∃ m n U, Web m n U ∧ m + n ≤ 60 ∧ U.length ≤ 1000 ∧ ds = [webD m n U] ∧ d = tiesD (greedy m (List.range (m + n)) [] U)
theorem dec_ne {α : Type} [DecidableEq α] (a b : α) : (!decide (a = b)) = decide (a ≠ b) := by
  by_cases h : a = b
  · rw [decide_eq_true h, decide_eq_false (fun z => z h)]; rfl
  · rw [decide_eq_false h, decide_eq_true h]; rfl
theorem ok_some_in (G_marked : FnOk P w K mg base CX0 1 T.f_marked T.d_marked ["marks", "many", "tie"] (Pure R_marked)) : FnOk P w K mg base CX0 2 T.f_some_in T.d_some_in ["web"] (Pure R_some_in) := by
  refine T.F_some_in.ok sc_some_in (pure_len (n := 1) fun ds d ⟨_, _, _, _, _, _, e, _⟩ => by rw [e]; rfl) (fun cdv A outer s H vs Q E hr h => ⟨_, PSs.nox (pss_cons (ps_par (i := 1) (j := 2) rfl sc_some_in.nd rfl rfl (by decide) rfl rfl (pa_cons (pe_lst pa_nil) (pa_cons (pe_listRg rfl (by rfl) T.n_list (prg_1 (by rfl) T.n_range (pe_op op_add (pe_ix (show IxR _ (rIxT K) from ix_tup) (pv 0) pe_int (fun _ _ => rfl)) (pe_ix (show IxR _ (rIxT K) from ix_tup) (pv 0) pe_int (fun _ _ => rfl))))) pa_nil)) rfl) (pss_cons (ps_for PassesOwn.never rfl (show PI _ _ _ (iTup K _) from pi_tup (pe_ix (show IxR _ (rIxT K) from ix_tup) (pv 0) pe_int (fun _ _ => rfl))) (pg_name (i := 3) sc_some_in.nd rfl (by first | exact Or.inl rfl | exact Or.inr rfl)) (pss_cons (ps_set (i := 4) sc_some_in.nd rfl (by first | exact Or.inl rfl | exact Or.inr rfl) (pe_call G_marked (hr.mono (by decide)) (by rfl) T.g_marked T.F_marked.kp T.b_marked .nil pass0 (pa_cons (pv 2) (pa_cons (pe_ix (show IxR _ (rIxT K) from ix_tup) (pv 0) pe_int (fun _ _ => rfl)) (pa_cons (pv 3) pa_nil))))) (pss_cons (ps_if (pt_cmpR (show OpR _ _ (rNeD K) from op_neD hr.units) (pv 4) (pv 2) (by first | exact nomark _ | rfl)) (pss_one (ps_expr (show PE _ _ (tBM K _ _ _ _) from pe_bm PySem.F.plainAttrs_list PySem.F.slot_list_append PySem.F.type_list_append mt_append (pv 1) (pa_cons (pv 3) pa_nil)))) pss_nil) (pss_one (ps_set (i := 2) sc_some_in.nd rfl (by first | exact Or.inl rfl | exact Or.inr rfl) (pv 4)))))) (pss_one (ps_ret (pe_callTy (call_tupleK (K := K) rfl) (by rfl) T.n_tuple (by decide +kernel) (pa_cons (pv 1) pa_nil)))))), pure_run (fun ds d r => ?_) vs H Q E h⟩)
  obtain ⟨m, n, U, hw, h1, h2, rfl, rfl⟩ := r
  have e0 : (.list (rngD 0 ((m : Int) + n).toNat)) = msD (List.range (m + n)) := by rw [← Int.natCast_add, Int.toNat_natCast, rngD_nat]; rfl
  have hI : ∀ (i : Nat) (a : Tie) (s : List Nat × List Tie), U[i]? = some a → (s.1.length = m + n ∧ s.2.length ≤ i) → (gS m s a).1.length = m + n ∧ (gS m s a).2.length ≤ i + 1 := fun i a s _ hs => by
    unfold gS
    refine ⟨by rw [merge_len]; exact hs.1, ?_⟩
    show (if _ then _ else _ : List Tie).length ≤ _
    split
    · rw [List.length_append, List.length_singleton]; omega
    · omega
  refine rr_seq (rn_parLD (ds := []) (e := msD (List.range (m + n))) (el_lst ea_nil (by decide)) (ed_is (EL.ed (el_listRg (n := (m : Int) + n) ?_ (by omega))) e0)) (rr_seq (rn_forE tieD U (gS m) (List.range (m + n), []) (fun s => [.dat (webD m n U), .own (s.2.map tieD), .dat (msD s.1), .no, .no]) (fun i s => s.1.length = m + n ∧ s.2.length ≤ i) ?_ ⟨List.length_range, Nat.le_refl _⟩ hI ?_) ?_)
  · walk_at "ed"
  · refine src_tup (ds := U.map tieD) ?_
    walk_at "ed"
  · intro i t s ht hs
    have hx := hw.rng t (List.mem_of_getElem? ht)
    have hi := (List.getElem?_eq_some_iff.mp ht).1
    refine ⟨[(3, tieD t)], tgt_name, rn_seq (rn_asg (d := msD (merge s.1 (ed m t))) ?_) (rn_seq (rn_if (ρ' := [.dat (webD m n U), .own ((gS m s t).2.map tieD), .dat (msD s.1), .dat (tieD t), .dat (msD (merge s.1 (ed m t)))]) (b := decide (merge s.1 (ed m t) ≠ s.1)) ?_ (fun hb => ?_) fun hb => ?_) (rn_is (rn_lose 4 (rn_lose 3 (rn_asg (d := msD (merge s.1 (ed m t))) ?_))) rfl))⟩
    · walk_at "ed"
      exact ⟨s.1, m, t, rfl, by omega, by omega, by omega, rfl⟩
    · rw [← dec_ne, ← msD_eqv]
      exact et_test (ed_op (ed_var rfl) (ed_var rfl) (r2_neDb (msD_sh _) (msD_sh _) rfl))
    · refine rn_is (rn_app (j := 1) (ds := s.2.map tieD) rfl (by rw [List.length_map]; omega) (ed_var rfl)) ?_
      unfold gS
      rw [if_pos (of_decide_eq_true hb), List.map_append]
      rfl
    · refine rn_is rn_next ?_
      unfold gS
      rw [if_neg (of_decide_eq_false hb)]
      rfl
    · walk_at "ed"
  · rw [← greedy_fold]
    refine rr_freeze (j := 1) rfl (rr_ret ?_)
    exact ed_cb (ea_cons (ed_var rfl) ea_nil) (rc_tupleOf (.inl rfl))
def R_is_tree (ds : List PyData) (d : PyData) : Prop := ∃ x m n U X, Tp 3 x (webD m n U) ∧ Web m n U ∧ m + n ≤ 60 ∧ U.length ≤ 1000 ∧ X.Pairwise ltT ∧ X.length + 1 = m + n ∧ (∀ t ∈ X, t ∈ U) ∧ ds = [x, tiesD X] ∧ d = .bool (one (grown (List.range (m + n)) (X.map (ed m))))
theorem ok_is_tree (G_sure_web : FnOk P w K mg base CX0 6 T.f_sure_web T.d_sure_web ["web"] (Pure R_sure_web)) (G_is_tree_in : FnOk P w K mg base CX0 4 T.f_is_tree_in T.d_is_tree_in ["web", "thing"] (Pure R_is_tree_in)) : FnOk P w K mg base CX0 7 T.f_is_tree T.d_is_tree ["web", "thing"] (Pure R_is_tree) := by
  refine T.F_is_tree.ok sc_is_tree (pure_len (n := 2) fun ds d ⟨_, _, _, _, _, _, _, _, _, _, _, _, e, _⟩ => by rw [e]; rfl) (fun cdv A outer s H vs Q E hr h => ⟨_, PSs.nox (pss_one (ps_ret (pe_call G_is_tree_in (hr.mono (by decide)) (by rfl) T.g_is_tree_in T.F_is_tree_in.kp T.b_is_tree_in .nil pass0 (pa_cons (pe_call G_sure_web (hr.mono (by decide)) (by rfl) T.g_sure_web T.F_sure_web.kp T.b_sure_web .nil pass0 (pa_cons (pv 0) pa_nil)) (pa_cons (pv 1) pa_nil))))), pure_run (fun ds d r => ?_) vs H Q E h⟩)
  obtain ⟨x, m, n, U, X, ht, hw, h1, h2, h3, h4, h5, rfl, rfl⟩ := r
  refine rr_ret ?_
  walk_at "ed"
  · exact ⟨x, m, n, U, ht, hw, h1, h2, rfl, rfl⟩
  · exact ⟨m, n, U, X, hw, h1, h2, h3, h4, h5, rfl, rfl⟩
def R_some_tree (ds : List PyData) (d : PyData) : Prop := ∃ x m n U, Tp 3 x (webD m n U) ∧ Web m n U ∧ m + n ≤ 60 ∧ U.length ≤ 1000 ∧ ds = [x] ∧ d = tiesD (greedy m (List.range (m + n)) [] U)
theorem ok_some_tree (G_sure_web : FnOk P w K mg base CX0 6 T.f_sure_web T.d_sure_web ["web"] (Pure R_sure_web)) (G_some_in : FnOk P w K mg base CX0 2 T.f_some_in T.d_some_in ["web"] (Pure R_some_in)) : FnOk P w K mg base CX0 7 T.f_some_tree T.d_some_tree ["web"] (Pure R_some_tree) := by
  refine T.F_some_tree.ok sc_some_tree (pure_len (n := 1) fun ds d ⟨_, _, _, _, _, _, _, _, e, _⟩ => by rw [e]; rfl) (fun cdv A outer s H vs Q E hr h => ⟨_, PSs.nox (pss_one (ps_ret (pe_call G_some_in (hr.mono (by decide)) (by rfl) T.g_some_in T.F_some_in.kp T.b_some_in .nil pass0 (pa_cons (pe_call G_sure_web (hr.mono (by decide)) (by rfl) T.g_sure_web T.F_sure_web.kp T.b_sure_web .nil pass0 (pa_cons (pv 0) pa_nil)) pa_nil)))), pure_run (fun ds d r => ?_) vs H Q E h⟩)
  obtain ⟨x, m, n, U, ht, hw, h1, h2, rfl, rfl⟩ := r
  refine rr_ret ?_
  walk_at "ed"
  · exact ⟨x, m, n, U, ht, hw, h1, h2, rfl, rfl⟩
  · exact ⟨m, n, U, hw, h1, h2, rfl, rfl⟩
end
end K4P
end

section
set_option Elab.async false
set_option linter.all false
set_option maxRecDepth 100000
set_option maxHeartbeats 4000000
namespace K4P
open PySem PySem.Spec L2 RZ DD K4
open PyProof.Rows (firstMet)
local macro_rules | `(tactic| walk_at "ed") => `(tactic| (repeat' (first
  | (with_reducible (first | exact ed_int | exact ed_bl | exact ed_str | exact ed_non | exact ea_nil | exact et_yes _ | apply ea_cons | apply ed_tup | apply r2_B | apply r2_eqIb | apply r2_neIb | exact r2_I0 (fun _ => Dq.int _) | exact rc_abs | exact rc_intI | exact rc_intB | exact rc_min | exact rc_max | exact r2_isN | apply ed_isi | apply ed_andT | apply ed_andV | apply ed_notV | apply ed_notF | apply ed_op | apply ed_un | apply et_val | apply et_test | apply et_not | apply et_notF | apply et_notT | apply ed_call | apply ed_cb | apply ed_chainT | apply et_orF | apply et_andT))
  | ((with_reducible apply ed_var); exact rfl) | ((with_reducible apply len_ok); exact rfl) | ((with_reducible apply kits); exact rfl) | exact (rfl : decide _ = _) | exact (rfl : (_ == _) = _) | exact nI_beq _ _
  | ((with_reducible apply r2_ixTu); exact r2_ixT rfl) | ((with_reducible apply r2_ixLu); exact r2_ixL rfl) | ((with_reducible apply rc_u); first | exact rc_len (.inr rfl) | exact rc_len (.inl rfl)))))
section
variable {P : Program} {w : World} {K : PySem.W.Frag} {mg : Str → Option Value} {base : Heap} (T : Tx K mg)
def OrRaise (c : Addr) (R : List PyData → List PyData → Prop) (Z : List PyData → Prop) : Sp := fun vs H Q E => PureL R vs H Q E ∨ ∃ H0 ds, Same H0 H ∧ DqAll H0 vs ds ∧ Z ds ∧ ∀ H0' H', Grow H0 H H0' H' → E (.ref c) none H'
theorem rl_out {t u : TS} {ρ : DD.Env} {ds : List PyData} {c : TT} (h : ET c ρ false) (h2 : RL u ρ ds) : RL (tSeq (tIfS c t tNext) u) ρ ds := fun Hi0 Hi D σ H ⟨H0, s⟩ k => h σ H0 H s.gr.sub s.len s.dat _ fun H1 H1' g => h2 Hi0 Hi D σ H1' ⟨H1, s.more g⟩ k
theorem raise_out {t u : TS} {ρ : DD.Env} {c : TT} (h : ET c ρ true) (Hi0 Hi : Hp) (D : Ends) (σ : St) (H : Hp) (o : Ok Hi0 Hi ρ σ H) (k : ∀ H1 H1', Grow Hi0 Hi H1 H1' → t { D with nx := u D } σ H1') : tSeq (tIfS c t tNext) u D σ H := by
  obtain ⟨H0, s⟩ := o
  exact h σ H0 H s.gr.sub s.len s.dat _ fun H1 H1' g => k H1 H1' (s.gr.trans g)
theorem orR_len {c : Addr} {R : List PyData → List PyData → Prop} {Z : List PyData → Prop} {n : Nat} (h1 : ∀ ds es, R ds es → ds.length = n) (h2 : ∀ ds, Z ds → ds.length = n) (vs : List V) (H : Hp) (Q : VK) (E : XK) (h : OrRaise c R Z vs H Q E) : vs.length = n := by
  rcases h with h | ⟨H0, ds, s, a, z, _⟩
  · exact pureL_len h1 vs H Q E h
  · rw [a.len]
    exact h2 ds z
def R_many_in (ds : List PyData) (d : PyData) : Prop := ∃ m n U, Web m n U ∧ m + n ≤ 24 ∧ U.length ≤ 60 ∧ ds = [webD m n U] ∧ d = nI (count m n U)
def R_all_in (ds : List PyData) (es : List PyData) : Prop := ∃ m n U, Web m n U ∧ m + n ≤ 24 ∧ U.length ≤ 14 ∧ count m n U ≤ 2000 ∧ ds = [webD m n U] ∧ es = (srtT (treesW m n U)).map tiesD
def Z_all_in (ds : List PyData) : Prop := ∃ m n U, Web m n U ∧ m + n ≤ 24 ∧ U.length ≤ 60 ∧ 2000 < count m n U ∧ ds = [webD m n U]
def rowD (r : List Tie × List Nat) : PyData := .tuple [tiesD r.1, msD r.2]
def zD (z : Tie × Nat) : PyData := .tuple [nI z.2, tieD z.1]
theorem prs_zip (U : List Tie) : prs (rngD 0 (U.map tieD).length) (U.map tieD) = U.zipIdx.map zD := by
  rw [List.length_map, rngD_nat]
  unfold prs
  refine List.ext_getElem? fun i => ?_
  rw [List.getElem?_map, List.getElem?_map, List.getElem?_zipIdx]
  by_cases h : i < U.length
  · have e1 : ((List.range U.length).map fun (i : Nat) => PyData.int (i : Int))[i]? = some (nI i) := by rw [List.getElem?_map, List.getElem?_range h]; rfl
    have e2 : (U.map tieD)[i]? = some (tieD U[i]) := by rw [List.getElem?_map, List.getElem?_eq_getElem h]; rfl
    rw [List.getElem?_zip_eq_some (z := (nI i, tieD U[i])) |>.mpr ⟨e1, e2⟩, List.getElem?_eq_getElem h]
    show some _ = some _
    rw [Nat.zero_add]
    rfl
  · rw [List.getElem?_eq_none (l := U) (by omega), List.getElem?_eq_none (by rw [List.length_zip, List.length_map, List.length_map, List.length_range]; omega)]
    rfl
def fP (m : Nat) (U : List Tie) (s : List (List Tie × List Nat)) (z : Tie × Nat) : List (List Tie × List Nat) := s.flatMap (stepP m (U.drop (z.2 + 1)) z.1)
theorem fold_runP (m : Nat) (U : List Tie) : ∀ (V W : List Tie) (s : List (List Tie × List Nat)), U = V ++ W → (W.zipIdx V.length).foldl (fP m U) s = runP m s W
  | _, [], _, _ => rfl
  | V, t :: W, s, h => by
    rw [List.zipIdx_cons, List.foldl_cons]
    have e : U.drop (V.length + 1) = W := by
      rw [h, ← List.drop_drop, List.drop_append_of_le_length (Nat.le_refl _), List.drop_length]
      rfl
    show ((W.zipIdx (V.length + 1)).foldl (fP m U) (s.flatMap (stepP m (U.drop (V.length + 1)) t))) = runP m (s.flatMap (stepP m W t)) W
    rw [e]
    have := fold_runP m U (V ++ [t]) W (s.flatMap (stepP m W t)) (by rw [h]; simp)
    rw [List.length_append, List.length_singleton] at this
    exact this
theorem fold_flat {α β : Type} (f : α → List β) : ∀ (xs : List α) (s : List β), xs.foldl (fun s a => s ++ f a) s = s ++ xs.flatMap f
  | [], s => by simp
  | x :: xs, s => by
    rw [List.foldl_cons, fold_flat f xs, List.flatMap_cons, List.append_assoc]
theorem stepP_len (m : Nat) (W : List Tie) (t : Tie) (r : List Tie × List Nat) : (stepP m W t r).length ≤ 2 := by
  unfold stepP
  rw [List.length_append]
  have h1 : (if merge r.2 (ed m t) ≠ r.2 then [(r.1 ++ [t], merge r.2 (ed m t))] else []).length ≤ 1 := by split <;> first | exact Nat.le_refl _ | exact Nat.zero_le _
  have h2 : (if merge r.2 (ed m t) = r.2 ∨ one (grown r.2 (W.map (ed m))) = true then [r] else []).length ≤ 1 := by split <;> first | exact Nat.le_refl _ | exact Nat.zero_le _
  omega
theorem stepP_mem {m k N : Nat} {W : List Tie} {t : Tie} {r x : List Tie × List Nat} (h1 : r.1.length ≤ k) (h2 : r.2.length = N) (h : x ∈ stepP m W t r) : x.1.length ≤ k + 1 ∧ x.2.length = N := by
  unfold stepP at h
  rcases List.mem_append.mp h with h | h
  · split at h
    · rw [List.mem_singleton.mp h]
      exact ⟨by rw [List.length_append, List.length_singleton]; omega, by rw [merge_len]; exact h2⟩
    · cases h
  · split at h
    · rw [List.mem_singleton.mp h]
      exact ⟨by omega, h2⟩
    · cases h
theorem flat_len {α β : Type} (f : α → List β) (h : ∀ a, (f a).length ≤ 2) : ∀ xs : List α, (xs.flatMap f).length ≤ 2 * xs.length
  | [] => by simp
  | x :: xs => by
    rw [List.flatMap_cons, List.length_append, List.length_cons]
    have := h x
    have := flat_len f h xs
    omega
-- ['web', 'rows', 'place', 'tie', 'longer', 'rest', 'tree', 'marks', 'later', 'own']
theorem ok_all_in (G_many_in : FnOk P w K mg base CX0 2 T.f_many_in T.d_many_in ["web"] (Pure R_many_in)) (G_marked : FnOk P w K mg base CX0 1 T.f_marked T.d_marked ["marks", "many", "tie"] (Pure R_marked)) (G_grown_from : FnOk P w K mg base CX0 2 T.f_grown_from T.d_grown_from ["marks", "many", "ties"] (Pure R_grown_from)) : FnOk P w K mg base (L2.CX P w) 3 T.f_all_in T.d_all_in ["web"] (OrRaise T.c_TooMany R_all_in Z_all_in) := by
  refine T.F_all_in.ok (CX := L2.CX P w) sc_all_in (orR_len (n := 1) (fun ds es ⟨_, _, _, _, _, _, _, e, _⟩ => by rw [e]; rfl) fun ds ⟨_, _, _, _, _, _, _, e⟩ => by rw [e]; rfl) (fun cdv A outer s H vs Q E hr h => ⟨_, pss_cons (ps_if (pt_cmpR op_gt (pe_call G_many_in (hr.mono (by decide)) (by rfl) T.g_many_in T.F_many_in.kp T.b_many_in .nil pass0 (pa_cons (pv 0) pa_nil)) (pe_glob (v := .int 2000) rfl T.g_MOST ⟨_, rfl⟩) (by first | exact nomark _ | rfl)) (pss_one (ps_raise rfl (takes_of rfl rfl rfl rfl) (pmk_own0 PySem.F.excBase_ValueError T.xP T.g_TooMany T.kP (raises_own T.bP T.tP) rfl))) pss_nil) (PSs.nox (pss_cons (ps_set (i := 1) sc_all_in.nd rfl (by first | exact Or.inl rfl | exact Or.inr rfl) (pe_lst (pa_cons (pe_tup (pa_cons (pe_tup pa_nil) (pa_cons (pe_listRg rfl (by rfl) T.n_list (prg_1 (by rfl) T.n_range (pe_op op_add (pe_ix (show IxR _ (rIxT K) from ix_tup) (pv 0) pe_int (fun _ _ => rfl)) (pe_ix (show IxR _ (rIxT K) from ix_tup) (pv 0) pe_int (fun _ _ => rfl))))) pa_nil))) pa_nil))) (pss_cons (ps_for PassesOwn.never rfl (show PI _ _ _ (iEnumT K _) from pi_enumT (by rfl) T.n_enumerate (pa_cons (pe_ix (show IxR _ (rIxT K) from ix_tup) (pv 0) pe_int (fun _ _ => rfl)) pa_nil)) (show PG _ _ (gTup K _ _) from pg_tup rfl (pgs_cons (pg_name (i := 2) sc_all_in.nd rfl (by first | exact Or.inl rfl | exact Or.inr rfl)) (pgs_cons (pg_name (i := 3) sc_all_in.nd rfl (by first | exact Or.inl rfl | exact Or.inr rfl)) pgs_nil))) (pss_cons (ps_par (i := 4) (j := 5) rfl sc_all_in.nd rfl rfl (by decide) rfl rfl (pa_cons (pe_lst pa_nil) (pa_cons (pe_slice (show SlR _ (rSlA K) from sl_tupA) (pe_ix (show IxR _ (rIxT K) from ix_tup) (pv 0) pe_int (fun _ _ => rfl)) (po_some (pe_op op_add (pv 2) pe_int)) po_none) pa_nil)) rfl) (pss_cons (ps_for PassesOwn.never rfl (show PI _ _ _ (iList K _) from pi_list (pv 1)) (show PG _ _ (gTup K _ _) from pg_tup rfl (pgs_cons (pg_name (i := 6) sc_all_in.nd rfl (by first | exact Or.inl rfl | exact Or.inr rfl)) (pgs_cons (pg_name (i := 7) sc_all_in.nd rfl (by first | exact Or.inl rfl | exact Or.inr rfl)) pgs_nil))) (pss_cons (ps_set (i := 8) sc_all_in.nd rfl (by first | exact Or.inl rfl | exact Or.inr rfl) (pe_call G_marked (hr.mono (by decide)) (by rfl) T.g_marked T.F_marked.kp T.b_marked .nil pass0 (pa_cons (pv 7) (pa_cons (pe_ix (show IxR _ (rIxT K) from ix_tup) (pv 0) pe_int (fun _ _ => rfl)) (pa_cons (pv 3) pa_nil))))) (pss_cons (ps_if (pt_cmpR (show OpR _ _ (rNeD K) from op_neD hr.units) (pv 8) (pv 7) (by first | exact nomark _ | rfl)) (pss_one (ps_expr (show PE _ _ (tBM K _ _ _ _) from pe_bm PySem.F.plainAttrs_list PySem.F.slot_list_append PySem.F.type_list_append mt_append (pv 4) (pa_cons (pe_tup (pa_cons (pe_op (show OpR _ _ (rCatA K) from op_catA) (pv 6) (pe_tup (pa_cons (pv 3) pa_nil))) (pa_cons (pv 8) pa_nil))) pa_nil)))) pss_nil) (pss_one (ps_if (PW.pt (pw_or (pt_cmpR (show OpR _ _ (rEqD K) from op_eqD hr.units) (pv 8) (pv 7) (by first | exact nomark _ | rfl)) (pw_or1 (pt_cmpR op_eq (show PE _ _ (tLenSetG K _) from pe_lenSetG rfl (by rfl) T.n_len (by rfl) T.n_set (pe_call G_grown_from (hr.mono (by decide)) (by rfl) T.g_grown_from T.F_grown_from.kp T.b_grown_from .nil pass0 (pa_cons (pv 7) (pa_cons (pe_ix (show IxR _ (rIxT K) from ix_tup) (pv 0) pe_int (fun _ _ => rfl)) (pa_cons (pv 5) pa_nil))))) pe_int (by first | exact nomark _ | rfl))))) (pss_one (ps_expr (show PE _ _ (tBM K _ _ _ _) from pe_bm PySem.F.plainAttrs_list PySem.F.slot_list_append PySem.F.type_list_append mt_append (pv 4) (pa_cons (pe_tup (pa_cons (pv 6) (pa_cons (pv 7) pa_nil))) pa_nil)))) pss_nil))))) (pss_one (ps_set (i := 1) sc_all_in.nd rfl (by first | exact Or.inl rfl | exact Or.inr rfl) (pv 4)))))) (pss_one (ps_ret (pe_callB (cr_sortQ hr.units) (by rfl) T.n_sorted (by decide +kernel) (pa_cons (pe_lc (own := [("own", 9)]) rfl sc_all_in.nd (show PI _ _ _ (iList K _) from pi_list (pv 1)) (blkOk_by (own := [("own", 9)]) (N := ["web", "rows", "place", "tie", "longer", "rest", "tree", "marks", "later", "own"]) (sc := defScope s_all_in) (by decide +kernel)) (fun _ _ _ _ _ => pg_name (i := 9) sc_all_in.nd rfl (by first | exact Or.inl rfl | exact Or.inr rfl)) (fun _ _ _ _ _ => pts_nil) (fun _ _ _ _ _ => (pe_ix (show IxR _ (rIxT K) from ix_tup) (pv 9) pe_int (fun _ _ => rfl)))) pa_nil))))))), ?_⟩)
  rcases h with h | ⟨H0, ds, hs, ha, ⟨m, n, U, hw, b1, b2, b3, rfl⟩, hk⟩
  · refine pureL_run (fun ds es r => ?_) vs H Q E h
    obtain ⟨m, n, U, hw, b1, b2, b3, rfl, rfl⟩ := r
    have e0 : (.list (rngD 0 ((m : Int) + n).toNat)) = msD (List.range (m + n)) := by rw [← Int.natCast_add, Int.toNat_natCast, rngD_nat]; rfl
    refine rl_out ?_ (rl_seq (rn_asg (d := .list ([([], List.range (m + n))].map rowD)) ?_) (rl_seq (rn_forE zD U.zipIdx (fP m U) [([], List.range (m + n))] (fun s => [.dat (webD m n U), .dat (.list (s.map rowD)), .no, .no, .no, .no, .no, .no, .no, .no]) (fun i s => s.length ≤ 2 ^ i ∧ ∀ r ∈ s, r.1.length ≤ i ∧ r.2.length = m + n) ?_ ?_ ?_ ?_) ?_))
    · walk_at "ed"
      · exact ⟨m, n, U, hw, b1, by omega, rfl, rfl⟩
      · exact decide_eq_false (by omega)
    · refine EL.ed (el_lst (ea_cons (ed_tup (ea_cons (ed_tup ea_nil (len_ok rfl)) (ea_cons (ed_is (EL.ed (el_listRg (n := (m : Int) + n) ?_ (by omega))) e0) ea_nil)) (len_ok rfl)) ea_nil) (len_ok rfl))
      walk_at "ed"
    · rw [← prs_zip]
      refine src_enumT ?_
      walk_at "ed"
    · refine ⟨Nat.le_of_ble_eq_true rfl, fun r hr => ?_⟩
      rw [List.mem_singleton.mp hr]
      exact ⟨Nat.le_refl _, List.length_range⟩
    · intro i z s hz ⟨h1, h2⟩
      refine ⟨Nat.le_trans (flat_len _ (fun r => stepP_len m _ _ r) s) (by rw [Nat.pow_succ]; omega), fun x hx => ?_⟩
      obtain ⟨r, hr, hx⟩ := List.mem_flatMap.mp hx
      exact stepP_mem (h2 r hr).1 (h2 r hr).2 hx
    · intro i z s hz ⟨h1, h2⟩
      obtain ⟨hi, hz⟩ := List.getElem?_eq_some_iff.mp hz
      rw [List.length_zipIdx] at hi
      rw [List.getElem_zipIdx, Nat.zero_add] at hz
      subst hz
      have hx := hw.rng U[i] (List.getElem_mem hi)
      have hp : 2 ^ i ≤ 2 ^ 14 := Nat.pow_le_pow_right (by decide) (by omega)
      have hW : ∀ e ∈ (U.drop (i + 1)).map (ed m), e.1 < m + n ∧ e.2 < m + n := fun e he => by
        obtain ⟨t, ht, rfl⟩ := List.mem_map.mp he
        exact hw.eds _ (List.mem_map.mpr ⟨t, List.mem_of_mem_drop ht, rfl⟩)
      refine ⟨[(2, nI i), (3, tieD U[i])], tgt_two, ?_⟩
      refine rn_is (ρ' := [.dat (webD m n U), .dat (.list ((fP m U s (U[i], i)).map rowD)), .no, .no, .no, .no, .no, .no, .no, .no]) ?_ rfl
      refine rn_seq (rn_parLD (ds := []) (e := tiesD (U.drop (i + 1))) (el_lst ea_nil (by decide)) ?_) (rn_seq (rn_forE rowD s (fun a r => a ++ stepP m (U.drop (i + 1)) U[i] r) [] (fun a => [.dat (webD m n U), .dat (.list (s.map rowD)), .dat (nI i), .dat (tieD U[i]), .own (a.map rowD), .dat (tiesD (U.drop (i + 1))), .no, .no, .no, .no]) (fun j a => a.length ≤ 2 * j) ?_ (Nat.le_refl _) ?_ ?_) ?_)
      · refine ed_is (ed_slT (lo := some ((i + 1 : Nat) : Int)) (ds := U.map tieD) ?_ (eo_some ?_) eo_none) ?_
        · walk_at "ed"
        · walk_at "ed"
        · rw [cut_from, ← List.map_drop]
          rfl
      · exact src_list (ed_var rfl)
      · intro j r a _ ha
        rw [List.length_append]
        have := stepP_len m (U.drop (i + 1)) U[i] r
        omega
      · intro j r a hr ha
        obtain ⟨hr1, hr2⟩ := h2 r (List.mem_of_getElem? hr)
        have hj := (List.getElem?_eq_some_iff.mp hr).1
        refine ⟨[(6, tiesD r.1), (7, msD r.2)], tgt_two, ?_⟩
        have hlen : a.length + 2 < 100000 := by omega
        let a1 := a ++ (if merge r.2 (ed m U[i]) ≠ r.2 then [(r.1 ++ [U[i]], merge r.2 (ed m U[i]))] else [])
        have ha1 : a1.length ≤ a.length + 1 := by
          show (a ++ (if _ then _ else _ : List (List Tie × List Nat))).length ≤ _
          rw [List.length_append]
          split
          · rw [List.length_singleton]
            omega
          · exact Nat.le_succ _
        refine rn_seq (rn_asg (d := msD (merge r.2 (ed m U[i]))) ?_) (rn_seq (rn_if (ρ' := [.dat (webD m n U), .dat (.list (s.map rowD)), .dat (nI i), .dat (tieD U[i]), .own (a1.map rowD), .dat (tiesD (U.drop (i + 1))), .dat (tiesD r.1), .dat (msD r.2), .dat (msD (merge r.2 (ed m U[i]))), .no]) (b := decide (merge r.2 (ed m U[i]) ≠ r.2)) ?_ (fun hb => ?_) fun hb => ?_)
          (rn_is (rn_lose 8 (rn_lose 7 (rn_lose 6 (rn_if (ρ' := [.dat (webD m n U), .dat (.list (s.map rowD)), .dat (nI i), .dat (tieD U[i]), .own ((a ++ stepP m (U.drop (i + 1)) U[i] r).map rowD), .dat (tiesD (U.drop (i + 1))), .dat (tiesD r.1), .dat (msD r.2), .dat (msD (merge r.2 (ed m U[i]))), .no]) (b := decide (merge r.2 (ed m U[i]) = r.2) || one (grown r.2 ((U.drop (i + 1)).map (ed m)))) ?_ (fun hb => ?_) fun hb => ?_)))) rfl))
        · walk_at "ed"
          exact ⟨r.2, m, U[i], rfl, by omega, by omega, by omega, rfl⟩
        · rw [← dec_ne, ← msD_eqv]
          exact et_test (ed_op (ed_var rfl) (ed_var rfl) (r2_neDb (msD_sh _) (msD_sh _) rfl))
        · refine rn_is (rn_app (j := 4) (ds := a.map rowD) (d := rowD (r.1 ++ [U[i]], merge r.2 (ed m U[i]))) rfl (by rw [List.length_map]; omega) ?_) ?_
          · refine ed_tup (ea_cons (ed_is (ed_op (ed_var rfl) (ed_tup (ea_cons (ed_var rfl) ea_nil) (len_ok rfl)) (r2_catA (ds := r.1.map tieD) (es := [tieD U[i]]) ?_)) ?_) (ea_cons (ed_var rfl) ea_nil)) (len_ok rfl)
            · rw [List.length_map]
              show _ + 1 ≤ _
              omega
            · rw [show tiesD (r.1 ++ [U[i]]) = .tuple ((r.1 ++ [U[i]]).map tieD) from rfl, List.map_append]
              rfl
          · show _ = ([_, _, _, _, .own ((a ++ (if _ then _ else _ : List (List Tie × List Nat))).map rowD), _, _, _, _, _] : DD.Env)
            rw [if_pos (of_decide_eq_true hb), List.map_append]
            rfl
        · refine rn_is rn_next ?_
          show _ = ([_, _, _, _, .own ((a ++ (if _ then _ else _ : List (List Tie × List Nat))).map rowD), _, _, _, _, _] : DD.Env)
          rw [if_neg (of_decide_eq_false hb), List.append_nil]
          rfl
        · refine et_or ?_ fun _ => ?_
          · rw [← msD_eqv]
            exact et_test (ed_op (ed_var rfl) (ed_var rfl) (r2_eqDb (msD_sh _) (msD_sh _) rfl))
          · rw [← lenset_one _ (by rw [grown_len]; have := hw.pos; omega)]
            refine et_test (ed_op (ed_lenSet (ns := (grown r.2 ((U.drop (i + 1)).map (ed m))).map fun (n : Nat) => (n : Int)) ?_ ?_) ed_int r2_eqI)
            · rw [← msI]
              walk_at "ed"
              exact ⟨r.2, m, U.drop (i + 1), rfl, by rw [hr2]; exact hW, by omega, by rw [List.length_drop]; omega, rfl⟩
            · rw [List.length_map, grown_len]
              omega
        · refine rn_is (rn_app (j := 4) (ds := a1.map rowD) (d := rowD r) rfl (by rw [List.length_map]; omega) ?_) ?_
          · exact ed_tup (ea_cons (ed_var rfl) (ea_cons (ed_var rfl) ea_nil)) (len_ok rfl)
          · have hb' : merge r.2 (ed m U[i]) = r.2 ∨ one (grown r.2 ((U.drop (i + 1)).map (ed m))) = true := by
              rcases Bool.or_eq_true _ _ |>.mp hb with z | z
              · exact .inl (of_decide_eq_true z)
              · exact .inr z
            show _ = ([_, _, _, _, .own ((a ++ ((if _ then _ else _ : List (List Tie × List Nat)) ++ (if _ then _ else _ : List (List Tie × List Nat)))).map rowD), _, _, _, _, _] : DD.Env)
            rw [if_pos hb', ← List.append_assoc, List.map_append (l₂ := [r])]
            rfl
        · refine rn_is rn_next ?_
          have hb' : ¬ (merge r.2 (ed m U[i]) = r.2 ∨ one (grown r.2 ((U.drop (i + 1)).map (ed m))) = true) := by
            intro z
            rw [Bool.or_eq_false_iff] at hb
            rcases z with z | z
            · exact of_decide_eq_false hb.1 z
            · rw [hb.2] at z
              cases z
          show _ = ([_, _, _, _, .own ((a ++ ((if _ then _ else _ : List (List Tie × List Nat)) ++ (if _ then _ else _ : List (List Tie × List Nat)))).map rowD), _, _, _, _, _] : DD.Env)
          rw [if_neg hb', List.append_nil]
      · rw [fold_flat, List.nil_append]
        refine rn_freeze (j := 4) rfl (rn_is (rn_lose 5 (rn_lose 4 (rn_lose 3 (rn_lose 2 (rn_asg (d := .list ((fP m U s (U[i], i)).map rowD)) (ed_var rfl)))))) rfl)
    · rw [show U.zipIdx.foldl (fP m U) [([], List.range (m + n))] = runP m [([], List.range (m + n))] U from fold_runP m U [] U _ rfl]
      have ht := runP_trees m U [] (List.range (m + n)) hw.len0 hw.eds' hw.grown
      have hl := congrArg List.length ht
      rw [List.length_map, show (trees m (List.range (m + n)) [] U).length = count m n U from treesW_len] at hl
      have hq : (runP m [([], List.range (m + n))] U).map (fun r => tiesD r.1) = (treesW m n U).map tiesD := by
        rw [show treesW m n U = _ from ht.symm, List.map_map]
        rfl
      refine rl_ret (el_is (el_cb (ea_cons (EL.ed (el_is (el_lcE rowD (fun r => tiesD r.1) (runP m [([], List.range (m + n))] U) (src_list (ed_var rfl)) (by omega) (fun r _ => ?_)) hq)) ea_nil) (rc_sortQ (.inl rfl) (all_alikeT _) (sortableT fun x hx z => ?_) ?_ (depT _))) (map_srtT _))
      · walk_at "ed"
      · have := (treesW_mem hw.toWebU x hx).2.1
        rw [z] at this
        have := hw.hm
        have := hw.hn
        simp only [List.length_nil] at *
        omega
      · rw [List.length_map, treesW_len]
        omega
  · refine raise_out ?_ H0 H _ _ H ⟨H0, startE_ok hs ha⟩ fun H1 H1' g => ?_
    · walk_at "ed"
      · exact ⟨m, n, U, hw, b1, b2, rfl, rfl⟩
      · exact decide_eq_true (by omega)
    · exact hk H1 H1' g
end
end K4P
end

section
set_option Elab.async false
set_option linter.all false
set_option maxRecDepth 100000
set_option maxHeartbeats 4000000
namespace K4P
open PySem PySem.Spec L2 RZ DD K4
open PyProof.Rows (firstMet)
local macro_rules | `(tactic| walk_at "ed") => `(tactic| (repeat' (first
  | (with_reducible (first | exact ed_int | exact ed_bl | exact ed_str | exact ed_non | exact ea_nil | exact et_yes _ | apply ea_cons | apply ed_tup | apply r2_B | apply r2_eqIb | apply r2_neIb | exact r2_I0 (fun _ => Dq.int _) | exact rc_abs | exact rc_intI | exact rc_intB | exact rc_min | exact rc_max | exact r2_isN | apply ed_isi | apply ed_andT | apply ed_andV | apply ed_notV | apply ed_notF | apply ed_op | apply ed_un | apply et_val | apply et_test | apply et_not | apply et_notF | apply et_notT | apply ed_call | apply ed_cb | apply ed_chainT | apply et_orF | apply et_andT))
  | ((with_reducible apply ed_var); exact rfl) | ((with_reducible apply len_ok); exact rfl) | ((with_reducible apply kits); exact rfl) | exact (rfl : decide _ = _) | exact (rfl : (_ == _) = _) | exact nI_beq _ _
  | ((with_reducible apply r2_ixTu); exact r2_ixT rfl) | ((with_reducible apply r2_ixLu); exact r2_ixL rfl) | ((with_reducible apply rc_u); first | exact rc_len (.inr rfl) | exact rc_len (.inl rfl)))))
section
variable {P : Program} {w : World} {K : PySem.W.Frag} {mg : Str → Option Value} {base : Heap} (T : Tx K mg)
def R_table_in (ds : List PyData) (M : DD.Mx) : Prop := ∃ m n U, Web m n U ∧ m + n ≤ 24 ∧ U.length ≤ 60 ∧ ds = [webD m n U] ∧ M = Mf (m + n - 1) (red (m + n) (U.map (ed m)))
theorem take_fresh {U : List Tie} (h : U.Nodup) {i : Nat} (hi : i < U.length) : U[i] ∉ U.take i := fun z => by
  obtain ⟨j, hj, e⟩ := List.mem_iff_getElem.mp z
  rw [List.length_take] at hj
  rw [List.getElem_take] at e
  exact List.pairwise_iff_getElem.mp h j i (by omega) hi (by omega) e
theorem cut_Mf {N : Nat} (f : Fn) (h : 0 < N) : ((Mf N f).drop 1).map (fun r => r.drop 1) = Mf (N - 1) (fun i j => f (i + 1) (j + 1)) := by
  obtain ⟨k, rfl⟩ : ∃ k, N = k + 1 := ⟨N - 1, by omega⟩
  unfold Mf
  rw [List.range_succ_eq_map, List.map_cons, List.drop_one, List.tail_cons, List.map_map, List.map_map, Nat.add_sub_cancel]
  refine List.map_congr_left fun i _ => ?_
  show List.drop 1 (List.map (f (i + 1)) (0 :: (List.range k).map Nat.succ)) = _
  rw [List.map_cons, List.drop_one, List.tail_cons, List.map_map]
  rfl
theorem ok_table_in : FnOk P w K mg base CX0 1 T.f_table_in T.d_table_in ["web"] (PureM R_table_in) := by
  refine T.F_table_in.ok sc_table_in (pureM_len (n := 1) fun ds d ⟨_, _, _, _, _, _, e, _⟩ => by rw [e]; rfl) (fun cdv A outer s H vs Q E hr h => ⟨_, PSs.nox (pss_cons (ps_set (i := 1) sc_table_in.nd rfl (by first | exact Or.inl rfl | exact Or.inr rfl) (pe_op op_add (pe_ix (show IxR _ (rIxT K) from ix_tup) (pv 0) pe_int (fun _ _ => rfl)) (pe_ix (show IxR _ (rIxT K) from ix_tup) (pv 0) pe_int (fun _ _ => rfl)))) (pss_cons (ps_setLc (i := 2) (own := [("place", 6)]) rfl sc_table_in.nd rfl rfl (sw_true rfl rfl rfl (by decide +kernel)) (pi_range1 (by rfl) T.n_range (pa_cons (pv 1) pa_nil)) (blkOk_by (own := [("place", 6)]) (N := ["web", "size", "rows", "hand", "task", "far", "place", "row"]) (sc := defScope s_table_in) (by decide +kernel)) (fun _ _ _ _ _ => pg_name (i := 6) sc_table_in.nd rfl (by first | exact Or.inl rfl | exact Or.inr rfl)) (fun _ _ _ _ _ => pts_nil) (fun _ _ _ _ _ => (pe_op op_rep (pe_lst (pa_cons pe_int pa_nil)) (pv 1)))) (pss_cons (ps_for PassesOwn.never rfl (show PI _ _ _ (iTup K _) from pi_tup (pe_ix (show IxR _ (rIxT K) from ix_tup) (pv 0) pe_int (fun _ _ => rfl))) (show PG _ _ (gTup K _ _) from pg_tup rfl (pgs_cons (pg_name (i := 3) sc_table_in.nd rfl (by first | exact Or.inl rfl | exact Or.inr rfl)) (pgs_cons (pg_name (i := 4) sc_table_in.nd rfl (by first | exact Or.inl rfl | exact Or.inr rfl)) pgs_nil))) (pss_cons (ps_set (i := 5) sc_table_in.nd rfl (by first | exact Or.inl rfl | exact Or.inr rfl) (pe_op op_add (pe_ix (show IxR _ (rIxT K) from ix_tup) (pv 0) pe_int (fun _ _ => rfl)) (pv 4))) (pss_cons (ps_asg (pe_op op_add (pe_ix (show IxR _ (rIxL K) from ix_list) (pe_ix (show IxR _ (rIxL K) from ix_list) (pv 2) (pv 3) (fun _ _ => rfl)) (pv 3) (fun _ _ => rfl)) pe_int) (pg_sub (pe_ix (show IxR _ (rIxL K) from ix_list) (pv 2) (pv 3) (fun _ _ => rfl)) (pv 3) set_list)) (pss_cons (ps_asg (pe_op op_add (pe_ix (show IxR _ (rIxL K) from ix_list) (pe_ix (show IxR _ (rIxL K) from ix_list) (pv 2) (pv 5) (fun _ _ => rfl)) (pv 5) (fun _ _ => rfl)) pe_int) (pg_sub (pe_ix (show IxR _ (rIxL K) from ix_list) (pv 2) (pv 5) (fun _ _ => rfl)) (pv 5) set_list)) (pss_cons (ps_asg (pe_un un_neg pe_int) (pg_sub (pe_ix (show IxR _ (rIxL K) from ix_list) (pv 2) (pv 3) (fun _ _ => rfl)) (pv 5) set_list)) (pss_one (ps_asg (pe_un un_neg pe_int) (pg_sub (pe_ix (show IxR _ (rIxL K) from ix_list) (pv 2) (pv 5) (fun _ _ => rfl)) (pv 3) set_list)))))))) (pss_one (ps_ret (pe_lc (own := [("row", 7)]) rfl sc_table_in.nd (show PI _ _ _ (iList K _) from pi_list (pe_slice (show SlR _ (rSlL K) from sl_list) (pv 2) (po_some pe_int) po_none)) (blkOk_by (own := [("row", 7)]) (N := ["web", "size", "rows", "hand", "task", "far", "place", "row"]) (sc := defScope s_table_in) (by decide +kernel)) (fun _ _ _ _ _ => pg_name (i := 7) sc_table_in.nd rfl (by first | exact Or.inl rfl | exact Or.inr rfl)) (fun _ _ _ _ _ => pts_nil) (fun _ _ _ _ _ => (pe_slice (show SlR _ (rSlL K) from sl_list) (pv 7) (po_some pe_int) po_none)))))))), ?_⟩)
  obtain ⟨H0, ds, M, hs, ha, ⟨m, n, U, hw, b1, b2, rfl, rfl⟩, hk⟩ := h
  have e1 : ((m : Int) + n) = ((m + n : Nat) : Int) := (Int.natCast_add ..).symm
  have hnd := asc_nodup hw.asc
  refine rn_then (ρ' := [.dat (webD m n U), .dat (nI (m + n)), .no, .no, .no, .no, .no, .no]) (rn_is (rn_asg (d := nI (m + n)) ?_) rfl) ⟨H0, startE_ok hs ha⟩ fun σ1 H1 o1 => ?_
  · refine ed_op ?_ ?_ (r2_N e1)
    · walk_at "ed"
    · walk_at "ed"
  refine mok_then (jm := 2) (M := Mf (m + n) (lapF m (m + n) [])) (em_lcE nI (fun _ => (List.range (m + n)).map fun _ => (0 : Int)) (List.range (m + n)) (src_rngN (k := ((m + n : Nat) : Int)) (ea_cons (ed_var rfl) ea_nil) (Int.toNat_natCast _) (by omega)) (by rw [List.length_range]; omega) fun a ha => ?_) (by show (2 : Nat) < 8; decide) o1 fun σ2 H2 o2 => ?_
  · refine el_is (el_op (EL.ed (el_lst (ea_cons ed_int ea_nil) (len_ok rfl))) (ed_var rfl) (r2_rep (k := ((m + n : Nat) : Int)) (ds := [.int 0]) (by omega) (by rw [Int.toNat_natCast]; show 1 * _ ≤ _; omega))) ?_
    rw [Int.toNat_natCast, List.map_map]
    refine List.ext_getElem? fun i => ?_
    rw [show (List.replicate (m + n) [PyData.int 0]).flatten = List.replicate (m + n) (PyData.int 0) from List.flatten_replicate_singleton]
    rw [List.getElem?_map, List.getElem?_replicate]
    by_cases hi : i < m + n
    · rw [if_pos hi, List.getElem?_range hi]
      rfl
    · rw [if_neg hi, List.getElem?_eq_none (by rw [List.length_range]; omega)]
      rfl
  refine rm_then (rm_for (js := []) (fun _ => [.dat (webD m n U), .dat (nI (m + n)), .no, .no, .no, .no, .no, .no]) (fun i => Mf (m + n) (lapF m (m + n) (U.take i))) (ds := U.map tieD) (src_tup ?_) fun i d hd => ?_) o2 fun σ3 H3 ⟨Hb, p, qs, m3⟩ => ?_
  · walk_at "ed"
  · rw [List.getElem?_map] at hd
    obtain ⟨t, ht, rfl⟩ := Option.map_eq_some_iff.mp hd
    obtain ⟨hi, ht⟩ := List.getElem?_eq_some_iff.mp ht
    have hx := hw.rng t (ht ▸ List.getElem_mem hi)
    have hU : ∀ u ∈ U.take i, u.1 < m ∧ m + u.2 < m + n := fun u hu => by
      have := hw.rng u (List.mem_of_mem_take hu)
      omega
    have hf : t ∉ U.take i := ht ▸ take_fresh hnd hi
    have e2 : ((m : Int) + t.2) = ((m + t.2 : Nat) : Int) := (Int.natCast_add ..).symm
    have ht1 : t.1 < m + n := by omega
    have ht2 : m + t.2 < m + n := by omega
    let ρ' : DD.Env := [.dat (webD m n U), .dat (nI (m + n)), .no, .dat (nI t.1), .dat (nI t.2), .dat (nI (m + t.2)), .no, .no]
    let f0 := lapF m (m + n) (U.take i)
    let f1 := upd2 f0 t.1 t.1 (f0 t.1 t.1 + 1)
    let f2 := upd2 f1 (m + t.2) (m + t.2) (f1 (m + t.2) (m + t.2) + 1)
    let f3 := upd2 f2 t.1 (m + t.2) (-1)
    have hfin : Mf (m + n) (upd2 f3 (m + t.2) t.1 (-1)) = Mf (m + n) (lapF m (m + n) (U.take (i + 1))) := by
      rw [List.take_add_one, List.getElem?_eq_getElem hi, ht]
      exact Mf_congr fun a _ b _ => lap_step hx.1 hU hf ht2 a b
    refine ⟨[(3, nI t.1), (4, nI t.2)], tgt_two, fun u hu => ?_, rm_is (rm_lose 5 (rm_lose 4 (rm_lose 3 (rm_seq (ρ' := ρ') (rm_is (rm_asg (i := 5) (d := nI (m + t.2)) ?_ (by decide) fun z hz => nomatch hz) rfl rfl rfl) (rm_seq (rm_setF (f := f0) (i := t.1) (j := t.1) (k := f0 t.1 t.1 + 1) ?_ ?_ ?_ ht1 ht1) (rm_seq (rm_setF (f := f1) (i := m + t.2) (j := m + t.2) (k := f1 (m + t.2) (m + t.2) + 1) ?_ ?_ ?_ ht2 ht2) (rm_seq (rm_setF (f := f2) (i := t.1) (j := m + t.2) (k := -1) ?_ ?_ ?_ ht1 ht2) (rm_setF (f := f3) (i := m + t.2) (j := t.1) (k := -1) ?_ ?_ ?_ ht2 ht1)))))))) rfl rfl hfin⟩
    · rcases List.mem_cons.mp hu with rfl | hu
      · exact ⟨show 3 ≠ 2 by decide, fun z hz => nomatch hz⟩
      · rw [List.mem_singleton.mp hu]
        exact ⟨show 4 ≠ 2 by decide, fun z hz => nomatch hz⟩
    · refine ed_op ?_ ?_ (r2_N e2)
      · walk_at "ed"
      · walk_at "ed"
    · exact ei_op (ei_ixF (er_ixF (ei_var rfl) ht1) (ei_var rfl) ht1 ht1) ei_int
    · exact er_ixF (ei_var rfl) ht1
    · exact ei_var rfl
    · exact ei_op (ei_ixF (er_ixF (ei_var rfl) ht2) (ei_var rfl) ht2 ht2) ei_int
    · exact er_ixF (ei_var rfl) ht2
    · exact ei_var rfl
    · exact ei_neg ei_int
    · exact er_ixF (ei_var rfl) ht1
    · exact ei_var rfl
    · exact ei_neg ei_int
    · exact er_ixF (ei_var rfl) ht2
    · exact ei_var rfl
  · rw [List.length_map, List.take_length] at m3
    have o4 := m3.freeze (fun i ds e => by
      match i, e with
      | 0, e => cases e
      | 1, e => cases e
      | 2, e => cases e
      | 3, e => cases e
      | 4, e => cases e
      | 5, e => cases e
      | 6, e => cases e
      | 7, e => cases e
      | _ + 8, e => cases e)
    have hcut := cut_Mf (lapF m (m + n) U) hw.pos
    refine em_ret (M := Mf (m + n - 1) (red (m + n) (U.map (ed m)))) ?_ o4 hk
    rw [show Mf (m + n - 1) (red (m + n) (U.map (ed m))) = _ from hcut.symm]
    refine em_lcE (fun r : List Int => .list (r.map .int)) (fun r => r.drop 1) ((Mf (m + n) (lapF m (m + n) U)).drop 1) (src_list (EL.ed (el_is (el_slL (lo := some ((1 : Nat) : Int)) (ed_var rfl) (eo_some ed_int) eo_none) ?_))) ?_ fun r hr => ?_
    · rw [cut_from, List.map_drop]
    · rw [List.length_drop, Mf_len]
      omega
    · refine el_is (el_slL (lo := some ((1 : Nat) : Int)) (ds := r.map .int) (ed_var rfl) (eo_some ed_int) eo_none) ?_
      rw [cut_from, List.map_drop]
theorem redW_of {m n : Nat} {U : List Tie} (hw : Web m n U) (b1 : m + n ≤ 24) (b2 : U.length ≤ 60) : RedW (m + n - 1) (red (m + n) (U.map (ed m))) where
  n1 := by have := hw.hm; have := hw.hn; omega
  n24 := by omega
  abs := fun i _ j _ => Nat.le_trans (lap_abs _ _ _ _) (by rw [List.length_map]; exact b2)
  pv := fun k hk => by
    have e : m + n - 1 + 1 = m + n := by have := hw.pos; omega
    have := web_pv (m + n - 1) (U.map (ed m)) (by rw [e]; exact hw.eds) (by rw [e]; exact hw.conn) k hk
    rw [e] at this
    exact this
theorem ok_many_in (G_table_in : FnOk P w K mg base CX0 1 T.f_table_in T.d_table_in ["web"] (PureM R_table_in)) : FnOk P w K mg base CX0 2 T.f_many_in T.d_many_in ["web"] (Pure R_many_in) := by
  refine T.F_many_in.ok sc_many_in (pure_len (n := 1) fun ds d ⟨_, _, _, _, _, _, e, _⟩ => by rw [e]; rfl) (fun cdv A outer s H vs Q E hr h => ⟨_, PSs.nox (pss_cons (ps_par (i := 1) (j := 2) rfl sc_many_in.nd rfl rfl (by decide) rfl rfl (pa_cons (pe_call G_table_in (hr.mono (by decide)) (by rfl) T.g_table_in T.F_table_in.kp T.b_table_in .nil pass0 (pa_cons (pv 0) pa_nil)) (pa_cons pe_int pa_nil)) rfl) (pss_cons (ps_for PassesOwn.never rfl (pi_range1 (by rfl) T.n_range (pa_cons (pe_op op_sub (pe_callB (call_lenK (K := K) rfl) (by rfl) T.n_len (by decide +kernel) (pa_cons (pv 1) pa_nil)) pe_int) pa_nil)) (pg_name (i := 3) sc_many_in.nd rfl (by first | exact Or.inl rfl | exact Or.inr rfl)) (pss_cons (ps_set (i := 4) sc_many_in.nd rfl (by first | exact Or.inl rfl | exact Or.inr rfl) (pe_ix (show IxR _ (rIxL K) from ix_list) (pv 1) (pv 3) (fun _ _ => rfl))) (pss_cons (ps_for PassesOwn.never rfl (pi_range2 (by rfl) T.n_range (pa_cons (pe_op op_add (pv 3) pe_int) (pa_cons (pe_callB (call_lenK (K := K) rfl) (by rfl) T.n_len (by decide +kernel) (pa_cons (pv 1) pa_nil)) pa_nil))) (pg_name (i := 5) sc_many_in.nd rfl (by first | exact Or.inl rfl | exact Or.inr rfl)) (pss_cons (ps_set (i := 6) sc_many_in.nd rfl (by first | exact Or.inl rfl | exact Or.inr rfl) (pe_ix (show IxR _ (rIxL K) from ix_list) (pv 1) (pv 5) (fun _ _ => rfl))) (pss_one (ps_for PassesOwn.never rfl (pi_range2 (by rfl) T.n_range (pa_cons (pe_op op_add (pv 3) pe_int) (pa_cons (pe_callB (call_lenK (K := K) rfl) (by rfl) T.n_len (by decide +kernel) (pa_cons (pv 1) pa_nil)) pa_nil))) (pg_name (i := 7) sc_many_in.nd rfl (by first | exact Or.inl rfl | exact Or.inr rfl)) (pss_one (ps_asg (pe_op op_fdivW (pe_op op_sub (pe_op op_mulW (pe_ix (show IxR _ (rIxL K) from ix_list) (pv 6) (pv 7) (fun _ _ => rfl)) (pe_ix (show IxR _ (rIxL K) from ix_list) (pv 4) (pv 3) (fun _ _ => rfl))) (pe_op op_mulW (pe_ix (show IxR _ (rIxL K) from ix_list) (pv 6) (pv 3) (fun _ _ => rfl)) (pe_ix (show IxR _ (rIxL K) from ix_list) (pv 4) (pv 7) (fun _ _ => rfl)))) (pv 2)) (pg_sub (pv 6) (pv 7) set_list))))))) (pss_one (ps_set (i := 2) sc_many_in.nd rfl (by first | exact Or.inl rfl | exact Or.inr rfl) (pe_ix (show IxR _ (rIxL K) from ix_list) (pv 4) (pv 3) (fun _ _ => rfl))))))) (pss_one (ps_ret (pe_ix (show IxR _ (rIxL K) from ix_list) (pe_ix (show IxR _ (rIxL K) from ix_list) (pv 1) (pe_un un_neg pe_int) (fun _ _ => rfl)) (pe_un un_neg pe_int) (fun _ _ => rfl)))))), ?_⟩)
  obtain ⟨H0, ds, d, hs, ha, ⟨m, n, U, hw, b1, b2, rfl, rfl⟩, hk⟩ := h
  have W := redW_of hw b1 b2
  have hN : ∃ N, m + n - 1 = N + 1 := ⟨m + n - 2, by have := hw.hm; have := hw.hn; omega⟩
  obtain ⟨N, hN⟩ := hN
  have hN1 : N + 1 + 1 = m + n := by have := hw.hm; have := hw.hn; omega
  generalize hA : red (m + n) (U.map (ed m)) = A at *
  rw [hN] at W
  have hlast : BB (N + 1) A N N N = (count m n U : Int) := by
    rw [BB_diag]
    have := web_det (N + 1) (U.map (ed m)) (by rw [hN1]; exact hw.eds)
    rw [hN1, hA] at this
    exact this
  refine mokpar_then (jm := 1) (i := 2) (M := Mf (N + 1) (FB (N + 1) A 0)) (c := 1) (em_call (R := R_table_in) (ea_cons (ed_var rfl) ea_nil) ⟨m, n, U, hw, b1, b2, rfl, ?_⟩) (by show (1 : Nat) < 8; decide) (by decide) ⟨H0, startE_ok hs ha⟩ fun σ1 H1 o1 => ?_
  · rw [hN, hA]
    refine Mf_congr fun i hi j hj => ?_
    unfold FB
    rw [Nat.zero_min, BB_zero _ _ _ _ hj]
  let ρ0 : Nat → DD.Env := fun k => [.dat (webD m n U), .no, .dat (.int (pv' (N + 1) A k)), .no, .no, .no, .no, .no]
  refine rm_then (Hi0 := H0) (Hi := H) (rm_for1 (jm := 1) (s := 3) (js := []) (n := N) (e := ((N + 1 : Nat) : Int) - 1) ρ0 (fun k => Mf (N + 1) (FB (N + 1) A k)) ?_ (by omega) (by have := W.n24; omega) (by decide) (fun z hz => nomatch hz) fun k hk => ?_) ?_ fun σ2 H2 o2 => ?_
  · refine ei_op (a := ((N + 1 : Nat) : Int)) ?_ ei_int
    have := ei_len (ρ := ρ0 0) (jm := 1) (js := []) (M := Mf (N + 1) (FB (N + 1) A 0)) (K := K)
    rw [Mf_len] at this
    exact this
  · have ek : (0 : Int) + ((k : Nat) : Int) = (k : Int) := Int.zero_add _
    rw [ek]
    have hkn : k < N + 1 := by omega
    let ρ1 : DD.Env := [.dat (webD m n U), .no, .dat (.int (pv' (N + 1) A k)), .dat (nI k), .no, .no, .no, .no]
    refine rm_is (rm_lose 4 (rm_lose 3 (rm_seq (ρ' := ρ1) (js' := [(4, k)]) (rm_is (rm_row (s := 4) (i := k) (er_ixF (ei_var rfl) hkn) (by rw [Mf_len]; exact hkn) (by decide) (by show 4 < 8; decide) fun z hz => .inl (List.mem_singleton.mp hz)) rfl rfl rfl) (rm_seq (ρ' := ρ1) (js' := [(4, k)]) (M' := Mf (N + 1) (FB (N + 1) A (k + 1))) ?_ (rm_drop (js' := [(4, k)]) (js'' := []) (rm_int (k := pv' (N + 1) A (k + 1)) ?_ (by decide) fun z hz => ?_) fun z hz => nomatch hz))))) rfl rfl rfl
    · have hend : Mf (N + 1) (SB (N + 1) A k (k + 1 + (N - k)) 0) = Mf (N + 1) (FB (N + 1) A (k + 1)) := by
        rw [show k + 1 + (N - k) = N + 1 by omega]
        exact Mf_congr fun a ha b _ => SB_end a b ha
      have hsta : Mf (N + 1) (FB (N + 1) A k) = Mf (N + 1) (SB (N + 1) A k (k + 1 + 0) 0) := Mf_congr fun a _ b _ => (SB_start a b).symm
      rw [hsta]
      refine rm_is (rm_for2 (jm := 1) (s := 5) (js := [(4, k)]) (n := N - k) (a := (k : Int) + 1) (e := ((N + 1 : Nat) : Int)) (fun _ => ρ1) (fun r => Mf (N + 1) (SB (N + 1) A k (k + 1 + r) 0)) ?_ ?_ (by omega) (by have := W.n24; omega) (by decide) (fun z hz => ?_) fun r hr => ?_) rfl rfl hend
      · exact ei_op (a := (k : Int)) (b := 1) (ei_var rfl) ei_int
      · have := ei_len (ρ := ρ1) (jm := 1) (js := [(4, k)]) (M := Mf (N + 1) (SB (N + 1) A k (k + 1 + 0) 0)) (K := K)
        rw [Mf_len] at this
        exact this
      · rw [List.mem_singleton.mp hz]
        show 4 ≠ 5
        decide
      · have eR : (k : Int) + 1 + ((r : Nat) : Int) = ((k + 1 + r : Nat) : Int) := by omega
        rw [eR]
        have hkR : k < k + 1 + r := by omega
        have hRn : k + 1 + r < N + 1 := by omega
        generalize hRe : k + 1 + r = R at *
        let ρ2 : DD.Env := [.dat (webD m n U), .no, .dat (.int (pv' (N + 1) A k)), .dat (nI k), .no, .dat (nI R), .no, .no]
        have hrow : Mf (N + 1) (SB (N + 1) A k R 0) = Mf (N + 1) (SB (N + 1) A k R (k + 1 + 0)) := Mf_congr fun a _ b _ => SB_row a b
        have hnext : Mf (N + 1) (SB (N + 1) A k R (k + 1 + (N - k))) = Mf (N + 1) (SB (N + 1) A k (k + 1 + (r + 1)) 0) := by
          rw [show k + 1 + (N - k) = N + 1 by omega, show k + 1 + (r + 1) = R + 1 by omega]
          exact Mf_congr fun a _ b hb => SB_next a b hb
        refine rm_is (rm_lose 5 (rm_drop (js' := [(6, R), (4, k)]) (rm_seq (ρ' := ρ2) (js' := [(6, R), (4, k)]) (M' := Mf (N + 1) (SB (N + 1) A k R (k + 1 + 0))) (rm_is (rm_row (s := 6) (i := R) (er_ixF (ei_var rfl) hRn) (by rw [Mf_len]; exact hRn) (by decide) (by show 6 < 8; decide) fun z hz => ?_) rfl rfl hrow) (rm_lose 7 (rm_for2 (jm := 1) (s := 7) (js := [(6, R), (4, k)]) (n := N - k) (a := (k : Int) + 1) (e := ((N + 1 : Nat) : Int)) (fun _ => ρ2) (fun c => Mf (N + 1) (SB (N + 1) A k R (k + 1 + c))) ?_ ?_ (by omega) (by have := W.n24; omega) (by decide) (fun z hz => ?_) fun c hc => ?_))) fun z hz => ?_)) rfl rfl hnext
        · rcases List.mem_cons.mp hz with rfl | hz
          · exact .inl rfl
          · exact .inr ⟨hz, by rw [List.mem_singleton.mp hz]; show 4 ≠ 6; decide⟩
        · exact ei_op (a := (k : Int)) (b := 1) (ei_var rfl) ei_int
        · have := ei_len (ρ := ρ2) (jm := 1) (js := [(6, R), (4, k)]) (M := Mf (N + 1) (SB (N + 1) A k R (k + 1 + 0))) (K := K)
          rw [Mf_len] at this
          exact this
        · rcases List.mem_cons.mp hz with rfl | hz
          · show 6 ≠ 7
            decide
          · rw [List.mem_singleton.mp hz]
            show 4 ≠ 7
            decide
        · have eC : (k : Int) + 1 + ((c : Nat) : Int) = ((k + 1 + c : Nat) : Int) := by omega
          rw [eC, show k + 1 + (c + 1) = k + 1 + c + 1 by omega]
          have hkC : k < k + 1 + c := by omega
          have hCn : k + 1 + c < N + 1 := by omega
          generalize k + 1 + c = C at *
          have hfinal : Mf (N + 1) (upd2 (SB (N + 1) A k R C) R C (BB (N + 1) A (k + 1) R C)) = Mf (N + 1) (SB (N + 1) A k R (C + 1)) := Mf_congr fun a _ b _ => SB_set hkR hkC _ rfl a b
          refine rm_is (rm_lose 7 (rm_setF (f := SB (N + 1) A k R C) (i := R) (j := C) (k := BB (N + 1) A (k + 1) R C) ?_ (er_slot (List.mem_cons_self ..)) (ei_var rfl) hRn hCn)) rfl rfl hfinal
          rw [← W.step hkR hkC hRn hCn, ← SB_own hkR hkC, ← SB_left (C := C) hkR hkC, ← SB_first (C := C) (b := k) hkR (Nat.le_refl k), ← SB_first (C := C) (b := C) hkR (Nat.le_of_lt hkC)]
          refine ei_opC (ei_op (ei_opC (ei_ixF (er_slot (List.mem_cons_self ..)) (ei_var rfl) hRn hCn) (ei_ixF (er_slot (List.mem_cons_of_mem _ (List.mem_cons_self ..))) (ei_var rfl) hkn hkn) ?_) (ei_opC (ei_ixF (er_slot (List.mem_cons_self ..)) (ei_var rfl) hRn hkn) (ei_ixF (er_slot (List.mem_cons_of_mem _ (List.mem_cons_self ..))) (ei_var rfl) hkn hCn) ?_)) (ei_var rfl) ?_
          · rw [SB_own hkR hkC, SB_first hkR (Nat.le_refl k)]
            exact wide_mul (W.bb hRn) (W.bb hkn) (by decide) (by decide) (by decide)
          · rw [SB_left hkR hkC, SB_first hkR (Nat.le_of_lt hkC)]
            exact wide_mul (W.bb hRn) (W.bb hkn) (by decide) (by decide) (by decide)
          · exact wide_div (W.pv k (by omega)) (W.pvlt (by omega)) (by decide) (by decide)
        · exact List.mem_cons_of_mem _ hz
    · have := ei_ixF (K := K) (ρ := ρ1) (jm := 1) (js := [(4, k)]) (N := N + 1) (f := FB (N + 1) A (k + 1)) (i := k) (j := k) (ta := tVar 4) (tb := tVar 3) (er_slot (List.mem_cons_self ..)) (ei_var rfl) hkn hkn
      rw [show FB (N + 1) A (k + 1) k k = pv' (N + 1) A (k + 1) by unfold FB; rw [show min (k + 1) (min k k) = k by omega, BB_diag]] at this
      exact this
    · rw [List.mem_singleton.mp hz]
      show 4 ≠ 2
      decide
  · rw [show ρ0 0 = [.dat (webD m n U), .no, .dat (.int 1), .no, .no, .no, .no, .no] by show [_, _, Sl.dat (.int (pv' (N + 1) A 0)), _, _, _, _, _] = _; rw [pv_zero]]
    exact o1
  · have hget : FB (N + 1) A N N N = (count m n U : Int) := by
      unfold FB
      rw [show min N (min N N) = N by omega]
      exact hlast
    refine rmr_ret (k := (count m n U : Int)) ?_ H0 H _ σ2 H2 o2 hk
    refine ei_ix (i := N) (j := -1) (r := (List.range (N + 1)).map (FB (N + 1) A N N)) (er_ix (j := -1) (ei_neg ei_int) ?_) (ei_neg ei_int) (Mf_get _ (Nat.lt_succ_self N)) ?_
    · rw [Mf_len]
      unfold ixN
      rw [if_neg (by decide), if_pos (by omega)]
      exact congrArg some (by omega)
    · unfold atI ixN
      rw [List.length_map, List.length_range, if_neg (by decide), if_pos (by omega), show ((-1 : Int) + ((N + 1 : Nat) : Int)).toNat = N by omega]
      show ((List.range (N + 1)).map (FB (N + 1) A N N))[N]? = _
      rw [row_get _ (Nat.lt_succ_self N), hget]
end
end K4P
end

section
set_option Elab.async false
set_option linter.all false
set_option maxRecDepth 100000
set_option maxHeartbeats 4000000
namespace K4P
open PySem PySem.Spec L2 RZ DD K4
open PyProof.Rows (firstMet)
local macro_rules | `(tactic| walk_at "ed") => `(tactic| (repeat' (first
  | (with_reducible (first | exact ed_int | exact ed_bl | exact ed_str | exact ed_non | exact ea_nil | exact et_yes _ | apply ea_cons | apply ed_tup | apply r2_B | apply r2_eqIb | apply r2_neIb | exact r2_I0 (fun _ => Dq.int _) | exact rc_abs | exact rc_intI | exact rc_intB | exact rc_min | exact rc_max | exact r2_isN | apply ed_isi | apply ed_andT | apply ed_andV | apply ed_notV | apply ed_notF | apply ed_op | apply ed_un | apply et_val | apply et_test | apply et_not | apply et_notF | apply et_notT | apply ed_call | apply ed_cb | apply ed_chainT | apply et_orF | apply et_andT))
  | ((with_reducible apply ed_var); exact rfl) | ((with_reducible apply len_ok); exact rfl) | ((with_reducible apply kits); exact rfl) | exact (rfl : decide _ = _) | exact (rfl : (_ == _) = _) | exact nI_beq _ _
  | ((with_reducible apply r2_ixTu); exact r2_ixT rfl) | ((with_reducible apply r2_ixLu); exact r2_ixL rfl) | ((with_reducible apply rc_u); first | exact rc_len (.inr rfl) | exact rc_len (.inl rfl)))))
section
variable {P : Program} {w : World} {K : PySem.W.Frag} {mg : Str → Option Value} {base : Heap} (T : Tx K mg)
theorem exm_self {S : Addr} (h1 : PySem.W.subIn K (.ref S) (.type "BaseException") = some true) (h2 : PySem.W.isClsIn K S = true) (h3 : PySem.W.typeIn K (.ref S) = some (.type "type")) (h4 : PySem.W.subIn K (.ref S) (.ref S) = some true) :
    PySem.W.exmOne K (.ref S) (.ref S) = some true := by
  have e1 : (PySem.W.subIn K (.ref S) (.type "BaseException") == some true) = true := by rw [h1] <;> rfl
  have e2 : ((PySem.W.clsIn K S).isSome && PySem.W.typeIn K (.ref S) == some (.type "type")) = true := by
    have h2' : (PySem.W.clsIn K S).isSome = true := h2
    rw [h2', h3] <;> rfl
  show (if (PySem.W.subIn K (.ref S) (.type "BaseException") == some true) = true then (if ((PySem.W.clsIn K S).isSome && PySem.W.typeIn K (.ref S) == some (.type "type")) = true then PySem.W.subIn K (.ref S) (.ref S) else none) else none) = some true
  rw [if_pos e1, if_pos e2]
  exact h4
def R_many_trees (ds : List PyData) (d : PyData) : Prop := ∃ x m n U, Tp 3 x (webD m n U) ∧ Web m n U ∧ m + n ≤ 24 ∧ U.length ≤ 60 ∧ ds = [x] ∧ d = nI (count m n U)
theorem ok_many_trees (G_sure_web : FnOk P w K mg base CX0 6 T.f_sure_web T.d_sure_web ["web"] (Pure R_sure_web)) (G_many_in : FnOk P w K mg base CX0 2 T.f_many_in T.d_many_in ["web"] (Pure R_many_in)) : FnOk P w K mg base CX0 7 T.f_many_trees T.d_many_trees ["web"] (Pure R_many_trees) := by
  refine T.F_many_trees.ok sc_many_trees (pure_len (n := 1) fun ds d ⟨_, _, _, _, _, _, _, _, e, _⟩ => by rw [e]; rfl) (fun cdv A outer s H vs Q E hr h => ⟨_, PSs.nox (pss_one (ps_ret (pe_call G_many_in (hr.mono (by decide)) (by rfl) T.g_many_in T.F_many_in.kp T.b_many_in .nil pass0 (pa_cons (pe_call G_sure_web (hr.mono (by decide)) (by rfl) T.g_sure_web T.F_sure_web.kp T.b_sure_web .nil pass0 (pa_cons (pv 0) pa_nil)) pa_nil)))), pure_run (fun ds d r => ?_) vs H Q E h⟩)
  obtain ⟨x, m, n, U, ht, hw, h1, h2, rfl, rfl⟩ := r
  refine rr_ret ?_
  walk_at "ed"
  · exact ⟨x, m, n, U, ht, hw, by omega, by omega, rfl, rfl⟩
  · exact ⟨m, n, U, hw, h1, h2, rfl, rfl⟩
def R_all_trees (ds : List PyData) (es : List PyData) : Prop := ∃ x m n U, Tp 3 x (webD m n U) ∧ Web m n U ∧ m + n ≤ 24 ∧ U.length ≤ 14 ∧ count m n U ≤ 2000 ∧ ds = [x] ∧ es = (srtT (treesW m n U)).map tiesD
def Z_all_trees (ds : List PyData) : Prop := ∃ x m n U, Tp 3 x (webD m n U) ∧ Web m n U ∧ m + n ≤ 24 ∧ U.length ≤ 60 ∧ 2000 < count m n U ∧ ds = [x]
theorem el_callS {ta : TA} {ρ : DD.Env} {ds es : List PyData} {c : Addr} {R : List PyData → List PyData → Prop} {Z : List PyData → Prop} {E : St → XK} (h : EA ta ρ ds) (hr : R ds es) : EL (tCallS (OrRaise c R Z) E ta) ρ es := fun σ H0 H s l q Q k => h σ H0 H s l q _ fun vs H1 H1' g q1 =>
  .inl ⟨H1, ds, es, g.sub, q1, hr, fun p ws H2 H2' g2 hp h0 h1 q2 => k p ws H2 H2' (g.trans g2) (g.big.free hp) h0 h1 q2⟩
theorem ret_raise {ta : TA} {ρ : DD.Env} {ds : List PyData} {c : Addr} {R : List PyData → List PyData → Prop} {Z : List PyData → Prop} {E : St → XK} {D : Ends} {σ : St} {H0 H : Hp} (h : EA ta ρ ds) (z : Z ds) (hs : Same H0 H) (hl : σ.length = ρ.length) (hd : DatE H0 σ ρ) (k : ∀ H1 H1', Grow H0 H H1 H1' → E σ (.ref c) none H1') : tRet (tCallS (OrRaise c R Z) E ta) D σ H :=
  h σ H0 H hs hl hd _ fun vs H1 H1' g q1 => .inr ⟨H1, ds, g.sub, q1, z, fun H2 H2' g2 => k H2 H2' (g.trans g2)⟩
theorem ok_all_trees (G_sure_web : FnOk P w K mg base CX0 6 T.f_sure_web T.d_sure_web ["web"] (Pure R_sure_web)) (G_all_in : FnOk P w K mg base (L2.CX P w) 3 T.f_all_in T.d_all_in ["web"] (OrRaise T.c_TooMany R_all_in Z_all_in)) : FnOk P w K mg base (L2.CX P w) 7 T.f_all_trees T.d_all_trees ["web"] (OrRaise T.c_TooMany R_all_trees Z_all_trees) := by
  refine T.F_all_trees.ok (CX := L2.CX P w) sc_all_trees (orR_len (n := 1) (fun ds es ⟨_, _, _, _, _, _, _, _, _, e, _⟩ => by rw [e]; rfl) fun ds ⟨_, _, _, _, _, _, _, _, _, e⟩ => by rw [e]; rfl) (fun cdv A outer s H vs Q E hr h => ⟨_, pss_one (ps_ret (pe_callS G_all_in (hr.mono (by decide)) (by rfl) T.g_all_in T.F_all_in.kp T.b_all_in (fun σ => passAt (takes_of rfl rfl rfl rfl) σ) (pa_cons (pe_call G_sure_web (hr.mono (by decide)) (by rfl) T.g_sure_web T.F_sure_web.kp T.b_sure_web .nil pass0 (pa_cons (pv 0) pa_nil)) pa_nil))), ?_⟩)
  rcases h with h | ⟨H0, ds, hs, ha, ⟨x, m, n, U, ht, hw, b1, b2, b3, rfl⟩, hk⟩
  · refine pureL_run (fun ds es r => ?_) vs H Q E h
    obtain ⟨x, m, n, U, ht, hw, b1, b2, b3, rfl, rfl⟩ := r
    refine rl_ret (el_callS (ds := [webD m n U]) ?_ ⟨m, n, U, hw, b1, b2, b3, rfl, rfl⟩)
    walk_at "ed"
    exact ⟨x, m, n, U, ht, hw, by omega, by omega, rfl, rfl⟩
  · have ea : EA (tCons (tCall (Pure R_sure_web) [] E0 (tCons (tVar 0) tNil)) tNil) (startE 1 [x]) [webD m n U] := by
      walk_at "ed"
      exact ⟨x, m, n, U, ht, hw, by omega, by omega, rfl, rfl⟩
    have o := startE_ok (N := ["web"]) hs ha
    exact ret_raise ea ⟨m, n, U, hw, b1, b2, b3, rfl⟩ hs o.len o.dat hk
def R_heard (ds : List PyData) (es : List PyData) : Prop := R_all_trees ds es ∨ (Z_all_trees ds ∧ es = [.str "too many", .bool true])
def tOnly (p : Prop) (t : TS) : TS := fun D σ H => p ∧ t D σ H
theorem pss_only {X : Cx} {st : List Stmt} {p : Prop} {t : TS} (h : p → PSs X st t) : PSs X st (tOnly p t) := ⟨fun pins s σ H D I hw => (h hw.1).run pins s σ H D I hw.2⟩
theorem ok_heard (G_all_trees : FnOk P w K mg base (L2.CX P w) 7 T.f_all_trees T.d_all_trees ["web"] (OrRaise T.c_TooMany R_all_trees Z_all_trees)) : FnOk P w K mg base CX0 8 T.f_l_heard T.d_l_heard ["_law_net_here"] (PureL R_heard) := by
  refine T.F_l_heard.ok sc_l_heard (pureL_len (n := 1) fun ds es h => ?_) (fun cdv A outer s H vs Q E hr h => ⟨_, pss_one (ps_try_as (i := 1) (tb := fun W => tRet (tCallS (OrRaise T.c_TooMany R_all_trees Z_all_trees) (WE W) (tCons (tVar 0) tNil))) (ts := fun a cls d => tOnly (cls = .ref T.c_TooMany ∧ d = none) (tRet (tLst (tCons (tC (.str "too many")) (tCons (tCB (rIsE K T.c_TooMany a) (tCons (tVar 1) (tCons (tC (.ty "ValueError")) tNil))) tNil)))))
    (Wout := fun _ _ _ _ => False) rfl rfl sc_l_heard.nd rfl rfl ⟨rfl, by decide, Or.inl T.g_TooMany⟩ L2.takes0
    (fun W pn xe tk _ => pss_one (ps_ret (by exact (pe_callS G_all_trees (hr.mono (by decide)) rfl T.g_all_trees T.F_all_trees.kp T.b_all_trees (fun σ => passAt tk σ) (by exact (pa_cons (pv 0) pa_nil))))))
    (fun a oe cls d pn hz hf => pss_only fun hp => by
      obtain ⟨rfl, rfl⟩ := hp
      exact pss_one (ps_ret (pe_lst (pa_cons pe_str (pa_cons (pe_callB (show CallR _ _ (rIsE K T.c_TooMany a) from call_isE T.eC hz hf) (by rfl) T.n_isinstance (by decide +kernel) (pa_cons (pv 1) (pa_cons (pe_bltn (v := .ty "ValueError") (by rfl) T.n_ValueError (by decide +kernel) rfl) pa_nil))) pa_nil)))))), ?_⟩)
  · rcases h with ⟨_, _, _, _, _, _, _, _, _, e, _⟩ | ⟨⟨_, _, _, _, _, _, _, _, _, e⟩, _⟩ <;> rw [e] <;> rfl
  · obtain ⟨H0, ds, es, hs, ha, r, hk⟩ := h
    have o := startE_ok (N := ["_law_net_here", "error"]) hs ha
    have hds : ∃ x, ds = [x] := by
      rcases r with ⟨x, _, _, _, _, _, _, _, _, e, _⟩ | ⟨⟨x, _, _, _, _, _, _, _, _, e⟩, _⟩ <;> exact ⟨x, e⟩
    obtain ⟨x, rfl⟩ := hds
    have ea : EA (tCons (tVar 0) tNil) (startE 2 [x]) [x] := by
      walk_at "ed"
    rcases r with r | ⟨z, rfl⟩
    · exact rl_ret (el_callS ea r) H0 H _ _ H ⟨H0, o⟩ fun p ws H1 H1' g hp h0 h1 q => hk p ws H1 H1' g hp h0 h1 q
    · refine ret_raise ea z hs o.len o.dat fun H2 H2' g2 => ?_
      refine ⟨true, exm_self T.bP T.iP T.tP T.sP, fun _ a ha' => ?_, fun q => Bool.noConfusion q⟩
      refine ⟨⟨rfl, rfl⟩, ?_⟩
      have hlen : (L2.start ["_law_net_here", "error"] vs).length = 2 := by rw [o.len]; rfl
      refine ⟨.ref a, List.getElem?_set_self (by rw [hlen]; decide), .ty "ValueError", .type "ValueError", true, rfl, fun u hu => hu, T.kE, ?_⟩
      refine ⟨by show 2 ≤ sizeLine; decide, fun p hp => ?_⟩
      exact hk p _ H2 _ (g2.trans (.big1 g2.sub hp)) (g2.big.free hp) (g2.sub.free hp) upd_same (.cons (.str _) (.cons (.bl true) .nil))
/-! lists of tuples -/
inductive Lp : Nat → PyData → PyData → Prop
  | int (k : Nat) (n : Int) : Lp k (.int n) (.int n)
  | tup (k : Nat) (xs : List (PyData × PyData)) (h : ∀ z ∈ xs, Lp k z.1 z.2) (hl : xs.length ≤ 1000) : Lp (k + 1) (.tuple (xs.map (·.1))) (.list (xs.map (·.2)))
def R_lists : Nat → List PyData → PyData → Prop
  | 0 => fun _ _ => False
  | k + 1 => fun ds d => ∃ x, ds = [x] ∧ Lp k x d
theorem ok_lists1 {k : Nat} (G_l_lists : FnOk P w K mg base CX0 k T.f_l_lists T.d_l_lists ["_law_matter"] (Pure (R_lists k))) : FnOk P w K mg base CX0 (k + 1) T.f_l_lists T.d_l_lists ["_law_matter"] (Pure (R_lists (k + 1))) := by
  refine T.F_l_lists.ok sc_l_lists (pure_len (n := 1) fun ds d ⟨_, e, _⟩ => by rw [e]; rfl) (fun cdv A outer s H vs Q E hr h => ⟨_, PSs.nox (pss_one (ps_ret (pe_ifExp (pt_val (pe_callB (show CallR _ _ (rIsiT K) from call_isiT) (by rfl) T.n_isinstance (by decide +kernel) (pa_cons (pv 0) (pa_cons (pe_tup (pa_cons (pe_bltn (v := .ty "list") (by rfl) T.n_list (by decide +kernel) rfl) (pa_cons (pe_bltn (v := .ty "tuple") (by rfl) T.n_tuple (by decide +kernel) rfl) pa_nil))) pa_nil)))) (pe_lc (own := [("_law_bit", 1)]) rfl sc_l_lists.nd (show PI _ _ _ (iTup K _) from pi_tup (pv 0)) (blkOk_by (own := [("_law_bit", 1)]) (N := ["_law_matter", "_law_bit"]) (sc := defScope s_l_lists) (by decide +kernel)) (fun _ _ _ _ _ => pg_name (i := 1) sc_l_lists.nd rfl (by first | exact Or.inl rfl | exact Or.inr rfl)) (fun _ _ _ _ _ => pts_nil) (fun _ _ _ _ _ => (pe_call G_l_lists hr (by rfl) T.g_l_lists T.F_l_lists.kp T.b_l_lists .nil pass0 (pa_cons (pv 1) pa_nil)))) (pv 0)))), pure_run (fun ds d r => ?_) vs H Q E h⟩)
  obtain ⟨x, rfl, r⟩ := r
  have hS : ∀ k' (z : PyData × PyData), Lp k' z.1 z.2 → k = k' + 1 → R_lists k [z.1] z.2 := fun k' z hh e => by subst e; exact ⟨z.1, rfl, hh⟩
  cases r with
  | int _ n => exact rr_ret (ed_if (b := false) (et_val (ed_isi2 (b := false) (c := false) (ed_var rfl) (kits _ _ _ rfl) (kits _ _ _ rfl))) (fun z => absurd z Bool.false_ne_true) fun _ => ed_var rfl)
  | tup k' xs hh hl =>
    refine rr_ret (ed_if (b := true) (et_val (ed_is (ed_isi2 (b := false) (c := true) (ed_var rfl) (kits _ _ _ rfl) (kits _ _ _ rfl)) rfl)) (fun _ => ?_) fun z => absurd z.symm Bool.false_ne_true)
    refine EL.ed (el_lcE (·.1) (·.2) xs (src_tup (ed_var rfl)) (by omega) (fun z hz => ?_))
    walk_at "ed"
    exact hS _ z (hh z hz) rfl
theorem ok_lists : ∀ k, FnOk P w K mg base CX0 k T.f_l_lists T.d_l_lists ["_law_matter"] (Pure (R_lists k))
  | 0 => fn_none
  | k + 1 => ok_lists1 T (ok_lists k)
/-! the same -/
inductive Sm : Nat → PyData → Prop
  | int (k : Nat) (n : Int) : Sm k (.int n)
  | bl (k : Nat) (b : Bool) : Sm k (.bool b)
  | str (k : Nat) (x : Str) : Sm k (.str x)
  | lst (k : Nat) (xs : List PyData) (h : ∀ z ∈ xs, Sm k z) (hl : xs.length ≤ 100000) : Sm (k + 1) (.list xs)
  | tup (k : Nat) (xs : List PyData) (h : ∀ z ∈ xs, Sm k z) (hl : xs.length ≤ 100000) : Sm (k + 1) (.tuple xs)
def R_same : Nat → List PyData → PyData → Prop
  | 0 => fun _ _ => False
  | k + 1 => fun ds d => ∃ x, ds = [x, x] ∧ Sm k x ∧ d = .bool true
theorem prs_same (xs : List PyData) : prs xs xs = xs.map fun z => .tuple [z, z] := by
  induction xs with
  | nil => rfl
  | cons x xs ih =>
    show _ :: prs xs xs = _
    rw [ih]
    rfl
theorem ok_same1 {k : Nat} (G_l_same : FnOk P w K mg base CX0 k T.f_l_same T.d_l_same ["_law_got", "_law_due"] (Pure (R_same k))) : FnOk P w K mg base CX0 (k + 1) T.f_l_same T.d_l_same ["_law_got", "_law_due"] (Pure (R_same (k + 1))) := by
  refine T.F_l_same.ok sc_l_same (pure_len (n := 2) fun ds d ⟨_, e, _⟩ => by rw [e]; rfl) (fun cdv A outer s H vs Q E hr h => ⟨_, PSs.nox (pss_cons (ps_if (pt_val (pe_callB (show CallR _ _ (rIsiT K) from call_isiT) (by rfl) T.n_isinstance (by decide +kernel) (pa_cons (pv 1) (pa_cons (pe_tup (pa_cons (pe_bltn (v := .ty "list") (by rfl) T.n_list (by decide +kernel) rfl) (pa_cons (pe_bltn (v := .ty "tuple") (by rfl) T.n_tuple (by decide +kernel) rfl) pa_nil))) pa_nil)))) (pss_cons (ps_if (PW.pt (pw_or (pt_cmpR op_ne (pe_callB (show CallR _ _ (rIsi K) from call_isi) (by rfl) T.n_isinstance (by decide +kernel) (pa_cons (pv 0) (pa_cons (pe_bltn (v := .ty "list") (by rfl) T.n_list (by decide +kernel) rfl) pa_nil))) (pe_callB (show CallR _ _ (rIsi K) from call_isi) (by rfl) T.n_isinstance (by decide +kernel) (pa_cons (pv 1) (pa_cons (pe_bltn (v := .ty "list") (by rfl) T.n_list (by decide +kernel) rfl) pa_nil))) (by first | exact nomark _ | rfl)) (pw_or1 (pt_cmpR op_ne (pe_callB (show CallR _ _ (rIsi K) from call_isi) (by rfl) T.n_isinstance (by decide +kernel) (pa_cons (pv 0) (pa_cons (pe_bltn (v := .ty "tuple") (by rfl) T.n_tuple (by decide +kernel) rfl) pa_nil))) (pe_callB (show CallR _ _ (rIsi K) from call_isi) (by rfl) T.n_isinstance (by decide +kernel) (pa_cons (pv 1) (pa_cons (pe_bltn (v := .ty "tuple") (by rfl) T.n_tuple (by decide +kernel) rfl) pa_nil))) (by first | exact nomark _ | rfl))))) (pss_one (ps_ret pe_bl)) pss_nil) (pss_one (ps_ret (pe_and (pe_cmpR op_eq (pe_callB (call_lenK (K := K) rfl) (by rfl) T.n_len (by decide +kernel) (pa_cons (pv 0) pa_nil)) (pe_callB (call_lenK (K := K) rfl) (by rfl) T.n_len (by decide +kernel) (pa_cons (pv 1) pa_nil)) (by first | exact nomark _ | rfl)) (pe_one (pe_callB (show CallR _ _ (rAll K) from cr_all rfl) (by rfl) T.n_all (by decide +kernel) (pa_cons (pe_lc (own := [("_law_mine", 2), ("_law_its", 3)]) rfl sc_l_same.nd (show PI _ _ _ (iZipA K _) from pi_zipA (by rfl) T.n_zip (pa_cons (pv 0) (pa_cons (pv 1) pa_nil))) (blkOk_by (own := [("_law_mine", 2), ("_law_its", 3)]) (N := ["_law_got", "_law_due", "_law_mine", "_law_its"]) (sc := defScope s_l_same) (by decide +kernel)) (fun _ _ _ _ _ => show PG _ _ (gTup K 2 _) from pg_tup rfl (pgs_cons (pg_name (i := 2) sc_l_same.nd rfl (by first | exact Or.inl rfl | exact Or.inr rfl)) (pgs_cons (pg_name (i := 3) sc_l_same.nd rfl (by first | exact Or.inl rfl | exact Or.inr rfl)) pgs_nil))) (fun _ _ _ _ _ => pts_nil) (fun _ _ _ _ _ => (pe_call G_l_same hr (by rfl) T.g_l_same T.F_l_same.kp T.b_l_same .nil pass0 (pa_cons (pv 2) (pa_cons (pv 3) pa_nil))))) pa_nil))))))) pss_nil) (pss_cons (ps_if (PW.pt (pw_or (pt_cmpR op_isN (pv 1) pe_non (by first | exact nomark _ | rfl)) (pw_or1 (pt_val (pe_callB (show CallR _ _ (rIsiT K) from call_isiT) (by rfl) T.n_isinstance (by decide +kernel) (pa_cons (pv 1) (pa_cons (pe_tup (pa_cons (pe_bltn (v := .ty "bool") (by rfl) T.n_bool (by decide +kernel) rfl) (pa_cons (pe_bltn (v := .ty "str") (by rfl) T.n_str (by decide +kernel) rfl) pa_nil))) pa_nil))))))) (pss_one (ps_ret (pe_and (pe_cmpR op_eq (pv 0) (pv 1) (by first | exact nomark _ | rfl)) (pe_and (pe_cmpR op_eq (pe_callB (show CallR _ _ (rIsi K) from call_isi) (by rfl) T.n_isinstance (by decide +kernel) (pa_cons (pv 0) (pa_cons (pe_bltn (v := .ty "bool") (by rfl) T.n_bool (by decide +kernel) rfl) pa_nil))) (pe_callB (show CallR _ _ (rIsi K) from call_isi) (by rfl) T.n_isinstance (by decide +kernel) (pa_cons (pv 1) (pa_cons (pe_bltn (v := .ty "bool") (by rfl) T.n_bool (by decide +kernel) rfl) pa_nil))) (by first | exact nomark _ | rfl)) (pe_one (pe_cmpR op_eq (pe_cmpR op_isN (pv 0) pe_non (by first | exact nomark _ | rfl)) (pe_cmpR op_isN (pv 1) pe_non (by first | exact nomark _ | rfl)) (by first | exact nomark _ | rfl))))))) pss_nil) (pss_one (ps_ret (pe_and (pe_callB (show CallR _ _ (rIsi K) from call_isi) (by rfl) T.n_isinstance (by decide +kernel) (pa_cons (pv 0) (pa_cons (pe_bltn (v := .ty "int") (by rfl) T.n_int (by decide +kernel) rfl) pa_nil))) (pe_and (pe_not (pe_callB (show CallR _ _ (rIsi K) from call_isi) (by rfl) T.n_isinstance (by decide +kernel) (pa_cons (pv 0) (pa_cons (pe_bltn (v := .ty "bool") (by rfl) T.n_bool (by decide +kernel) rfl) pa_nil)))) (pe_one (pe_cmpR op_eq (pv 0) (pv 1) (by first | exact nomark _ | rfl))))))))), pure_run (fun ds d r => ?_) vs H Q E h⟩)
  obtain ⟨x, rfl, r, rfl⟩ := r
  have hS : ∀ k' (z : PyData), Sm k' z → k = k' + 1 → R_same k [z, z] (.bool true) := fun k' z hh e => by subst e; exact ⟨z, rfl, hh, rfl⟩
  have key : ∀ (k' : Nat) (xs : List PyData) (wi : TI) (tl : TE), k = k' + 1 → (∀ z ∈ xs, Sm k' z) → xs.length ≤ 100000 → SrcD wi (startE 4 [x, x]) (prs xs xs) → ED (tCB (rAll K) (tCons (tLc wi (gTup K 2 (gCons (gName 2) (gCons (gName 3) gNil))) tYes (tCall (Pure (R_same k)) [] E0 (tCons (tVar 2) (tCons (tVar 3) tNil))) [2, 3]) tNil)) (startE 4 [x, x]) (.bool true) := by
    intro k' xs wi tl e hh hl hs
    refine ed_cb (ea_cons (EL.ed (el_is (zs := (xs.map fun _ => true).map .bool) (el_lc (fun i d => [(2, (xs[i]?).getD .none), (3, (xs[i]?).getD .none)]) (fun _ _ => true) (fun _ _ => .bool true) (xs.map fun _ => .bool true) hs ?_ (fun i d hd => ?_) (fun _ _ _ => et_yes _) (fun i d hd _ => ?_) ?_) map_yes)) ea_nil) (rc_allb all_yes)
    · rw [prs_same, List.length_map]
      exact hl
    · rw [prs_same, List.getElem?_map] at hd
      obtain ⟨z, hz, rfl⟩ := Option.map_eq_some_iff.mp hd
      refine ⟨?_, fun u hu => ?_⟩
      · rw [hz]
        exact tgt_two
      · rcases List.mem_cons.mp hu with rfl | hu
        · exact List.mem_cons_self ..
        · rw [List.mem_singleton.mp hu]
          exact List.mem_cons_of_mem _ (List.mem_cons_self ..)
    · rw [prs_same, List.getElem?_map] at hd
      obtain ⟨z, hz, rfl⟩ := Option.map_eq_some_iff.mp hd
      rw [hz]
      show ED _ (setE (wipeD (startE 4 [x, x]) [2, 3]) [(2, z), (3, z)]) _
      walk_at "ed"
      exact hS k' z (hh z (List.mem_of_getElem? hz)) e
    · rw [List.filter_eq_self.mpr (fun _ _ => rfl), prs_same]
      refine List.ext_getElem? fun i => ?_
      rw [List.getElem?_map, List.getElem?_map, List.getElem?_zipIdx, List.getElem?_map]
      cases h : xs[i]? with
      | none => rfl
      | some a => rfl
  cases r with
  | int _ n =>
    refine rr_out (et_val (ed_isi2 (b := false) (c := false) (ed_var rfl) (kits _ _ _ rfl) (kits _ _ _ rfl))) (rr_out ?_ (rr_ret ?_))
    · refine et_orF (et_test (ed_is (ed_op (ed_var rfl) ed_non r2_isN) rfl)) (et_val (ed_isi2 (b := false) (c := false) (ed_var rfl) (kits _ _ _ rfl) (kits _ _ _ rfl)))
    · walk_at "ed"
      exact beq_self_eq_true _
  | bl _ b =>
    refine rr_out (et_val (ed_isi2 (b := false) (c := false) (ed_var rfl) (kits _ _ _ rfl) (kits _ _ _ rfl))) (rr_ifR (b := true) ?_ (fun _ => rr_ret ?_) fun z => absurd z.symm Bool.false_ne_true)
    · exact et_is (et_or (a := false) (b := true) (et_test (ed_is (ed_op (ed_var rfl) ed_non r2_isN) rfl)) fun _ => et_val (ed_is (ed_isi2 (b := true) (c := false) (ed_var rfl) (kits _ _ _ rfl) (kits _ _ _ rfl)) rfl)) rfl
    · exact ed_andT (ed_is (ed_op (ed_var rfl) (ed_var rfl) r2_eqB) (congrArg PyData.bool (beq_self_eq_true _))) (ed_andT (ed_is (ed_op (ed_isi (b := true) (ed_var rfl) (kits _ _ _ rfl)) (ed_isi (b := true) (ed_var rfl) (kits _ _ _ rfl)) r2_eqB) rfl) (ed_is (ed_op (ed_op (ed_var rfl) ed_non r2_isN) (ed_op (ed_var rfl) ed_non r2_isN) r2_eqB) rfl))
  | str _ z =>
    refine rr_out (et_val (ed_isi2 (b := false) (c := false) (ed_var rfl) (kits _ _ _ rfl) (kits _ _ _ rfl))) (rr_ifR (b := true) ?_ (fun _ => rr_ret ?_) fun z => absurd z.symm Bool.false_ne_true)
    · exact et_is (et_or (a := false) (b := true) (et_test (ed_is (ed_op (ed_var rfl) ed_non r2_isN) rfl)) fun _ => et_val (ed_is (ed_isi2 (b := false) (c := true) (ed_var rfl) (kits _ _ _ rfl) (kits _ _ _ rfl)) rfl)) rfl
    · exact ed_andT (ed_is (ed_op (ed_var rfl) (ed_var rfl) r2_eqS) (congrArg PyData.bool (beq_self_eq_true _))) (ed_andT (ed_is (ed_op (ed_isi (b := false) (ed_var rfl) (kits _ _ _ rfl)) (ed_isi (b := false) (ed_var rfl) (kits _ _ _ rfl)) r2_eqB) rfl) (ed_is (ed_op (ed_op (ed_var rfl) ed_non r2_isN) (ed_op (ed_var rfl) ed_non r2_isN) r2_eqB) rfl))
  | lst k' xs hh hl =>
    refine rr_ifR (b := true) (et_val (ed_is (ed_isi2 (b := true) (c := false) (ed_var rfl) (kits _ _ _ rfl) (kits _ _ _ rfl)) rfl)) (fun _ => rr_out (et_orF (et_test (ed_is (ed_op (ed_isi (b := true) (ed_var rfl) (kits _ _ _ rfl)) (ed_isi (b := true) (ed_var rfl) (kits _ _ _ rfl)) r2_neB) rfl)) (et_test (ed_is (ed_op (ed_isi (b := false) (ed_var rfl) (kits _ _ _ rfl)) (ed_isi (b := false) (ed_var rfl) (kits _ _ _ rfl)) r2_neB) rfl))) (rr_ret (ed_andT ?_ ?_))) fun z => absurd z.symm Bool.false_ne_true
    · walk_at "ed"
      exact beq_self_eq_true _
    · exact key k' xs _ (tVar 0) rfl hh hl (src_zipL (ed_var rfl) (ed_var rfl))
  | tup k' xs hh hl =>
    refine rr_ifR (b := true) (et_val (ed_is (ed_isi2 (b := false) (c := true) (ed_var rfl) (kits _ _ _ rfl) (kits _ _ _ rfl)) rfl)) (fun _ => rr_out (et_orF (et_test (ed_is (ed_op (ed_isi (b := false) (ed_var rfl) (kits _ _ _ rfl)) (ed_isi (b := false) (ed_var rfl) (kits _ _ _ rfl)) r2_neB) rfl)) (et_test (ed_is (ed_op (ed_isi (b := true) (ed_var rfl) (kits _ _ _ rfl)) (ed_isi (b := true) (ed_var rfl) (kits _ _ _ rfl)) r2_neB) rfl))) (rr_ret (ed_andT ?_ ?_))) fun z => absurd z.symm Bool.false_ne_true
    · walk_at "ed"
      exact beq_self_eq_true _
    · exact key k' xs _ (tVar 0) rfl hh hl (src_zipT (ed_var rfl) (ed_var rfl))
theorem ok_same : ∀ k, FnOk P w K mg base CX0 k T.f_l_same T.d_l_same ["_law_got", "_law_due"] (Pure (R_same k))
  | 0 => fn_none
  | k + 1 => ok_same1 T (ok_same k)
def S_spoil : Sp := fun vs H Q _ => ∃ p ws, vs = [.ref p] ∧ H p = some (.lst ws) ∧ ws.length ≤ 10000 ∧ ∀ q, H q = none → Q .non (upd (upd H q (.tup [])) p (.lst (ws ++ [.ref q])))
theorem ok_spoil : FnOk P w K mg base CX0 1 T.f_l_spoil T.d_l_spoil ["_law_matter"] S_spoil := by
  refine T.F_l_spoil.ok sc_l_spoil (fun vs H Q E ⟨_, _, e, _⟩ => by rw [e]; rfl) (fun cdv A outer s H vs Q E hr h => ⟨_, PSs.nox (pss_one (ps_if (pt_val (pe_callB (show CallR _ _ (rIsi K) from call_isi) (by rfl) T.n_isinstance (by decide +kernel) (pa_cons (pv 0) (pa_cons (pe_bltn (v := .ty "list") (by rfl) T.n_list (by decide +kernel) rfl) pa_nil)))) (pss_one (ps_expr (show PE _ _ (tBM K _ _ _ _) from pe_bm PySem.F.plainAttrs_list PySem.F.slot_list_append PySem.F.type_list_append mt_append (pv 0) (pa_cons (pe_tup pa_nil) pa_nil)))) pss_nil)), ?_⟩)
  obtain ⟨p, ws, rfl, hp, hl, hk⟩ := h
  refine ⟨.ref p, rfl, .ref p, .ty "list", .type "list", .type "list", true, rfl, .ty "list", .base (.lst hp), kit_ty (kits "list" "list" true rfl), true, rfl, ?_⟩
  refine iteT ⟨.ref p, rfl, .inl ⟨rfl, _, .inl (.inl hp)⟩, by show 0 ≤ sizeLine; decide, fun q hq => ?_⟩
  exact ⟨p, ws, .ref q, rfl, rfl, by rw [upd_ne (ne_of_none hp hq)]; exact hp, Nat.lt_of_le_of_lt hl (by decide), hk q hq⟩

end
end K4P
end

section
set_option Elab.async false
set_option linter.all false
set_option maxRecDepth 100000
set_option maxHeartbeats 4000000
namespace K4P
open PySem PySem.Spec L2 RZ DD K4
section
variable {js : List Nat} {t u : TS} {ρ : DD.Env} {P : DD.Env → PyData → Prop} {c : TT} {j : Nat} {es : List PyData}
/-- if c: return ..: an own list read in passing -/
theorem txr_passO (hj : ρ[j]? = some (.own es)) (hc : ET c (ρ.set j (.dat (.list es))) false) (h : TXR js u (· = ρ) P) : TXR js (tSeq (tIfS c t tNext) u) (· = ρ) P := fun F Hi0 Hi D σ H ρ' e ⟨H0, s, hp⟩ k => by
  subst e
  obtain ⟨H1, s1⟩ := s.freeze hj
  exact hc σ H1 H s1.gr.sub s1.len s1.dat _ fun H2 H2' g => h F Hi0 Hi D σ H2' _ rfl ⟨H0, s.more ⟨Same.refl _, s.gr.sub.trans g.big, g.big, fun a o e => .inl ⟨o, e⟩⟩, hp⟩ k
/-- if c: return .. -/
theorem txr_out (hc : ET c ρ false) (h : TXR js u (· = ρ) P) : TXR js (tSeq (tIfS c t tNext) u) (· = ρ) P := fun F Hi0 Hi D σ H ρ' e ⟨H0, s, hp⟩ k => by
  subst e
  exact hc σ H0 H s.gr.sub s.len s.dat _ fun H2 H2' g => h F Hi0 Hi D σ H2' _ rfl ⟨H2, s.more g, hp⟩ k
theorem tx_spoil {E : XK} {B : DD.Env → Prop} (hj : ρ[j]? = some (.own es)) (hl : es.length ≤ 10000) (hB : B (ρ.set j (.own (es ++ [.tuple []])))) : TX js (tDrop (tCall S_spoil [] E (tCons (tVar j) tNil))) (· = ρ) B := fun F Hi0 Hi D σ H ρ' e ⟨H0, s, hp⟩ k => by
  subst e
  obtain ⟨p, vs, h1, h2, h3, h4, h5⟩ := s.own j es hj
  refine ⟨.ref p, h1, p, vs, List.append_nil _, h2, by rw [h5.len]; exact hl, fun q hq => ?_⟩
  have s1 := s.more (.new1 (o := .tup []) s.gr.sub hq)
  exact k _ _ _ hB ⟨_, s1.push hj h1 (same_new hq _ _ h2) (.tup upd_same .nil), hp⟩
end
end K4P
end

section
set_option Elab.async false
set_option linter.all false
set_option maxRecDepth 100000
set_option maxHeartbeats 4000000
namespace K4P
open PySem PySem.Spec L2 RZ DD K4
open PyProof.Rows (firstMet)
local macro_rules | `(tactic| walk_at "ed") => `(tactic| (repeat' (first
  | (with_reducible (first | exact ed_int | exact ed_bl | exact ed_str | exact ed_non | exact ea_nil | exact et_yes _ | apply ea_cons | apply ed_tup | apply r2_B | apply r2_eqIb | apply r2_neIb | exact r2_I0 (fun _ => Dq.int _) | exact rc_abs | exact rc_intI | exact rc_intB | exact rc_min | exact rc_max | exact r2_isN | apply ed_isi | apply ed_andT | apply ed_andV | apply ed_notV | apply ed_notF | apply ed_op | apply ed_un | apply et_val | apply et_test | apply et_not | apply et_notF | apply et_notT | apply ed_call | apply ed_cb | apply ed_chainT | apply et_orF | apply et_andT))
  | ((with_reducible apply ed_var); exact rfl) | ((with_reducible apply len_ok); exact rfl) | ((with_reducible apply kits); exact rfl) | exact (rfl : decide _ = _) | exact (rfl : (_ == _) = _) | exact nI_beq _ _
  | ((with_reducible apply r2_ixTu); exact r2_ixT rfl) | ((with_reducible apply r2_ixLu); exact r2_ixL rfl) | ((with_reducible apply rc_u); first | exact rc_len (.inr rfl) | exact rc_len (.inl rfl)))))
section
variable {P : Program} {w : World} {K : PySem.W.Frag} {mg : Str → Option Value} {base : Heap} (T : Tx K mg)
theorem relab_same (u : Nat) (ms : List Nat) : ms.map (relab u u) = ms := by
  refine (List.map_congr_left fun o _ => ?_).trans (List.map_id ms)
  show (if o = u then u else o) = o
  by_cases h : o = u
  · rw [if_pos h, h]
  · rw [if_neg h]
theorem merge_map (ms : List Nat) (e : Ed) : merge ms e = ms.map (relab (K4.mk ms e.1) (K4.mk ms e.2)) := by
  by_cases h : K4.mk ms e.1 = K4.mk ms e.2
  · rw [merge_same h, h, relab_same]
  · rw [merge_diff h]
def R_marks (ds : List PyData) (d : PyData) : Prop := ∃ (k : Nat) (es : List Ed), k ≤ 60 ∧ (∀ e ∈ es, e.1 < k ∧ e.2 < k) ∧ ds = [nI k, .list (es.map tieD)] ∧ d = msD (grown (List.range k) es)
theorem ok_l_marks : FnOk P w K mg base CX0 1 T.f_l_marks T.d_l_marks ["_law_many_so", "_law_pairs_so"] (Pure R_marks) := by
  refine T.F_l_marks.ok sc_l_marks (pure_len (n := 2) fun ds d ⟨_, _, _, _, e, _⟩ => by rw [e]; rfl) (fun cdv A outer s H vs Q E hr h => ⟨_, PSs.nox (pss_cons (ps_set (i := 2) sc_l_marks.nd rfl (by first | exact Or.inl rfl | exact Or.inr rfl) (pe_listRg rfl (by rfl) T.n_list (prg_1 (by rfl) T.n_range (pv 0)))) (pss_cons (ps_for PassesOwn.never rfl (show PI _ _ _ (iList K _) from pi_list (pv 1)) (show PG _ _ (gTup K 2 _) from pg_tup rfl (pgs_cons (pg_name (i := 3) sc_l_marks.nd rfl (by first | exact Or.inl rfl | exact Or.inr rfl)) (pgs_cons (pg_name (i := 4) sc_l_marks.nd rfl (by first | exact Or.inl rfl | exact Or.inr rfl)) pgs_nil))) (pss_cons (ps_asg (pe_tup (pa_cons (pe_ix (show IxR _ (rIxL K) from ix_list) (pv 2) (pv 3) (fun _ _ => rfl)) (pa_cons (pe_ix (show IxR _ (rIxL K) from ix_list) (pv 2) (pv 4) (fun _ _ => rfl)) pa_nil))) (show PG _ _ (gTup K 2 _) from pg_tup rfl (pgs_cons (pg_name (i := 5) sc_l_marks.nd rfl (by first | exact Or.inl rfl | exact Or.inr rfl)) (pgs_cons (pg_name (i := 6) sc_l_marks.nd rfl (by first | exact Or.inl rfl | exact Or.inr rfl)) pgs_nil)))) (pss_one (ps_setLc (i := 2) (own := [("_law_own", 7)]) rfl sc_l_marks.nd rfl rfl (sw_true rfl rfl rfl (by decide +kernel)) (show PI _ _ _ (iList K _) from pi_list (pv 2)) (blkOk_by (own := [("_law_own", 7)]) (N := ["_law_many_so", "_law_pairs_so", "_law_marks_so", "_law_one", "_law_two", "_law_near", "_law_far", "_law_own"]) (sc := defScope s_l_marks) (by decide +kernel)) (fun _ _ _ _ _ => pg_name (i := 7) sc_l_marks.nd rfl (by first | exact Or.inl rfl | exact Or.inr rfl)) (fun _ _ _ _ _ => pts_nil) (fun _ _ _ _ _ => (pe_ifExp (pt_cmpR op_eq (pv 7) (pv 6) (by first | exact nomark _ | rfl)) (pv 5) (pv 7))))))) (pss_one (ps_ret (pv 2))))), pure_run (fun ds d r => ?_) vs H Q E h⟩)
  obtain ⟨k, es, hk, he, rfl, rfl⟩ := r
  refine rr_seq (rn_asg (d := msD (List.range k)) (ed_is (EL.ed (el_listRg (n := (k : Int)) (ed_var rfl) (by omega))) ?_)) (rr_seq (rn_forE tieD es (fun ms e => merge ms e) (List.range k) (fun ms => [.dat (nI k), .dat (.list (es.map tieD)), .dat (msD ms), .no, .no, .no, .no, .no]) (fun _ ms => ms.length = k) (src_list (ed_var rfl)) List.length_range (fun i e ms _ h => by rw [merge_len]; exact h) fun i e ms hi hl => ?_) (rr_ret (ed_is (ed_var rfl) ?_)))
  · rw [Int.toNat_natCast, rngD_nat]
    rfl
  · obtain ⟨h1, h2⟩ := he e (List.mem_of_getElem? hi)
    refine ⟨[(3, nI e.1), (4, nI e.2)], tgt_two, rn_is (rn_lose 6 (rn_lose 5 (rn_lose 4 (rn_lose 3 (rn_seq (rn_tgt (d := .tuple [nI (K4.mk ms e.1), nI (K4.mk ms e.2)]) ?_ tgt_two) (rn_asg (d := msD (merge ms e)) ?_)))))) rfl⟩
    · walk_at "ed"
      · exact r2_ixL (at_ms (by omega))
      · exact r2_ixL (at_ms (by omega))
    · rw [merge_map]
      refine ed_is (EL.ed (el_lcE nI (fun o => nI (relab (K4.mk ms e.1) (K4.mk ms e.2) o)) ms (src_list (ed_var rfl)) (by omega) (fun o _ => ?_))) (congrArg PyData.list (by rw [List.map_map]; rfl))
      refine ed_if (b := decide (o = K4.mk ms e.2)) ?_ (fun hc => ?_) (fun hc => ?_)
      · walk_at "ed"
      · unfold relab
        rw [if_pos (of_decide_eq_true hc)]
        walk_at "ed"
      · unfold relab
        rw [if_neg (of_decide_eq_false hc)]
        walk_at "ed"
  · have key : ∀ (es : List Ed) (ms : List Nat), es.foldl (fun ms e => merge ms e) ms = grown ms es := by
      intro es
      induction es with
      | nil => intro ms; rfl
      | cons e es ih => intro ms; exact ih _
    rw [key]
def R_hangs (ds : List PyData) (d : PyData) : Prop := ∃ m n U X, 0 < m + n ∧ (∀ e ∈ X.map (ed m), e.1 < m + n ∧ e.2 < m + n) ∧ m + n ≤ 60 ∧ X.length ≤ 1000 ∧ ds = [webD m n U, tiesD X] ∧ d = .bool (one (grown (List.range (m + n)) (X.map (ed m))))
theorem one_rep (ms : List Nat) : decide (ms = List.replicate ms.length (K4.mk ms 0)) = one ms := by
  have h : ms = List.replicate ms.length (K4.mk ms 0) ↔ one ms = true := by
    unfold one
    rw [List.all_eq_true]
    constructor
    · intro z x hx
      rw [z] at hx
      exact beq_iff_eq.mpr (List.eq_of_mem_replicate hx)
    · intro z
      exact List.eq_replicate_iff.mpr ⟨rfl, fun x hx => beq_iff_eq.mp (z x hx)⟩
  cases hb : one ms with
  | true => exact decide_eq_true (h.mpr hb)
  | false =>
    refine decide_eq_false fun z => ?_
    have := h.mp z
    rw [hb] at this
    cases this
theorem ok_l_hangs (G_l_marks : FnOk P w K mg base CX0 1 T.f_l_marks T.d_l_marks ["_law_many_so", "_law_pairs_so"] (Pure R_marks)) : FnOk P w K mg base CX0 2 T.f_l_hangs T.d_l_hangs ["_law_net_here", "_law_bonds_so"] (Pure R_hangs) := by
  refine T.F_l_hangs.ok sc_l_hangs (pure_len (n := 2) fun ds d ⟨_, _, _, _, _, _, _, _, e, _⟩ => by rw [e]; rfl) (fun cdv A outer s H vs Q E hr h => ⟨_, PSs.nox (pss_cons (ps_set (i := 2) sc_l_hangs.nd rfl (by first | exact Or.inl rfl | exact Or.inr rfl) (pe_call G_l_marks (hr.mono (by decide)) (by rfl) T.g_l_marks T.F_l_marks.kp T.b_l_marks .nil pass0 (pa_cons (pe_op op_add (pe_ix (show IxR _ (rIxT K) from ix_tup) (pv 0) pe_int (fun _ _ => rfl)) (pe_ix (show IxR _ (rIxT K) from ix_tup) (pv 0) pe_int (fun _ _ => rfl))) (pa_cons (pe_lc (own := [("_law_own", 3)]) rfl sc_l_hangs.nd (show PI _ _ _ (iTup K _) from pi_tup (pv 1)) (blkOk_by (own := [("_law_own", 3)]) (N := ["_law_net_here", "_law_bonds_so", "_law_marks_so", "_law_own"]) (sc := defScope s_l_hangs) (by decide +kernel)) (fun _ _ _ _ _ => pg_name (i := 3) sc_l_hangs.nd rfl (by first | exact Or.inl rfl | exact Or.inr rfl)) (fun _ _ _ _ _ => pts_nil) (fun _ _ _ _ _ => (pe_tup (pa_cons (pe_ix (show IxR _ (rIxT K) from ix_tup) (pv 3) pe_int (fun _ _ => rfl)) (pa_cons (pe_op op_add (pe_ix (show IxR _ (rIxT K) from ix_tup) (pv 0) pe_int (fun _ _ => rfl)) (pe_ix (show IxR _ (rIxT K) from ix_tup) (pv 3) pe_int (fun _ _ => rfl))) pa_nil))))) pa_nil)))) (pss_one (ps_ret (pe_cmpR (show OpR _ _ (rEqD K) from op_eqD hr.units) (pv 2) (pe_op op_rep (pe_lst (pa_cons (pe_ix (show IxR _ (rIxL K) from ix_list) (pv 2) pe_int (fun _ _ => rfl)) pa_nil)) (pe_callB (call_lenK (K := K) rfl) (by rfl) T.n_len (by decide +kernel) (pa_cons (pv 2) pa_nil))) (by first | exact nomark _ | rfl))))), pure_run (fun ds d r => ?_) vs H Q E h⟩)
  obtain ⟨m, n, U, X, h0, hX, h1, h2, rfl, rfl⟩ := r
  have e1 : ((m : Int) + n) = ((m + n : Nat) : Int) := (Int.natCast_add ..).symm
  generalize hms : grown (List.range (m + n)) (X.map (ed m)) = ms
  have hl : ms.length = m + n := by rw [← hms, grown_len, List.length_range]
  refine rr_seq (rn_asg (d := msD ms) ?_) (rr_ret ?_)
  · refine ed_call (ds := [nI (m + n), .list ((X.map (ed m)).map tieD)]) (ea_cons (ed_op ?_ ?_ (r2_N e1)) (ea_cons (EL.ed (el_is (el_lcE tieD (fun t => tieD (ed m t)) X (src_tup (ed_var rfl)) (by omega) fun t _ => ?_) ?_)) ea_nil)) ⟨m + n, X.map (ed m), h1, hX, rfl, by rw [hms]⟩
    · walk_at "ed"
    · walk_at "ed"
    · refine ed_tup (ea_cons ?_ (ea_cons (ed_op ?_ ?_ (r2_N (k := ((m + t.2 : Nat) : Int)) (Int.natCast_add ..).symm)) ea_nil)) (len_ok rfl)
      · walk_at "ed"
      · walk_at "ed"
      · walk_at "ed"
    · rw [List.map_map]
      rfl
  · rw [← one_rep, ← msD_eqv]
    refine ed_op (ed_var rfl) (EL.ed (el_is (el_op (EL.ed (el_lst (ea_cons (ed_op (ed_var rfl) ed_int (r2_ixL (z := nI (K4.mk ms 0)) (at_ms (ms := ms) (i := 0) (by omega)))) ea_nil) (len_ok rfl))) ?_ (r2_rep (k := (ms.length : Int)) (by omega) (by rw [Int.toNat_natCast, hl]; show 1 * (m + n) ≤ _; omega))) ?_)) (r2_eqD (msD_sh _) (msD_sh _))
    · refine ed_cb (ea_cons (ed_var rfl) ea_nil) (rc_lenN (.inl rfl) (by rw [List.length_map]))
    · rw [Int.toNat_natCast, List.flatten_replicate_singleton, List.map_replicate]
def rowT (r : List Tie × List Nat) : PyData := .tuple [tiesD r.1, msT r.2]
def fL (m need : Nat) (U : List Tie) (s : List (List Tie × List Nat)) (z : Tie × Nat) : List (List Tie × List Nat) := s.flatMap (stepL m need (U.length - z.2 - 1) z.1)
theorem fold_runL (m need : Nat) (U : List Tie) : ∀ (V W : List Tie) (s : List (List Tie × List Nat)), U = V ++ W → (W.zipIdx V.length).foldl (fL m need U) s = runL m need s W
  | _, [], _, _ => rfl
  | V, t :: W, s, h => by
    rw [List.zipIdx_cons, List.foldl_cons]
    have e : U.length - V.length - 1 = W.length := by
      rw [h, List.length_append, List.length_cons]
      omega
    show ((W.zipIdx (V.length + 1)).foldl (fL m need U) (s.flatMap (stepL m need (U.length - V.length - 1) t))) = runL m need (s.flatMap (stepL m need W.length t)) W
    rw [e]
    have := fold_runL m need U (V ++ [t]) W (s.flatMap (stepL m need W.length t)) (by rw [h]; simp)
    rw [List.length_append, List.length_singleton] at this
    exact this
theorem stepL_len (m need left : Nat) (t : Tie) (r : List Tie × List Nat) : (stepL m need left t r).length ≤ 2 := by
  unfold stepL
  rw [List.length_append]
  have h1 : (if need ≤ r.1.length + left then [r] else []).length ≤ 1 := by split <;> first | exact Nat.le_refl _ | exact Nat.zero_le _
  have h2 : (if K4.mk r.2 (ed m t).1 ≠ K4.mk r.2 (ed m t).2 ∧ r.1.length < need then [(r.1 ++ [t], merge r.2 (ed m t))] else []).length ≤ 1 := by split <;> first | exact Nat.le_refl _ | exact Nat.zero_le _
  omega
theorem stepL_mem {m need left k N : Nat} {t : Tie} {r x : List Tie × List Nat} (h1 : r.1.length ≤ k) (h2 : r.2.length = N) (h : x ∈ stepL m need left t r) : x.1.length ≤ k + 1 ∧ x.2.length = N := by
  unfold stepL at h
  rcases List.mem_append.mp h with h | h
  · split at h
    · rw [List.mem_singleton.mp h]
      exact ⟨by omega, h2⟩
    · cases h
  · split at h
    · rw [List.mem_singleton.mp h]
      exact ⟨by rw [List.length_append, List.length_singleton]; omega, by rw [merge_len]; exact h2⟩
    · cases h
def R_treesL (ds : List PyData) (es : List PyData) : Prop := ∃ m n U, Web m n U ∧ m + n ≤ 24 ∧ U.length ≤ 14 ∧ ds = [webD m n U] ∧ es = (srtT (treesW m n U)).map tiesD
-- ['_law_net_here', '_law_need_so', '_law_found', '_law_k', '_law_bond', '_law_later_so', '_law_left_so', '_law_boughs', '_law_marks_so', '_law_near', '_law_far', '_law_own']
theorem ok_treesL : FnOk P w K mg base CX0 1 T.f_l_all_trees T.d_l_all_trees ["_law_net_here"] (PureL R_treesL) := by
  refine T.F_l_all_trees.ok sc_l_all_trees (pureL_len (n := 1) fun ds es ⟨_, _, _, _, _, _, e, _⟩ => by rw [e]; rfl) (fun cdv A outer s H vs Q E hr h => ⟨_, PSs.nox (pss_cons (ps_asg (pe_tup (pa_cons (pe_op op_sub (pe_op op_add (pe_ix (show IxR _ (rIxT K) from ix_tup) (pv 0) pe_int (fun _ _ => rfl)) (pe_ix (show IxR _ (rIxT K) from ix_tup) (pv 0) pe_int (fun _ _ => rfl))) pe_int) (pa_cons (pe_lst (pa_cons (pe_tup (pa_cons (pe_tup pa_nil) (pa_cons (pe_tupRg rfl (by rfl) T.n_tuple (prg_1 (by rfl) T.n_range (pe_op op_add (pe_ix (show IxR _ (rIxT K) from ix_tup) (pv 0) pe_int (fun _ _ => rfl)) (pe_ix (show IxR _ (rIxT K) from ix_tup) (pv 0) pe_int (fun _ _ => rfl))))) pa_nil))) pa_nil)) pa_nil))) (show PG _ _ (gTup K 2 _) from pg_tup rfl (pgs_cons (pg_name (i := 1) sc_l_all_trees.nd rfl (by first | exact Or.inl rfl | exact Or.inr rfl)) (pgs_cons (pg_name (i := 2) sc_l_all_trees.nd rfl (by first | exact Or.inl rfl | exact Or.inr rfl)) pgs_nil)))) (pss_cons (ps_for PassesOwn.never rfl (show PI _ _ _ (iEnumT K _) from pi_enumT (by rfl) T.n_enumerate (pa_cons (pe_ix (show IxR _ (rIxT K) from ix_tup) (pv 0) pe_int (fun _ _ => rfl)) pa_nil)) (show PG _ _ (gTup K 2 _) from pg_tup rfl (pgs_cons (pg_name (i := 3) sc_l_all_trees.nd rfl (by first | exact Or.inl rfl | exact Or.inr rfl)) (pgs_cons (pg_name (i := 4) sc_l_all_trees.nd rfl (by first | exact Or.inl rfl | exact Or.inr rfl)) pgs_nil))) (pss_cons (ps_par (i := 5) (j := 6) rfl sc_l_all_trees.nd rfl rfl (by decide) rfl rfl (pa_cons (pe_lst pa_nil) (pa_cons (pe_op op_sub (pe_op op_sub (pe_callB (call_lenK (K := K) rfl) (by rfl) T.n_len (by decide +kernel) (pa_cons (pe_ix (show IxR _ (rIxT K) from ix_tup) (pv 0) pe_int (fun _ _ => rfl)) pa_nil)) (pv 3)) pe_int) pa_nil)) rfl) (pss_cons (ps_for PassesOwn.never rfl (show PI _ _ _ (iList K _) from pi_list (pv 2)) (show PG _ _ (gTup K 2 _) from pg_tup rfl (pgs_cons (pg_name (i := 7) sc_l_all_trees.nd rfl (by first | exact Or.inl rfl | exact Or.inr rfl)) (pgs_cons (pg_name (i := 8) sc_l_all_trees.nd rfl (by first | exact Or.inl rfl | exact Or.inr rfl)) pgs_nil))) (pss_cons (ps_if (pt_cmpR op_ge (pe_op op_add (pe_callB (call_lenK (K := K) rfl) (by rfl) T.n_len (by decide +kernel) (pa_cons (pv 7) pa_nil)) (pv 6)) (pv 1) (by first | exact nomark _ | rfl)) (pss_one (ps_expr (show PE _ _ (tBM K _ _ _ _) from pe_bm PySem.F.plainAttrs_list PySem.F.slot_list_append PySem.F.type_list_append mt_append (pv 5) (pa_cons (pe_tup (pa_cons (pv 7) (pa_cons (pv 8) pa_nil))) pa_nil)))) pss_nil) (pss_cons (ps_asg (pe_tup (pa_cons (pe_ix (show IxR _ (rIxT K) from ix_tup) (pv 8) (pe_ix (show IxR _ (rIxT K) from ix_tup) (pv 4) pe_int (fun _ _ => rfl)) (fun _ _ => rfl)) (pa_cons (pe_ix (show IxR _ (rIxT K) from ix_tup) (pv 8) (pe_op op_add (pe_ix (show IxR _ (rIxT K) from ix_tup) (pv 0) pe_int (fun _ _ => rfl)) (pe_ix (show IxR _ (rIxT K) from ix_tup) (pv 4) pe_int (fun _ _ => rfl))) (fun _ _ => rfl)) pa_nil))) (show PG _ _ (gTup K 2 _) from pg_tup rfl (pgs_cons (pg_name (i := 9) sc_l_all_trees.nd rfl (by first | exact Or.inl rfl | exact Or.inr rfl)) (pgs_cons (pg_name (i := 10) sc_l_all_trees.nd rfl (by first | exact Or.inl rfl | exact Or.inr rfl)) pgs_nil)))) (pss_one (ps_if (PW.pt (pw_and (pt_cmpR op_ne (pv 9) (pv 10) (by first | exact nomark _ | rfl)) (pw_and1 (pt_cmpR op_lt (pe_callB (call_lenK (K := K) rfl) (by rfl) T.n_len (by decide +kernel) (pa_cons (pv 7) pa_nil)) (pv 1) (by first | exact nomark _ | rfl))))) (pss_one (ps_expr (show PE _ _ (tBM K _ _ _ _) from pe_bm PySem.F.plainAttrs_list PySem.F.slot_list_append PySem.F.type_list_append mt_append (pv 5) (pa_cons (pe_tup (pa_cons (pe_op (show OpR _ _ (rCatA K) from op_catA) (pv 7) (pe_tup (pa_cons (pv 4) pa_nil))) (pa_cons (pe_callTy (call_tupleK (K := K) rfl) (by rfl) T.n_tuple (by decide +kernel) (pa_cons (pe_lc (own := [("_law_own", 11)]) rfl sc_l_all_trees.nd (show PI _ _ _ (iTup K _) from pi_tup (pv 8)) (blkOk_by (own := [("_law_own", 11)]) (N := ["_law_net_here", "_law_need_so", "_law_found", "_law_k", "_law_bond", "_law_later_so", "_law_left_so", "_law_boughs", "_law_marks_so", "_law_near", "_law_far", "_law_own"]) (sc := defScope s_l_all_trees) (by decide +kernel)) (fun _ _ _ _ _ => pg_name (i := 11) sc_l_all_trees.nd rfl (by first | exact Or.inl rfl | exact Or.inr rfl)) (fun _ _ _ _ _ => pts_nil) (fun _ _ _ _ _ => (pe_ifExp (pt_cmpR op_eq (pv 11) (pv 10) (by first | exact nomark _ | rfl)) (pv 9) (pv 11)))) pa_nil)) pa_nil))) pa_nil)))) pss_nil))))) (pss_one (ps_set (i := 2) sc_l_all_trees.nd rfl (by first | exact Or.inl rfl | exact Or.inr rfl) (pv 5)))))) (pss_one (ps_ret (pe_callB (cr_sortQ hr.units) (by rfl) T.n_sorted (by decide +kernel) (pa_cons (pe_lc (own := [("_law_own", 11)]) rfl sc_l_all_trees.nd (show PI _ _ _ (iList K _) from pi_list (pv 2)) (blkOk_by (own := [("_law_own", 11)]) (N := ["_law_net_here", "_law_need_so", "_law_found", "_law_k", "_law_bond", "_law_later_so", "_law_left_so", "_law_boughs", "_law_marks_so", "_law_near", "_law_far", "_law_own"]) (sc := defScope s_l_all_trees) (by decide +kernel)) (fun _ _ _ _ _ => pg_name (i := 11) sc_l_all_trees.nd rfl (by first | exact Or.inl rfl | exact Or.inr rfl)) (fun _ _ _ _ _ => pts_one (pt_cmpR op_eq (pe_callB (call_lenK (K := K) rfl) (by rfl) T.n_len (by decide +kernel) (pa_cons (pe_ix (show IxR _ (rIxT K) from ix_tup) (pv 11) pe_int (fun _ _ => rfl)) pa_nil)) (pv 1) (by first | exact nomark _ | rfl))) (fun _ _ _ _ _ => (pe_ix (show IxR _ (rIxT K) from ix_tup) (pv 11) pe_int (fun _ _ => rfl)))) pa_nil)))))), pureL_run (fun ds es r => ?_) vs H Q E h⟩)
  obtain ⟨m, n, U, hw, b1, b2, rfl, rfl⟩ := r
  have hm := hw.hm
  have hn := hw.hn
  obtain ⟨need, hneed⟩ : ∃ k, m + n = k + 1 := ⟨m + n - 1, by omega⟩
  have e1 : ((m : Int) + n) = ((m + n : Nat) : Int) := (Int.natCast_add ..).symm
  have e0 : (.tuple (rngD 0 ((m : Int) + n).toNat)) = msT (List.range (m + n)) := by rw [← Int.natCast_add, Int.toNat_natCast, rngD_nat]; rfl
  refine rl_seq (rn_tgt (d := .tuple [nI need, .list ([([], List.range (m + n))].map rowT)]) ?_ tgt_two) (rl_seq (rn_forE zD U.zipIdx (fL m need U) [([], List.range (m + n))] (fun s => [.dat (webD m n U), .dat (nI need), .dat (.list (s.map rowT)), .no, .no, .no, .no, .no, .no, .no, .no, .no]) (fun i s => s.length ≤ 2 ^ i ∧ ∀ r ∈ s, r.1.length ≤ i ∧ r.2.length = m + n) ?_ ?_ ?_ ?_) ?_)
  · refine ed_tup (ea_cons (ed_op (d := nI (m + n)) (ed_op ?_ ?_ (r2_N e1)) ed_int (r2_N (by omega))) (ea_cons (EL.ed (el_lst (ea_cons (ed_tup (ea_cons (ed_tup ea_nil (len_ok rfl)) (ea_cons (ed_is (ed_tupRg (n := (m : Int) + n) ?_ (by omega)) e0) ea_nil)) (len_ok rfl)) ea_nil) (len_ok rfl))) ea_nil)) (len_ok rfl)
    · walk_at "ed"
    · walk_at "ed"
    · walk_at "ed"
  · rw [← prs_zip]
    refine src_enumT ?_
    walk_at "ed"
  · refine ⟨Nat.le_of_ble_eq_true rfl, fun r hr => ?_⟩
    rw [List.mem_singleton.mp hr]
    exact ⟨Nat.le_refl _, List.length_range⟩
  · intro i z s hz ⟨h1, h2⟩
    refine ⟨Nat.le_trans (flat_len _ (fun r => stepL_len m need _ _ r) s) (by rw [Nat.pow_succ]; omega), fun x hx => ?_⟩
    obtain ⟨r, hr, hx⟩ := List.mem_flatMap.mp hx
    exact stepL_mem (h2 r hr).1 (h2 r hr).2 hx
  · intro i z s hz ⟨h1, h2⟩
    obtain ⟨hi, hz⟩ := List.getElem?_eq_some_iff.mp hz
    rw [List.length_zipIdx] at hi
    rw [List.getElem_zipIdx, Nat.zero_add] at hz
    subst hz
    have hx := hw.rng U[i] (List.getElem_mem hi)
    have hp : 2 ^ i ≤ 2 ^ 14 := Nat.pow_le_pow_right (by decide) (by omega)
    obtain ⟨left, hleft⟩ : ∃ l, l = U.length - i - 1 := ⟨_, rfl⟩
    have hst : fL m need U s (U[i], i) = s.flatMap (stepL m need left U[i]) := by rw [hleft]; rfl
    refine ⟨[(3, nI i), (4, tieD U[i])], tgt_two, ?_⟩
    refine rn_is (ρ' := [.dat (webD m n U), .dat (nI need), .dat (.list ((fL m need U s (U[i], i)).map rowT)), .no, .no, .no, .no, .no, .no, .no, .no, .no]) ?_ rfl
    refine rn_seq (rn_parLD (ds := []) (e := nI left) (el_lst ea_nil (len_ok rfl)) ?_) (rn_seq (rn_forE rowT s (fun a r => a ++ stepL m need left U[i] r) [] (fun a => [.dat (webD m n U), .dat (nI need), .dat (.list (s.map rowT)), .dat (nI i), .dat (tieD U[i]), .own (a.map rowT), .dat (nI left), .no, .no, .no, .no, .no]) (fun j a => a.length ≤ 2 * j) ?_ (Nat.le_refl _) ?_ ?_) ?_)
    · refine ed_op (d := .int ((U.length : Int) - i)) (ed_op (d := nI U.length) (ed_cb (ea_cons (d := tiesD U) ?_ ea_nil) (rc_lenN (ds := U.map tieD) (.inr rfl) (by rw [List.length_map]))) (ed_var rfl) (r2_N rfl)) ed_int (r2_N (by omega))
      walk_at "ed"
    · exact src_list (ed_var rfl)
    · intro j r a _ ha
      rw [List.length_append]
      have := stepL_len m need left U[i] r
      omega
    · intro j r a hr ha
      obtain ⟨hr1, hr2⟩ := h2 r (List.mem_of_getElem? hr)
      have hj := (List.getElem?_eq_some_iff.mp hr).1
      refine ⟨[(7, tiesD r.1), (8, msT r.2)], tgt_two, ?_⟩
      have hlen : a.length + 2 < 100000 := by omega
      let a1 := a ++ (if need ≤ r.1.length + left then [r] else [])
      have ha1 : a1.length ≤ a.length + 1 := by
        show (a ++ (if _ then _ else _ : List (List Tie × List Nat))).length ≤ _
        rw [List.length_append]
        split
        · rw [List.length_singleton]
          omega
        · exact Nat.le_succ _
      have ez : atI (r.2.map nI) ((m : Int) + (U[i].2 : Int)) = some (nI (K4.mk r.2 (m + U[i].2))) := by
        rw [← Int.natCast_add]
        exact at_ms (by omega)
      let ρa : DD.Env := [.dat (webD m n U), .dat (nI need), .dat (.list (s.map rowT)), .dat (nI i), .dat (tieD U[i]), .own (a1.map rowT), .dat (nI left), .dat (tiesD r.1), .dat (msT r.2), .no, .no, .no]
      let ρb : DD.Env := [.dat (webD m n U), .dat (nI need), .dat (.list (s.map rowT)), .dat (nI i), .dat (tieD U[i]), .own (a1.map rowT), .dat (nI left), .dat (tiesD r.1), .dat (msT r.2), .dat (nI (K4.mk r.2 U[i].1)), .dat (nI (K4.mk r.2 (m + U[i].2))), .no]
      let ρc : DD.Env := [.dat (webD m n U), .dat (nI need), .dat (.list (s.map rowT)), .dat (nI i), .dat (tieD U[i]), .own ((a ++ stepL m need left U[i] r).map rowT), .dat (nI left), .dat (tiesD r.1), .dat (msT r.2), .dat (nI (K4.mk r.2 U[i].1)), .dat (nI (K4.mk r.2 (m + U[i].2))), .no]
      refine rn_seq (ρ' := ρa) (rn_if (b := decide (need ≤ r.1.length + left)) ?_ (fun hb => ?_) fun hb => ?_) (rn_seq (ρ' := ρb) (rn_is (rn_tgt (d := .tuple [nI (K4.mk r.2 U[i].1), nI (K4.mk r.2 (m + U[i].2))]) ?_ tgt_two) rfl) (rn_is (rn_lose 10 (rn_lose 9 (rn_lose 8 (rn_lose 7 (rn_if (ρ' := ρc) (b := (!decide (K4.mk r.2 U[i].1 = K4.mk r.2 (m + U[i].2))) && decide (r.1.length < need)) ?_ (fun hb => ?_) fun hb => ?_))))) rfl))
      · refine et_test (ed_op (d := .int ((r.1.length : Int) + left)) (ed_op (d := nI r.1.length) (ed_cb (ea_cons (ed_var rfl) ea_nil) (rc_lenN (.inr rfl) (by rw [List.length_map]))) (ed_var rfl) (r2_N rfl)) (ed_var rfl) (r2_B ?_))
        rw [← Int.natCast_add]
        exact decide_eq_decide.mpr (by omega)
      · refine rn_is (rn_app (j := 5) (ds := a.map rowT) (d := rowT r) rfl (by rw [List.length_map]; omega) (ed_tup (ea_cons (ed_var rfl) (ea_cons (ed_var rfl) ea_nil)) (len_ok rfl))) ?_
        show _ = ([_, _, _, _, _, .own ((a ++ (if _ then _ else _ : List (List Tie × List Nat))).map rowT), _, _, _, _, _, _] : DD.Env)
        rw [if_pos (of_decide_eq_true hb), List.map_append]
        rfl
      · refine rn_is rn_next ?_
        show _ = ([_, _, _, _, _, .own ((a ++ (if _ then _ else _ : List (List Tie × List Nat))).map rowT), _, _, _, _, _, _] : DD.Env)
        rw [if_neg (of_decide_eq_false hb), List.append_nil]
        rfl
      · refine ed_tup (ea_cons (ed_op (ed_var rfl) ?_ (r2_ixT (at_ms (by omega)))) (ea_cons (ed_op (ed_var rfl) (ed_op ?_ ?_ (r2_N rfl)) (r2_ixT ez)) ea_nil)) (len_ok rfl)
        · walk_at "ed"
        · walk_at "ed"
        · walk_at "ed"
      · refine et_and ?_ fun _ => ?_
        · rw [← nI_beq]
          exact et_test (ed_op (ed_var rfl) (ed_var rfl) r2_neI)
        · refine et_test (ed_op (d := nI r.1.length) (ed_cb (ea_cons (ed_var rfl) ea_nil) (rc_lenN (.inr rfl) (by rw [List.length_map]))) (ed_var rfl) (r2_B (decide_eq_decide.mpr (by omega))))
      · have hb' : K4.mk r.2 (ed m U[i]).1 ≠ K4.mk r.2 (ed m U[i]).2 ∧ r.1.length < need := by
          rw [Bool.and_eq_true] at hb
          exact ⟨(by simpa using hb.1 : ¬ (K4.mk r.2 U[i].1 = K4.mk r.2 (m + U[i].2))), of_decide_eq_true hb.2⟩
        refine rn_is (rn_app (j := 5) (ds := a1.map rowT) (d := rowT (r.1 ++ [U[i]], merge r.2 (ed m U[i]))) rfl (by rw [List.length_map]; omega) (ed_tup (ea_cons (ed_is (ed_op (ed_var rfl) (ed_tup (ea_cons (ed_var rfl) ea_nil) (len_ok rfl)) (r2_catA (ds := r.1.map tieD) (es := [tieD U[i]]) ?_)) ?_) (ea_cons ?_ ea_nil)) (len_ok rfl))) ?_
        · rw [List.length_map]
          show _ + 1 ≤ _
          omega
        · rw [show tiesD (r.1 ++ [U[i]]) = .tuple ((r.1 ++ [U[i]]).map tieD) from rfl, List.map_append]
          rfl
        · show ED _ _ (msT (merge r.2 (ed m U[i])))
          rw [merge_map]
          refine ed_is (ed_cb (ea_cons (EL.ed (el_lcE nI (fun o => nI (relab (K4.mk r.2 U[i].1) (K4.mk r.2 (m + U[i].2)) o)) r.2 (src_tup (ed_var rfl)) (by omega) (fun o _ => ?_))) ea_nil) (rc_tupleOf (.inl rfl))) (congrArg PyData.tuple (by rw [List.map_map]; rfl))
          refine ed_if (b := decide (o = K4.mk r.2 (m + U[i].2))) ?_ (fun hc => ?_) (fun hc => ?_)
          · walk_at "ed"
          · unfold relab
            rw [if_pos (of_decide_eq_true hc)]
            walk_at "ed"
          · unfold relab
            rw [if_neg (of_decide_eq_false hc)]
            walk_at "ed"
        · show _ = ([_, _, _, _, _, .own ((a ++ ((if _ then _ else _ : List (List Tie × List Nat)) ++ (if _ then _ else _ : List (List Tie × List Nat)))).map rowT), _, _, _, _, _, _] : DD.Env)
          rw [if_pos hb', ← List.append_assoc, List.map_append (l₂ := [_])]
          rfl
      · have hb' : ¬ (K4.mk r.2 (ed m U[i]).1 ≠ K4.mk r.2 (ed m U[i]).2 ∧ r.1.length < need) := by
          intro z
          rw [Bool.and_eq_false_iff] at hb
          rcases hb with hb | hb
          · simp only [Bool.not_eq_false', decide_eq_true_eq] at hb
            exact z.1 hb
          · exact of_decide_eq_false hb z.2
        refine rn_is rn_next ?_
        show _ = ([_, _, _, _, _, .own ((a ++ ((if _ then _ else _ : List (List Tie × List Nat)) ++ (if _ then _ else _ : List (List Tie × List Nat)))).map rowT), _, _, _, _, _, _] : DD.Env)
        rw [if_neg hb', List.append_nil]
    · rw [fold_flat, List.nil_append, ← hst]
      refine rn_freeze (j := 5) rfl (rn_is (rn_lose 6 (rn_lose 5 (rn_lose 4 (rn_lose 3 (rn_asg (d := .list ((fL m need U s (U[i], i)).map rowT)) (ed_var rfl)))))) rfl)
  · have hinv := fold_inv (fL m need U) (fun i s => s.length ≤ 2 ^ i) [([], List.range (m + n))] U.zipIdx (Nat.le_of_ble_eq_true rfl) (fun i z s hz h1 => Nat.le_trans (flat_len _ (fun r => stepL_len m need _ _ r) s) (by rw [Nat.pow_succ]; omega))
    rw [List.length_zipIdx] at hinv
    rw [show U.zipIdx.foldl (fL m need U) [([], List.range (m + n))] = runL m need [([], List.range (m + n))] U from fold_runL m need U [] U _ rfl] at hinv ⊢
    have hp : 2 ^ U.length ≤ 2 ^ 14 := Nat.pow_le_pow_right (by decide) (by omega)
    have ht := runL_trees m (m + n) U [] (List.range (m + n)) hw.len0 (range_lt' _) hw.eds' (by rw [cnt_range]; exact Nat.zero_add _)
    rw [show m + n - 1 = need by omega] at ht
    generalize runL m need [([], List.range (m + n))] U = rows at *
    have hq : (rows.filter fun r => r.1.length == need).map (fun r => tiesD r.1) = (((rows.map (·.1)).filter fun x => x.length == need)).map tiesD := by
      rw [List.filter_map, List.map_map]
      rfl
    rw [show srtT (treesW m n U) = srtT ((rows.map (·.1)).filter fun x => x.length == need) from (srtT_eq ht).symm]
    refine rl_ret (el_is (el_cb (ea_cons (EL.ed (el_is (el_lcEF rowT (fun r => r.1.length == need) (fun r => tiesD r.1) rows (src_list (ed_var rfl)) (by omega) (fun r _ => ?_) (fun r _ _ => ?_)) hq)) ea_nil) (rc_sortQ (.inl rfl) (all_alikeT _) (sortableT fun x hx z => ?_) ?_ (depT _))) (map_srtT _))
    · refine et_test (ed_op (d := nI r.1.length) (ed_cb (ea_cons (d := tiesD r.1) ?_ ea_nil) (rc_lenN (ds := r.1.map tieD) (.inr rfl) (by rw [List.length_map]))) (ed_var rfl) (r2_eqIb ?_))
      · walk_at "ed"
      · rw [nI_beq]
        by_cases z : r.1.length = need <;> simp [z]
    · walk_at "ed"
    · have := (List.mem_filter.mp hx).2
      rw [z] at this
      have := beq_iff_eq.mp this
      simp only [List.length_nil] at this
      omega
    · rw [List.length_map]
      refine Nat.le_trans (List.length_filter_le _ _) ?_
      rw [List.length_map]
      omega
def R_is_bush (ds : List PyData) (d : PyData) : Prop := ∃ m n U X, Web m n U ∧ m + n ≤ 24 ∧ U.length ≤ 60 ∧ X.Pairwise ltT ∧ X.length + 1 = m + n ∧ (∀ t ∈ X, t ∈ U) ∧ one (grown (List.range (m + n)) (X.map (ed m))) = true ∧ ds = [webD m n U, tiesD X] ∧ d = .bool true
theorem ok_is_bush (G_l_hangs : FnOk P w K mg base CX0 2 T.f_l_hangs T.d_l_hangs ["_law_net_here", "_law_bonds_so"] (Pure R_hangs)) : FnOk P w K mg base CX0 3 T.f_l_is_bush T.d_l_is_bush ["_law_net_here", "_law_told"] (Pure R_is_bush) := by
  refine T.F_l_is_bush.ok sc_l_is_bush (pure_len (n := 2) fun ds es ⟨_, _, _, _, _, _, _, _, _, _, _, e, _⟩ => by rw [e]; rfl) (fun cdv A outer s H vs Q E hr h => ⟨_, PSs.nox (pss_cons (ps_if (PW.pt (pw_or (pt_not (pt_val (pe_callB (show CallR _ _ (rIsi K) from call_isi) (by rfl) T.n_isinstance (by decide +kernel) (pa_cons (pv 1) (pa_cons (pe_bltn (v := .ty "tuple") (by rfl) T.n_tuple (by decide +kernel) rfl) pa_nil))))) (pw_or (pt_cmpR op_ne (pe_callB (call_lenK (K := K) rfl) (by rfl) T.n_len (by decide +kernel) (pa_cons (pv 1) pa_nil)) (pe_op op_sub (pe_op op_add (pe_ix (show IxR _ (rIxT K) from ix_tup) (pv 0) pe_int (fun _ _ => rfl)) (pe_ix (show IxR _ (rIxT K) from ix_tup) (pv 0) pe_int (fun _ _ => rfl))) pe_int) (by first | exact nomark _ | rfl)) (pw_or1 (pt_cmpR (show OpR _ _ (rNeD K) from op_neD hr.units) (pe_lc (own := [("_law_own", 2)]) rfl sc_l_is_bush.nd (show PI _ _ _ (iTup K _) from pi_tup (pv 1)) (blkOk_by (own := [("_law_own", 2)]) (N := ["_law_net_here", "_law_told", "_law_own"]) (sc := defScope s_l_is_bush) (by decide +kernel)) (fun _ _ _ _ _ => pg_name (i := 2) sc_l_is_bush.nd rfl (by first | exact Or.inl rfl | exact Or.inr rfl)) (fun _ _ _ _ _ => pts_one (pt_cmpR (show OpR _ _ (rNiT K) from op_niT (by first | exact room_un 65 hr rfl | exact room_un 68 hr rfl | exact room_un 71 hr rfl)) (pv 2) (pe_ix (show IxR _ (rIxT K) from ix_tup) (pv 0) pe_int (fun _ _ => rfl)) (by first | exact nomark _ | rfl))) (fun _ _ _ _ _ => pe_int)) (pe_lst pa_nil) (by first | exact nomark _ | rfl)))))) (pss_one (ps_ret pe_bl)) pss_nil) (pss_one (ps_ret (pe_and (pe_cmpR (show OpR _ _ (rEqD K) from op_eqD hr.units) (pe_callTy (call_listK (K := K) rfl) (by rfl) T.n_list (by decide +kernel) (pa_cons (pv 1) pa_nil)) (pe_callB (show CallR _ _ (rSortedT K P w) from cr_sortedT rfl) (by rfl) T.n_sorted (by decide +kernel) (pa_cons (pe_callTy (show CallR _ _ (rSetT K P w) from cr_setT rfl hr.units) (by rfl) T.n_set (by decide +kernel) (pa_cons (pv 1) pa_nil)) pa_nil)) (by first | exact nomark _ | rfl)) (pe_one (pe_call G_l_hangs (hr.mono (by decide)) (by rfl) T.g_l_hangs T.F_l_hangs.kp T.b_l_hangs .nil pass0 (pa_cons (pv 0) (pa_cons (pv 1) pa_nil)))))))), pure_run (fun ds es r => ?_) vs H Q E h⟩)
  obtain ⟨m, n, U, X, hw, b1, b2, h3, h4, h5, h6, rfl, rfl⟩ := r
  have hm := hw.hm
  have hn := hw.hn
  refine rr_out ?_ (rr_ret (ed_andT ?_ ?_))
  · refine et_orF ?_ (et_orF ?_ ?_)
    · walk_at "ed"
    · walk_at "ed"
      rw [List.length_map]
      exact congrArg not (beq_iff_eq.mpr (by omega))
    · refine et_test (ed_op (EL.ed (el_is (zs := []) (el_lcEF tieD (fun t => !decide (t ∈ U)) (fun _ => .int 1) X (src_tup (ed_var rfl)) (by omega) (fun t ht => ?_) (fun _ _ _ => ed_int)) ?_)) (EL.ed (el_lst ea_nil (len_ok rfl))) (r2_neDb (by decide +kernel) (by decide +kernel) (by decide +kernel)))
      · refine et_test (ed_op (ed_var rfl) ?_ (r2_niTb (tieD_sh t) (tiesD_sh U) (congrArg not (any_tie U t))))
        walk_at "ed"
      · rw [List.filter_eq_nil_iff.mpr (fun t ht => by simp [h5 t ht])]
        rfl
  · refine ed_is (ed_op (EL.ed (el_cb (ea_cons (ed_var rfl) ea_nil) (rc_listOf (.inr rfl)))) (EL.ed (el_sortSet (X := X) (Y := X) (ed_var rfl) (by omega) (fun t ht => ?_) h3 fun t => Iff.rfl)) (r2_eqD (d := .list (X.map tieD)) (e := .list (X.map tieD)) ?_ ?_)) ?_
    · have := hw.rng t (h5 t ht)
      omega
    · exact shaped_of (by simp only [PyData.canLay0]; exact lay_map _ tieD_lay X) (by have := dep_map tieD 1 tieD_dep X; simp only [PyData.depth]; omega)
    · exact shaped_of (by simp only [PyData.canLay0]; exact lay_map _ tieD_lay X) (by have := dep_map tieD 1 tieD_dep X; simp only [PyData.depth]; omega)
    · show PyData.bool (PyData.eqv _ _) = _
      simp only [PyData.eqv]
      rw [eqv_map tieD tieD_eqv, decide_eq_true rfl]
  · refine ed_call (ds := [webD m n U, tiesD X]) ?_ ⟨m, n, U, X, hw.pos, fun e he => ?_, by omega, by omega, rfl, by rw [h6]⟩
    · walk_at "ed"
    · obtain ⟨t, ht, rfl⟩ := List.mem_map.mp he
      exact hw.eds _ (List.mem_map.mpr ⟨t, h5 t ht, rfl⟩)

end
end K4P
end

section
set_option Elab.async false
set_option linter.all false
set_option maxRecDepth 100000
set_option maxHeartbeats 4000000
namespace K4P
open PySem PySem.Spec L2 RZ DD K4
open PyProof.Rows (firstMet)
local macro_rules | `(tactic| walk_at "ed") => `(tactic| (repeat' (first
  | (with_reducible (first | exact ed_int | exact ed_bl | exact ed_str | exact ed_non | exact ea_nil | exact et_yes _ | apply ea_cons | apply ed_tup | apply r2_B | apply r2_eqIb | apply r2_neIb | exact r2_I0 (fun _ => Dq.int _) | exact rc_abs | exact rc_intI | exact rc_intB | exact rc_min | exact rc_max | exact r2_isN | apply ed_isi | apply ed_andT | apply ed_andV | apply ed_notV | apply ed_notF | apply ed_op | apply ed_un | apply et_val | apply et_test | apply et_not | apply et_notF | apply et_notT | apply ed_call | apply ed_cb | apply ed_chainT | apply et_orF | apply et_andT))
  | ((with_reducible apply ed_var); exact rfl) | ((with_reducible apply len_ok); exact rfl) | ((with_reducible apply kits); exact rfl) | exact (rfl : decide _ = _) | exact (rfl : (_ == _) = _) | exact nI_beq _ _
  | ((with_reducible apply r2_ixTu); exact r2_ixT rfl) | ((with_reducible apply r2_ixLu); exact r2_ixL rfl) | ((with_reducible apply rc_u); first | exact rc_len (.inr rfl) | exact rc_len (.inl rfl)))))
section
variable {P : Program} {w : World} {K : PySem.W.Frag} {mg : Str → Option Value} {base : Heap} (T : Tx K mg)
theorem int_mod1 (i k : Nat) : (((i : Int) + 1) % (k : Int)) = (((i + 1) % k : Nat) : Int) := by
  rw [Int.natCast_emod]
  rfl
def R_all_tied (ds : List PyData) (d : PyData) : Prop := ∃ m n : Nat, m ≤ 12 ∧ n ≤ 12 ∧ ds = [nI m, nI n] ∧ d = webD m n (tiedT m n)
theorem ok_l_all_tied : FnOk P w K mg base CX0 1 T.f_l_all_tied T.d_l_all_tied ["_law_m", "_law_n"] (Pure R_all_tied) := by
  refine T.F_l_all_tied.ok sc_l_all_tied (pure_len (n := 2) fun ds d ⟨_, _, _, _, e, _⟩ => by rw [e]; rfl) (fun cdv A outer s H vs Q E hr h => ⟨_, PSs.nox (pss_cons (ps_set (i := 2) sc_l_all_tied.nd rfl (by first | exact Or.inl rfl | exact Or.inr rfl) (pe_lst pa_nil)) (pss_cons (ps_for PassesOwn.never rfl (pi_range1 (by rfl) T.n_range (pa_cons (pv 0) pa_nil)) (pg_name (i := 3) sc_l_all_tied.nd rfl (by first | exact Or.inl rfl | exact Or.inr rfl)) (pss_one (ps_set (i := 2) sc_l_all_tied.nd rfl (by first | exact Or.inl rfl | exact Or.inr rfl) (pe_op op_cat (pv 2) (pe_lc (own := [("_law_its", 4)]) rfl sc_l_all_tied.nd (pi_range1 (by rfl) T.n_range (pa_cons (pv 1) pa_nil)) (blkOk_by (own := [("_law_its", 4)]) (N := ["_law_m", "_law_n", "_law_found", "_law_own", "_law_its"]) (sc := defScope s_l_all_tied) (by decide +kernel)) (fun _ _ _ _ _ => pg_name (i := 4) sc_l_all_tied.nd rfl (by first | exact Or.inl rfl | exact Or.inr rfl)) (fun _ _ _ _ _ => pts_nil) (fun _ _ _ _ _ => (pe_tup (pa_cons (pv 3) (pa_cons (pv 4) pa_nil))))))))) (pss_one (ps_ret (pe_tup (pa_cons (pv 0) (pa_cons (pv 1) (pa_cons (pe_callTy (call_tupleK (K := K) rfl) (by rfl) T.n_tuple (by decide +kernel) (pa_cons (pv 2) pa_nil)) pa_nil)))))))), pure_run (fun ds d r => ?_) vs H Q E h⟩)
  obtain ⟨m, n, hm, hn, rfl, rfl⟩ := r
  refine rr_seq (rn_asg (d := .list (([] : List Tie).map tieD)) (EL.ed (el_lst ea_nil (len_ok rfl)))) (rr_seq (rn_forE nI (List.range m) (fun s i => s ++ (List.range n).map fun j => (i, j)) ([] : List Tie) (fun s => [.dat (nI m), .dat (nI n), .dat (.list (s.map tieD)), .no, .no]) (fun i s => s.length = i * n) (src_rngN (ea_cons (ed_var rfl) ea_nil) (Int.toNat_natCast m) (by omega)) (Nat.zero_mul n).symm (fun i a s _ h => ?_) fun i a s ha hl => ?_) (rr_ret ?_))
  · rw [List.length_append, List.length_map, List.length_range, h, Nat.succ_mul]
  · have hi := (List.getElem?_eq_some_iff.mp ha).1
    rw [List.length_range] at hi
    have hb : i * n ≤ 12 * 12 := Nat.mul_le_mul (by omega) hn
    refine ⟨[(3, nI a)], tgt_name, rn_is (rn_lose 3 (rn_asg (d := .list ((s ++ (List.range n).map fun j => (a, j)).map tieD)) ?_)) rfl⟩
    refine ed_is (EL.ed (el_op (d := .list (s.map tieD)) (e := .list (((List.range n).map fun j => (a, j)).map tieD)) (ed_var rfl) (EL.ed (el_is (el_lcE nI (fun j => tieD (a, j)) (List.range n) (src_rngN (ea_cons ?_ ea_nil) (Int.toNat_natCast n) (by omega)) (by rw [List.length_range]; omega) fun j _ => ?_) ?_)) (r2_cat (by rw [List.length_map, List.length_map, List.length_map, List.length_range, hl]; omega)))) ?_
    · walk_at "ed"
    · exact ed_tie (ed_var rfl) (ed_var rfl)
    · rw [List.map_map]
      rfl
    · rw [List.map_append]
  · rw [fold_flat, List.nil_append]
    refine ed_tup (ea_cons (ed_var rfl) (ea_cons (ed_var rfl) (ea_cons (ed_cb (ea_cons (ed_var rfl) ea_nil) (rc_tupleOf (.inl rfl))) ea_nil))) (len_ok rfl)
def R_ring (ds : List PyData) (d : PyData) : Prop := ∃ k : Nat, 0 < k ∧ k ≤ 12 ∧ ds = [nI k] ∧ d = webD k k (srt1 (ringT k))
theorem ok_l_ring : FnOk P w K mg base CX0 1 T.f_l_ring T.d_l_ring ["_law_many_so"] (Pure R_ring) := by
  refine T.F_l_ring.ok sc_l_ring (pure_len (n := 1) fun ds d ⟨_, _, _, e, _⟩ => by rw [e]; rfl) (fun cdv A outer s H vs Q E hr h => ⟨_, PSs.nox (pss_cons (ps_set (i := 1) sc_l_ring.nd rfl (by first | exact Or.inl rfl | exact Or.inr rfl) (pe_op op_cat (pe_lc (own := [("_law_own", 2)]) rfl sc_l_ring.nd (pi_range1 (by rfl) T.n_range (pa_cons (pv 0) pa_nil)) (blkOk_by (own := [("_law_own", 2)]) (N := ["_law_many_so", "_law_found", "_law_own"]) (sc := defScope s_l_ring) (by decide +kernel)) (fun _ _ _ _ _ => pg_name (i := 2) sc_l_ring.nd rfl (by first | exact Or.inl rfl | exact Or.inr rfl)) (fun _ _ _ _ _ => pts_nil) (fun _ _ _ _ _ => (pe_tup (pa_cons (pv 2) (pa_cons (pv 2) pa_nil))))) (pe_lc (own := [("_law_own", 2)]) rfl sc_l_ring.nd (pi_range1 (by rfl) T.n_range (pa_cons (pv 0) pa_nil)) (blkOk_by (own := [("_law_own", 2)]) (N := ["_law_many_so", "_law_found", "_law_own"]) (sc := defScope s_l_ring) (by decide +kernel)) (fun _ _ _ _ _ => pg_name (i := 2) sc_l_ring.nd rfl (by first | exact Or.inl rfl | exact Or.inr rfl)) (fun _ _ _ _ _ => pts_nil) (fun _ _ _ _ _ => (pe_tup (pa_cons (pv 2) (pa_cons (pe_op op_mod (pe_callTy call_int1 (by rfl) T.n_int (by decide +kernel) (pa_cons (pe_op op_add (pv 2) pe_int) pa_nil)) (pv 0)) pa_nil))))))) (pss_one (ps_ret (pe_tup (pa_cons (pv 0) (pa_cons (pv 0) (pa_cons (pe_callTy (call_tupleK (K := K) rfl) (by rfl) T.n_tuple (by decide +kernel) (pa_cons (pe_callB (cr_sortQ hr.units) (by rfl) T.n_sorted (by decide +kernel) (pa_cons (pv 1) pa_nil)) pa_nil)) pa_nil))))))), pure_run (fun ds d r => ?_) vs H Q E h⟩)
  obtain ⟨k, h0, hk, rfl, rfl⟩ := r
  refine rr_seq (rn_asg (d := .list ((ringT k).map tieD)) ?_) (rr_ret ?_)
  · refine ed_is (EL.ed (el_op (d := .list (((List.range k).map fun i => (i, i)).map tieD)) (e := .list (((List.range k).map fun i => (i, (i + 1) % k)).map tieD)) (EL.ed (el_is (el_lcE nI (fun i => tieD (i, i)) (List.range k) (src_rngN (ea_cons ?_ ea_nil) (Int.toNat_natCast k) (by omega)) (by rw [List.length_range]; omega) fun j _ => ?_) ?_)) (EL.ed (el_is (el_lcE nI (fun i => tieD (i, (i + 1) % k)) (List.range k) (src_rngN (ea_cons ?_ ea_nil) (Int.toNat_natCast k) (by omega)) (by rw [List.length_range]; omega) fun j _ => ?_) ?_)) (r2_cat (by rw [List.length_map, List.length_map, List.length_map, List.length_map, List.length_range]; omega)))) ?_
    · walk_at "ed"
    · exact ed_tie (ed_var rfl) (ed_var rfl)
    · rw [List.map_map]
      rfl
    · walk_at "ed"
    · refine ed_tup (ea_cons (ed_var rfl) (ea_cons (ed_op (d := nI (j + 1)) (ed_cb (ea_cons (ed_op (ed_var rfl) ed_int (r2_N (k := ((j + 1 : Nat) : Int)) rfl)) ea_nil) rc_intI) (ed_var rfl) ?_) ea_nil)) (len_ok rfl)
      refine r2_I (show (0 : Int) < (k : Int) by omega) fun H => ?_
      rw [show ((j + 1 : Nat) : Int) = (j : Int) + 1 from rfl, int_mod1]
      exact .int _
    · rw [List.map_map]
      rfl
    · unfold ringT
      rw [List.map_append]
  · refine ed_tup (ea_cons (ed_var rfl) (ea_cons (ed_var rfl) (ea_cons (ed_cb (ea_cons (EL.ed (el_is (el_cb (ea_cons (ed_var rfl) ea_nil) (rc_sortQ (.inl rfl) (all_alike1 _) (sortable1 _) ?_ (dep1 _))) (map_srt1 _))) ea_nil) (rc_tupleOf (.inl rfl))) ea_nil))) (len_ok rfl)
    unfold ringT
    rw [List.length_map, List.length_append, List.length_map, List.length_map, List.length_range]
    omega
def R_house (ds : List PyData) (d : PyData) : Prop := ds = [] ∧ d = webD 3 3 houseT
def R_house_tree (ds : List PyData) (d : PyData) : Prop := ds = [] ∧ d = tiesD houseX
theorem ok_l_house : FnOk P w K mg base CX0 1 T.f_l_house T.d_l_house [] (Pure R_house) := by
  refine T.F_l_house.ok sc_l_house (pure_len (n := 0) fun ds d ⟨e, _⟩ => by rw [e]; rfl) (fun cdv A outer s H vs Q E hr h => ⟨_, PSs.nox (pss_one (ps_ret (pe_tup (pa_cons pe_int (pa_cons pe_int (pa_cons (pe_tup (pa_cons (pe_tup (pa_cons pe_int (pa_cons pe_int pa_nil))) (pa_cons (pe_tup (pa_cons pe_int (pa_cons pe_int pa_nil))) (pa_cons (pe_tup (pa_cons pe_int (pa_cons pe_int pa_nil))) (pa_cons (pe_tup (pa_cons pe_int (pa_cons pe_int pa_nil))) (pa_cons (pe_tup (pa_cons pe_int (pa_cons pe_int pa_nil))) (pa_cons (pe_tup (pa_cons pe_int (pa_cons pe_int pa_nil))) pa_nil))))))) pa_nil)))))), pure_run (fun ds d r => ?_) vs H Q E h⟩)
  obtain ⟨rfl, rfl⟩ := r
  refine rr_ret (ed_is (d := .tuple [.int 3, .int 3, .tuple [.tuple [.int 0, .int 0], .tuple [.int 0, .int 1], .tuple [.int 1, .int 0], .tuple [.int 1, .int 1], .tuple [.int 2, .int 1], .tuple [.int 2, .int 2]]]) ?_ rfl)
  walk_at "ed"
theorem ok_l_house_tree : FnOk P w K mg base CX0 1 T.f_l_house_tree T.d_l_house_tree [] (Pure R_house_tree) := by
  refine T.F_l_house_tree.ok sc_l_house_tree (pure_len (n := 0) fun ds d ⟨e, _⟩ => by rw [e]; rfl) (fun cdv A outer s H vs Q E hr h => ⟨_, PSs.nox (pss_one (ps_ret (pe_tup (pa_cons (pe_tup (pa_cons pe_int (pa_cons pe_int pa_nil))) (pa_cons (pe_tup (pa_cons pe_int (pa_cons pe_int pa_nil))) (pa_cons (pe_tup (pa_cons pe_int (pa_cons pe_int pa_nil))) (pa_cons (pe_tup (pa_cons pe_int (pa_cons pe_int pa_nil))) (pa_cons (pe_tup (pa_cons pe_int (pa_cons pe_int pa_nil))) pa_nil)))))))), pure_run (fun ds d r => ?_) vs H Q E h⟩)
  obtain ⟨rfl, rfl⟩ := r
  refine rr_ret (ed_is (d := .tuple [.tuple [.int 0, .int 0], .tuple [.int 0, .int 1], .tuple [.int 1, .int 1], .tuple [.int 2, .int 1], .tuple [.int 2, .int 2]]) ?_ rfl)
  walk_at "ed"
section
variable {ρ : DD.Env} {te t1 t2 : TE} {x : PyData} {m n : Nat} {U X : List Tie} {E : XK}
theorem tp_tie (k : Nat) (t : Tie) : Tp (k + 1) (tieD t) (tieD t) := Tp.tup k [(nI t.1, nI t.1), (nI t.2, nI t.2)] (fun z hz => by
  rcases List.mem_cons.mp hz with rfl | hz
  · exact .int _ _
  · rw [List.mem_singleton.mp hz]
    exact .int _ _) (Nat.le_of_ble_eq_true rfl)
theorem tp_ties (k : Nat) (U : List Tie) (hl : U.length ≤ 1000) : Tp (k + 2) (tiesD U) (tiesD U) := by
  have h := Tp.tup (k + 1) (U.map fun t => (tieD t, tieD t)) (fun z hz => by
    obtain ⟨t, _, rfl⟩ := List.mem_map.mp hz
    exact tp_tie k t) (by rw [List.length_map]; exact hl)
  rw [List.map_map, List.map_map] at h
  exact h
theorem tp_webD (hl : U.length ≤ 1000) : Tp 3 (webD m n U) (webD m n U) := Tp.tup 2 [(nI m, nI m), (nI n, nI n), (tiesD U, tiesD U)] (fun z hz => by
  rcases List.mem_cons.mp hz with rfl | hz
  · exact .int _ _
  · rcases List.mem_cons.mp hz with rfl | hz
    · exact .int _ _
    · rw [List.mem_singleton.mp hz]
      exact tp_ties 0 U hl) (Nat.le_of_ble_eq_true rfl)
theorem tp_tieS (k : Nat) (t : Tie) : Tp (k + 1) (tieS t) (tieD t) := Tp.lst k [(nI t.1, nI t.1), (nI t.2, nI t.2)] (fun z hz => by
  rcases List.mem_cons.mp hz with rfl | hz
  · exact .int _ _
  · rw [List.mem_singleton.mp hz]
    exact .int _ _) (Nat.le_of_ble_eq_true rfl)
theorem tp_tiesS (k : Nat) (U : List Tie) (hl : U.length ≤ 1000) : Tp (k + 2) (tiesS U) (tiesD U) := by
  have h := Tp.lst (k + 1) (U.map fun t => (tieS t, tieD t)) (fun z hz => by
    obtain ⟨t, _, rfl⟩ := List.mem_map.mp hz
    exact tp_tieS k t) (by rw [List.length_map]; exact hl)
  rw [List.map_map, List.map_map] at h
  exact h
theorem tp_webS (hl : U.length ≤ 1000) : Tp 3 (webS m n U) (webD m n U) := Tp.lst 2 [(nI m, nI m), (nI n, nI n), (tiesS U, tiesD U)] (fun z hz => by
  rcases List.mem_cons.mp hz with rfl | hz
  · exact .int _ _
  · rcases List.mem_cons.mp hz with rfl | hz
    · exact .int _ _
    · rw [List.mem_singleton.mp hz]
      exact tp_tiesS 0 U hl) (Nat.le_of_ble_eq_true rfl)
theorem lp_tie (k : Nat) (t : Tie) : Lp (k + 1) (tieD t) (tieS t) := Lp.tup k [(nI t.1, nI t.1), (nI t.2, nI t.2)] (fun z hz => by
  rcases List.mem_cons.mp hz with rfl | hz
  · exact .int _ _
  · rw [List.mem_singleton.mp hz]
    exact .int _ _) (Nat.le_of_ble_eq_true rfl)
theorem lp_ties (k : Nat) (U : List Tie) (hl : U.length ≤ 1000) : Lp (k + 2) (tiesD U) (tiesS U) := by
  have h := Lp.tup (k + 1) (U.map fun t => (tieD t, tieS t)) (fun z hz => by
    obtain ⟨t, _, rfl⟩ := List.mem_map.mp hz
    exact lp_tie k t) (by rw [List.length_map]; exact hl)
  rw [List.map_map, List.map_map] at h
  exact h
theorem lp_web (hl : U.length ≤ 1000) : Lp 3 (webD m n U) (webS m n U) := Lp.tup 2 [(nI m, nI m), (nI n, nI n), (tiesD U, tiesS U)] (fun z hz => by
  rcases List.mem_cons.mp hz with rfl | hz
  · exact .int _ _
  · rcases List.mem_cons.mp hz with rfl | hz
    · exact .int _ _
    · rw [List.mem_singleton.mp hz]
      exact lp_ties 0 U hl) (Nat.le_of_ble_eq_true rfl)
theorem sm_tie (k : Nat) (t : Tie) : Sm (k + 1) (tieD t) := Sm.tup k [nI t.1, nI t.2] (fun z hz => by
  rcases List.mem_cons.mp hz with rfl | hz
  · exact .int _ _
  · rw [List.mem_singleton.mp hz]
    exact .int _ _) (Nat.le_of_ble_eq_true rfl)
theorem sm_ties (k : Nat) (U : List Tie) (hl : U.length ≤ 100000) : Sm (k + 2) (tiesD U) := Sm.tup (k + 1) _ (fun z hz => by
    obtain ⟨t, _, rfl⟩ := List.mem_map.mp hz
    exact sm_tie k t) (by rw [List.length_map]; exact hl)
theorem sm_trees (k : Nat) (L : List (List Tie)) (hl : L.length ≤ 100000) (hx : ∀ x ∈ L, x.length ≤ 100000) : Sm (k + 3) (.list (L.map tiesD)) := Sm.lst (k + 2) _ (fun z hz => by
    obtain ⟨t, ht, rfl⟩ := List.mem_map.mp hz
    exact sm_ties k t (hx t ht)) (by rw [List.length_map]; exact hl)
theorem sm_heardZ (k : Nat) : Sm (k + 1) (.list [.str "too many", .bool true]) := Sm.lst k _ (fun z hz => by
  rcases List.mem_cons.mp hz with rfl | hz
  · exact .str _ _
  · rw [List.mem_singleton.mp hz]
    exact .bl _ _) (Nat.le_of_ble_eq_true rfl)
theorem ed_many {c : Nat} (h : ED te ρ x) (tp : Tp 3 x (webD m n U)) (w : Web m n U) (b1 : m + n ≤ 24) (b2 : U.length ≤ 60) (hc : count m n U = c) : ED (tCall (Pure R_many_trees) [] E (tCons te tNil)) ρ (nI c) :=
  ed_call (ea_cons h ea_nil) ⟨x, m, n, U, tp, w, b1, b2, rfl, by rw [hc]⟩
theorem el_heard {L : List (List Tie)} (h : ED te ρ x) (tp : Tp 3 x (webD m n U)) (w : Web m n U) (b1 : m + n ≤ 24) (b2 : U.length ≤ 14) (hc : count m n U ≤ 2000) (hL : srtT (treesW m n U) = L) : EL (tCall (PureL R_heard) [] E (tCons te tNil)) ρ (L.map tiesD) :=
  el_call (ea_cons h ea_nil) (.inl ⟨x, m, n, U, tp, w, b1, b2, hc, rfl, by rw [hL]⟩)
theorem el_heardZ (h : ED te ρ x) (tp : Tp 3 x (webD m n U)) (w : Web m n U) (b1 : m + n ≤ 24) (b2 : U.length ≤ 60) (hc : 2000 < count m n U) : EL (tCall (PureL R_heard) [] E (tCons te tNil)) ρ [.str "too many", .bool true] :=
  el_call (ea_cons h ea_nil) (.inr ⟨⟨x, m, n, U, tp, w, b1, b2, hc, rfl⟩, rfl⟩)
theorem ed_bush {x : PyData} (h1 : ED t1 ρ (webD m n U)) (h2 : ED t2 ρ x) (tp : Tp 3 x (webD m n U)) (w : Web m n U) (b1 : m + n ≤ 24) (b2 : U.length ≤ 60) : ED (tCall (Pure R_is_bush) [] E (tCons t1 (tCons (tCall (Pure R_some_tree) [] E (tCons t2 tNil)) tNil))) ρ (.bool true) := by
  obtain ⟨g1, g2, g3, g4⟩ := greedy_bush w
  exact ed_call (ea_cons h1 (ea_cons (ed_call (ea_cons h2 ea_nil) ⟨x, m, n, U, tp, w, by omega, by omega, rfl, rfl⟩) ea_nil)) ⟨m, n, U, _, w, b1, b2, g1, g2, g3, g4, rfl, rfl⟩
theorem ed_tied (h1 : ED t1 ρ (nI m)) (h2 : ED t2 ρ (nI n)) (hm : m ≤ 12) (hn : n ≤ 12) : ED (tCall (Pure R_all_tied) [] E (tCons t1 (tCons t2 tNil))) ρ (webD m n (tiedT m n)) := ed_call (ea_cons h1 (ea_cons h2 ea_nil)) ⟨m, n, hm, hn, rfl, rfl⟩
theorem ed_ring (h1 : ED t1 ρ (nI m)) (h0 : 0 < m) (hm : m ≤ 12) : ED (tCall (Pure R_ring) [] E (tCons t1 tNil)) ρ (webD m m (srt1 (ringT m))) := ed_call (ea_cons h1 ea_nil) ⟨m, h0, hm, rfl, rfl⟩
theorem ring_srt {k c : Nat} (h : (k, c) ∈ ([(4, 8), (12, 24)] : List (Nat × Nat))) : Web k k (srt1 (ringT k)) ∧ (srt1 (ringT k)).length = 2 * k ∧ count k k (srt1 (ringT k)) = c := by
  obtain ⟨w, d, e⟩ := ring_web h
  refine ⟨Web.of_srt w d, ?_, by rw [count_srt w, e]⟩
  rw [(srt1_perm _).length_eq]
  unfold ringT
  rw [List.length_append, List.length_map, List.length_map, List.length_range]
  omega
theorem ed_int' {k : Nat} : ED (tC (.int (k : Int))) ρ (nI k) := ed_int
end
def R_hand (ds : List PyData) (d : PyData) : Prop := ∃ r : Nat, ds = [nI r] ∧ d = .bool true
def hA : List PyData := [nI 4, .list (houseL.map tiesD), nI 1, .list ([[(0, 0)]].map tiesD), .bool true]
def hB : List PyData := [nI 8, nI 81, nI 1, .list [.str "too many", .bool true], .bool true]
def hC : List PyData := [nI (vt 12 5), nI 24, .bool true]
def hD : List PyData := [nI 448, .list [.str "too many", .bool true], nI 16402500000000]
theorem sm_hand : (∀ z ∈ hA, Sm 5 z) ∧ (∀ z ∈ hB, Sm 5 z) ∧ (∀ z ∈ hC, Sm 5 z) ∧ ∀ z ∈ hD, Sm 5 z := by
  unfold hA hB hC hD
  refine ⟨fun z hz => ?_, fun z hz => ?_, fun z hz => ?_, fun z hz => ?_⟩ <;> simp only [List.mem_cons, List.not_mem_nil, or_false] at hz
  · rcases hz with rfl | rfl | rfl | rfl | rfl
    · exact .int _ _
    · exact sm_trees 2 houseL (Nat.le_of_ble_eq_true rfl) (fun x hx => Nat.le_trans (List.all_eq_true.mp (show (houseL.all fun x => decide (x.length ≤ 5)) = true by decide +kernel) x hx |> of_decide_eq_true) (by decide))
    · exact .int _ _
    · exact sm_trees 2 [[(0, 0)]] (Nat.le_of_ble_eq_true rfl) (fun x hx => by rw [List.mem_singleton.mp hx]; decide)
    · exact .bl _ _
  · rcases hz with rfl | rfl | rfl | rfl | rfl
    · exact .int _ _
    · exact .int _ _
    · exact .int _ _
    · exact sm_heardZ 4
    · exact .bl _ _
  · rcases hz with rfl | rfl | rfl
    · exact .int _ _
    · exact .int _ _
    · exact .bl _ _
  · rcases hz with rfl | rfl | rfl
    · exact .int _ _
    · exact sm_heardZ 4
    · exact .int _ _

end
end K4P
end

section
set_option Elab.async false
set_option linter.all false
set_option maxRecDepth 100000
set_option maxHeartbeats 4000000
namespace K4P
open PySem PySem.Spec L2 RZ DD K4
open PyProof.Rows (firstMet)
local macro_rules | `(tactic| walk_at "ed") => `(tactic| (repeat' (first
  | (with_reducible (first | exact ed_int | exact ed_bl | exact ed_str | exact ed_non | exact ea_nil | exact et_yes _ | apply ea_cons | apply ed_tup | apply r2_B | apply r2_eqIb | apply r2_neIb | exact r2_I0 (fun _ => Dq.int _) | exact rc_abs | exact rc_intI | exact rc_intB | exact rc_min | exact rc_max | exact r2_isN | apply ed_isi | apply ed_andT | apply ed_andV | apply ed_notV | apply ed_notF | apply ed_op | apply ed_un | apply et_val | apply et_test | apply et_not | apply et_notF | apply et_notT | apply ed_call | apply ed_cb | apply ed_chainT | apply et_orF | apply et_andT))
  | ((with_reducible apply ed_var); exact rfl) | ((with_reducible apply len_ok); exact rfl) | ((with_reducible apply kits); exact rfl) | exact (rfl : decide _ = _) | exact (rfl : (_ == _) = _) | exact nI_beq _ _
  | ((with_reducible apply r2_ixTu); exact r2_ixT rfl) | ((with_reducible apply r2_ixLu); exact r2_ixL rfl) | ((with_reducible apply rc_u); first | exact rc_len (.inr rfl) | exact rc_len (.inl rfl)))))
section
variable {P : Program} {w : World} {K : PySem.W.Frag} {mg : Str → Option Value} {base : Heap} (T : Tx K mg)
def roundL : List (List Tie) := [[(0, 0), (0, 1), (1, 0)], [(0, 0), (0, 1), (1, 1)], [(0, 0), (1, 0), (1, 1)], [(0, 1), (1, 0), (1, 1)]]
theorem round_house : roundL.map (fun x => x ++ [(2, 1), (2, 2)]) = houseL := rfl
theorem house_asc : houseX.Pairwise ltT := by decide +kernel
theorem houseX_in : ∀ t ∈ houseX, t ∈ houseT := by decide +kernel
theorem houseX_one : one (grown (List.range (3 + 3)) (houseX.map (ed 3))) = true := by decide +kernel
theorem in_s {p : Nat × Nat} (h : (singles ++ sixteen).contains p = true) : p ∈ singles ++ sixteen := List.contains_iff_mem.mp h
theorem tied_in {m n : Nat} (h : (singles ++ sixteen).contains (m, n) = true) : Web m n (tiedT m n) ∧ count m n (tiedT m n) = vt m n := tied_web (in_s h)
theorem ed_tieN {ρ : DD.Env} {a b : Nat} : ED (tTup (tCons (tC (.int (a : Int))) (tCons (tC (.int (b : Int))) tNil))) ρ (tieD (a, b)) := ed_tie ed_int ed_int
theorem hand_big : Web 9 12 (srt1 (tiedT 5 6 ++ (tiedT 5 6).map (shiftT 5 6))) ∧ (srt1 (tiedT 5 6 ++ (tiedT 5 6).map (shiftT 5 6))).length = 60 ∧ count 9 12 (srt1 (tiedT 5 6 ++ (tiedT 5 6).map (shiftT 5 6))) = 16402500000000 := by
  obtain ⟨w, hc⟩ := tied_in (m := 5) (n := 6) (by decide +kernel)
  obtain ⟨g1, g2⟩ := glue_web w.toWebU w.toWebU
  have nd := glue_nodup (n1 := 6) w.toWebU (asc_nodup w.asc) (asc_nodup w.asc)
  refine ⟨Web.of_srt g1 nd, ?_, ?_⟩
  · rw [(srt1_perm _).length_eq, List.length_append, List.length_map, tied_len]
  · rw [count_srt g1]
    refine g2.trans ?_
    rw [hc]
    decide +kernel
theorem ok_hand_right (G_l_house : FnOk P w K mg base CX0 1 T.f_l_house T.d_l_house [] (Pure R_house)) (G_l_house_tree : FnOk P w K mg base CX0 1 T.f_l_house_tree T.d_l_house_tree [] (Pure R_house_tree)) (G_many_trees : FnOk P w K mg base CX0 7 T.f_many_trees T.d_many_trees ["web"] (Pure R_many_trees)) (G_l_heard : FnOk P w K mg base CX0 8 T.f_l_heard T.d_l_heard ["_law_net_here"] (PureL R_heard)) (G_is_tree : FnOk P w K mg base CX0 7 T.f_is_tree T.d_is_tree ["web", "thing"] (Pure R_is_tree)) (G_some_tree : FnOk P w K mg base CX0 7 T.f_some_tree T.d_some_tree ["web"] (Pure R_some_tree)) (G_l_ring : FnOk P w K mg base CX0 1 T.f_l_ring T.d_l_ring ["_law_many_so"] (Pure R_ring)) (G_l_all_tied : FnOk P w K mg base CX0 1 T.f_l_all_tied T.d_l_all_tied ["_law_m", "_law_n"] (Pure R_all_tied)) (G_l_is_bush : FnOk P w K mg base CX0 3 T.f_l_is_bush T.d_l_is_bush ["_law_net_here", "_law_told"] (Pure R_is_bush)) (G_l_same : FnOk P w K mg base CX0 7 T.f_l_same T.d_l_same ["_law_got", "_law_due"] (Pure (R_same 7))) : FnOk P w K mg base CX0 9 T.f_l_hand_right T.d_l_hand_right ["_law_turn_so"] (Pure R_hand) := by
  refine T.F_l_hand_right.ok sc_l_hand_right (pure_len (n := 1) fun ds es ⟨_, e, _⟩ => by rw [e]; rfl) (fun cdv A outer s H vs Q E hr h => ⟨_, PSs.nox (pss_cons (ps_par (i := 1) (j := 2) rfl sc_l_hand_right.nd rfl rfl (by decide) rfl rfl (pa_cons (pe_call0 G_l_house (hr.mono (by decide)) (by rfl) T.g_l_house T.F_l_house.kp T.b_l_house .nil pass0) (pa_cons (pe_tup (pa_cons pe_int (pa_cons pe_int (pa_cons (pe_tup (pa_cons (pe_tup (pa_cons pe_int (pa_cons pe_int pa_nil))) pa_nil)) pa_nil)))) pa_nil)) rfl) (pss_cons (ps_set (i := 3) sc_l_hand_right.nd rfl (by first | exact Or.inl rfl | exact Or.inr rfl) (pe_lst (pa_cons (pe_call G_many_trees (hr.mono (by decide)) (by rfl) T.g_many_trees T.F_many_trees.kp T.b_many_trees .nil pass0 (pa_cons (pv 1) pa_nil)) (pa_cons (pe_call G_l_heard (hr.mono (by decide)) (by rfl) T.g_l_heard T.F_l_heard.kp T.b_l_heard .nil pass0 (pa_cons (pv 1) pa_nil)) (pa_cons (pe_call G_many_trees (hr.mono (by decide)) (by rfl) T.g_many_trees T.F_many_trees.kp T.b_many_trees .nil pass0 (pa_cons (pv 2) pa_nil)) (pa_cons (pe_call G_l_heard (hr.mono (by decide)) (by rfl) T.g_l_heard T.F_l_heard.kp T.b_l_heard .nil pass0 (pa_cons (pv 2) pa_nil)) (pa_cons (pe_call G_is_tree (hr.mono (by decide)) (by rfl) T.g_is_tree T.F_is_tree.kp T.b_is_tree .nil pass0 (pa_cons (pv 1) (pa_cons (pe_call0 G_l_house_tree (hr.mono (by decide)) (by rfl) T.g_l_house_tree T.F_l_house_tree.kp T.b_l_house_tree .nil pass0) pa_nil))) pa_nil))))))) (pss_cons (ps_set (i := 4) sc_l_hand_right.nd rfl (by first | exact Or.inl rfl | exact Or.inr rfl) (pe_lst (pa_cons pe_int pa_nil))) (pss_cons (ps_set (i := 5) sc_l_hand_right.nd rfl (by first | exact Or.inl rfl | exact Or.inr rfl) (pe_lst (pa_cons (pe_tup (pa_cons (pe_tup (pa_cons pe_int (pa_cons pe_int pa_nil))) (pa_cons (pe_tup (pa_cons pe_int (pa_cons pe_int pa_nil))) (pa_cons (pe_tup (pa_cons pe_int (pa_cons pe_int pa_nil))) pa_nil)))) (pa_cons (pe_tup (pa_cons (pe_tup (pa_cons pe_int (pa_cons pe_int pa_nil))) (pa_cons (pe_tup (pa_cons pe_int (pa_cons pe_int pa_nil))) (pa_cons (pe_tup (pa_cons pe_int (pa_cons pe_int pa_nil))) pa_nil)))) (pa_cons (pe_tup (pa_cons (pe_tup (pa_cons pe_int (pa_cons pe_int pa_nil))) (pa_cons (pe_tup (pa_cons pe_int (pa_cons pe_int pa_nil))) (pa_cons (pe_tup (pa_cons pe_int (pa_cons pe_int pa_nil))) pa_nil)))) (pa_cons (pe_tup (pa_cons (pe_tup (pa_cons pe_int (pa_cons pe_int pa_nil))) (pa_cons (pe_tup (pa_cons pe_int (pa_cons pe_int pa_nil))) (pa_cons (pe_tup (pa_cons pe_int (pa_cons pe_int pa_nil))) pa_nil)))) pa_nil)))))) (pss_cons (ps_set (i := 4) sc_l_hand_right.nd rfl (by first | exact Or.inl rfl | exact Or.inr rfl) (pe_op op_cat (pv 4) (pe_lst (pa_cons (pe_lc (own := [("_law_own", 9)]) rfl sc_l_hand_right.nd (show PI _ _ _ (iList K _) from pi_list (pv 5)) (blkOk_by (own := [("_law_own", 9)]) (N := ["_law_turn_so", "_law_house_here", "_law_lone", "_law_got", "_law_due", "_law_round_so", "_law_wide", "_law_six_so", "_law_more_so", "_law_own"]) (sc := defScope s_l_hand_right) (by decide +kernel)) (fun _ _ _ _ _ => pg_name (i := 9) sc_l_hand_right.nd rfl (by first | exact Or.inl rfl | exact Or.inr rfl)) (fun _ _ _ _ _ => pts_nil) (fun _ _ _ _ _ => (pe_op (show OpR _ _ (rCatA K) from op_catA) (pv 9) (pe_tup (pa_cons (pe_tup (pa_cons pe_int (pa_cons pe_int pa_nil))) (pa_cons (pe_tup (pa_cons pe_int (pa_cons pe_int pa_nil))) pa_nil)))))) pa_nil)))) (pss_cons (ps_set (i := 4) sc_l_hand_right.nd rfl (by first | exact Or.inl rfl | exact Or.inr rfl) (pe_op op_cat (pv 4) (pe_lst (pa_cons pe_int (pa_cons (pe_lst (pa_cons (pe_tup (pa_cons (pe_tup (pa_cons pe_int (pa_cons pe_int pa_nil))) pa_nil)) pa_nil)) (pa_cons pe_bl pa_nil)))))) (pss_cons (ps_set (i := 3) sc_l_hand_right.nd rfl (by first | exact Or.inl rfl | exact Or.inr rfl) (pe_op op_cat (pv 3) (pe_lst (pa_cons (pe_call G_many_trees (hr.mono (by decide)) (by rfl) T.g_many_trees T.F_many_trees.kp T.b_many_trees .nil pass0 (pa_cons (pe_call G_l_ring (hr.mono (by decide)) (by rfl) T.g_l_ring T.F_l_ring.kp T.b_l_ring .nil pass0 (pa_cons pe_int pa_nil)) pa_nil)) (pa_cons (pe_call G_many_trees (hr.mono (by decide)) (by rfl) T.g_many_trees T.F_many_trees.kp T.b_many_trees .nil pass0 (pa_cons (pe_call G_l_all_tied (hr.mono (by decide)) (by rfl) T.g_l_all_tied T.F_l_all_tied.kp T.b_l_all_tied .nil pass0 (pa_cons pe_int (pa_cons pe_int pa_nil))) pa_nil)) (pa_cons (pe_call G_many_trees (hr.mono (by decide)) (by rfl) T.g_many_trees T.F_many_trees.kp T.b_many_trees .nil pass0 (pa_cons (pe_call G_l_all_tied (hr.mono (by decide)) (by rfl) T.g_l_all_tied T.F_l_all_tied.kp T.b_l_all_tied .nil pass0 (pa_cons pe_int (pa_cons pe_int pa_nil))) pa_nil)) (pa_cons (pe_call G_l_heard (hr.mono (by decide)) (by rfl) T.g_l_heard T.F_l_heard.kp T.b_l_heard .nil pass0 (pa_cons (pe_call G_l_all_tied (hr.mono (by decide)) (by rfl) T.g_l_all_tied T.F_l_all_tied.kp T.b_l_all_tied .nil pass0 (pa_cons pe_int (pa_cons pe_int pa_nil))) pa_nil)) pa_nil))))))) (pss_cons (ps_set (i := 3) sc_l_hand_right.nd rfl (by first | exact Or.inl rfl | exact Or.inr rfl) (pe_op op_cat (pv 3) (pe_lst (pa_cons (pe_call G_l_is_bush (hr.mono (by decide)) (by rfl) T.g_l_is_bush T.F_l_is_bush.kp T.b_l_is_bush .nil pass0 (pa_cons (pv 1) (pa_cons (pe_call G_some_tree (hr.mono (by decide)) (by rfl) T.g_some_tree T.F_some_tree.kp T.b_some_tree .nil pass0 (pa_cons (pv 1) pa_nil)) pa_nil))) pa_nil)))) (pss_cons (ps_set (i := 4) sc_l_hand_right.nd rfl (by first | exact Or.inl rfl | exact Or.inr rfl) (pe_op op_cat (pv 4) (pe_lst (pa_cons pe_int (pa_cons pe_int (pa_cons pe_int (pa_cons (pe_lst (pa_cons pe_str (pa_cons pe_bl pa_nil))) (pa_cons pe_bl pa_nil)))))))) (pss_cons (ps_if (pt_cmpR op_eq (pv 0) pe_int (by first | exact nomark _ | rfl)) (pss_cons (ps_set (i := 6) sc_l_hand_right.nd rfl (by first | exact Or.inl rfl | exact Or.inr rfl) (pe_call G_l_all_tied (hr.mono (by decide)) (by rfl) T.g_l_all_tied T.F_l_all_tied.kp T.b_l_all_tied .nil pass0 (pa_cons pe_int (pa_cons pe_int pa_nil)))) (pss_cons (ps_set (i := 3) sc_l_hand_right.nd rfl (by first | exact Or.inl rfl | exact Or.inr rfl) (pe_op op_cat (pv 3) (pe_lst (pa_cons (pe_call G_many_trees (hr.mono (by decide)) (by rfl) T.g_many_trees T.F_many_trees.kp T.b_many_trees .nil pass0 (pa_cons (pv 6) pa_nil)) (pa_cons (pe_call G_many_trees (hr.mono (by decide)) (by rfl) T.g_many_trees T.F_many_trees.kp T.b_many_trees .nil pass0 (pa_cons (pe_call G_l_ring (hr.mono (by decide)) (by rfl) T.g_l_ring T.F_l_ring.kp T.b_l_ring .nil pass0 (pa_cons pe_int pa_nil)) pa_nil)) (pa_cons (pe_call G_l_is_bush (hr.mono (by decide)) (by rfl) T.g_l_is_bush T.F_l_is_bush.kp T.b_l_is_bush .nil pass0 (pa_cons (pv 6) (pa_cons (pe_call G_some_tree (hr.mono (by decide)) (by rfl) T.g_some_tree T.F_some_tree.kp T.b_some_tree .nil pass0 (pa_cons (pv 6) pa_nil)) pa_nil))) pa_nil)))))) (pss_one (ps_set (i := 4) sc_l_hand_right.nd rfl (by first | exact Or.inl rfl | exact Or.inr rfl) (pe_op op_cat (pv 4) (pe_lst (pa_cons (pe_op op_mul (pe_op op_pow pe_int pe_int) (pe_op op_pow pe_int pe_int)) (pa_cons pe_int (pa_cons pe_bl pa_nil))))))))) pss_nil) (pss_cons (ps_if (pt_cmpR op_eq (pv 0) pe_int (by first | exact nomark _ | rfl)) (pss_cons (ps_set (i := 7) sc_l_hand_right.nd rfl (by first | exact Or.inl rfl | exact Or.inr rfl) (pe_ix (show IxR _ (rIxT K) from ix_tup) (pe_call G_l_all_tied (hr.mono (by decide)) (by rfl) T.g_l_all_tied T.F_l_all_tied.kp T.b_l_all_tied .nil pass0 (pa_cons pe_int (pa_cons pe_int pa_nil))) pe_int (fun _ _ => rfl))) (pss_cons (ps_setLc (i := 8) (own := [("_law_own", 9)]) rfl sc_l_hand_right.nd rfl rfl (sw_true rfl rfl rfl (by decide +kernel)) (show PI _ _ _ (iTup K _) from pi_tup (pv 7)) (blkOk_by (own := [("_law_own", 9)]) (N := ["_law_turn_so", "_law_house_here", "_law_lone", "_law_got", "_law_due", "_law_round_so", "_law_wide", "_law_six_so", "_law_more_so", "_law_own"]) (sc := defScope s_l_hand_right) (by decide +kernel)) (fun _ _ _ _ _ => pg_name (i := 9) sc_l_hand_right.nd rfl (by first | exact Or.inl rfl | exact Or.inr rfl)) (fun _ _ _ _ _ => pts_nil) (fun _ _ _ _ _ => (pe_tup (pa_cons (pe_ifExp (pt_cmpR op_gt (pe_ix (show IxR _ (rIxT K) from ix_tup) (pv 9) pe_int (fun _ _ => rfl)) pe_int (by first | exact nomark _ | rfl)) (pe_op op_add (pe_ix (show IxR _ (rIxT K) from ix_tup) (pv 9) pe_int (fun _ _ => rfl)) pe_int) pe_int) (pa_cons (pe_op op_add (pe_ix (show IxR _ (rIxT K) from ix_tup) (pv 9) pe_int (fun _ _ => rfl)) pe_int) pa_nil))))) (pss_cons (ps_set (i := 3) sc_l_hand_right.nd rfl (by first | exact Or.inl rfl | exact Or.inr rfl) (pe_op op_cat (pv 3) (pe_lst (pa_cons (pe_callB (call_lenK (K := K) rfl) (by rfl) T.n_len (by decide +kernel) (pa_cons (pe_call G_l_heard (hr.mono (by decide)) (by rfl) T.g_l_heard T.F_l_heard.kp T.b_l_heard .nil pass0 (pa_cons (pe_call G_l_all_tied (hr.mono (by decide)) (by rfl) T.g_l_all_tied T.F_l_all_tied.kp T.b_l_all_tied .nil pass0 (pa_cons pe_int (pa_cons pe_int pa_nil))) pa_nil)) pa_nil)) (pa_cons (pe_call G_l_heard (hr.mono (by decide)) (by rfl) T.g_l_heard T.F_l_heard.kp T.b_l_heard .nil pass0 (pa_cons (pe_call G_l_all_tied (hr.mono (by decide)) (by rfl) T.g_l_all_tied T.F_l_all_tied.kp T.b_l_all_tied .nil pass0 (pa_cons pe_int (pa_cons pe_int pa_nil))) pa_nil)) (pa_cons (pe_call G_many_trees (hr.mono (by decide)) (by rfl) T.g_many_trees T.F_many_trees.kp T.b_many_trees .nil pass0 (pa_cons (pe_tup (pa_cons pe_int (pa_cons pe_int (pa_cons (pe_callTy (call_tupleK (K := K) rfl) (by rfl) T.n_tuple (by decide +kernel) (pa_cons (pe_callB (cr_sortQ hr.units) (by rfl) T.n_sorted (by decide +kernel) (pa_cons (pe_op (show OpR _ _ (rCatA K) from op_catA) (pv 7) (pe_callTy (call_tupleK (K := K) rfl) (by rfl) T.n_tuple (by decide +kernel) (pa_cons (pv 8) pa_nil))) pa_nil)) pa_nil)) pa_nil)))) pa_nil)) pa_nil)))))) (pss_one (ps_set (i := 4) sc_l_hand_right.nd rfl (by first | exact Or.inl rfl | exact Or.inr rfl) (pe_op op_cat (pv 4) (pe_lst (pa_cons pe_int (pa_cons (pe_lst (pa_cons pe_str (pa_cons pe_bl pa_nil))) (pa_cons pe_int pa_nil)))))))))) pss_nil) (pss_one (ps_ret (pe_call G_l_same (hr.mono (by decide)) (by rfl) T.g_l_same T.F_l_same.kp T.b_l_same .nil pass0 (pa_cons (pv 3) (pa_cons (pv 4) pa_nil)))))))))))))))), pure_run (fun ds es r => ?_) vs H Q E h⟩)
  obtain ⟨r, rfl, rfl⟩ := r
  obtain ⟨hw1, hw2, hw3, hw4⟩ := house_web
  obtain ⟨r4a, r4b, r4c⟩ := ring_srt (k := 4) (c := 8) (by decide)
  obtain ⟨r12a, r12b, r12c⟩ := ring_srt (k := 12) (c := 24) (by decide)
  obtain ⟨t33, c33⟩ := tied_in (m := 3) (n := 3) (by decide +kernel)
  obtain ⟨t19, c19⟩ := tied_in (m := 1) (n := 9) (by decide +kernel)
  obtain ⟨t44, c44⟩ := tied_in (m := 4) (n := 4) (by decide +kernel)
  obtain ⟨tw, cw⟩ := tied_in (m := 12) (n := 5) (by decide +kernel)
  obtain ⟨t27, c27⟩ := tied_in (m := 2) (n := 7) (by decide +kernel)
  obtain ⟨t35, c35⟩ := tied_in (m := 3) (n := 5) (by decide +kernel)
  obtain ⟨gw, gl, gc⟩ := hand_big
  have hH : tiesD houseX = tiesD houseX := rfl
  have l33 := tied_len 3 3
  have l19 := tied_len 1 9
  have l44 := tied_len 4 4
  have lw := tied_len 12 5
  have l27 := tied_len 2 7
  have l35 := tied_len 3 5
  refine rr_seq (rn_parDD (d := webD 3 3 houseT) (e := webD 1 1 [(0, 0)]) ?_ ?_) (rr_seq (rn_asg (d := .list hA) ?_) (rr_seq (rn_asg (d := .list [nI 4]) ?_) (rr_seq (rn_asg (d := .list (roundL.map tiesD)) ?_) (rr_seq (rn_asg (d := .list [nI 4, .list (houseL.map tiesD)]) ?_) (rr_seq (rn_asg (d := .list hA) ?_) (rr_seq (rn_asg (d := .list (hA ++ [nI 8, nI 81, nI 1, .list [.str "too many", .bool true]])) ?_) (rr_seq (rn_asg (d := .list (hA ++ hB)) ?_) (rr_seq (rn_asg (d := .list (hA ++ hB)) ?_) (rr_seq (ρ' := [.dat (nI r), .dat (webD 3 3 houseT), .dat (webD 1 1 [(0, 0)]), .dat (.list (hA ++ hB ++ if r = 0 then hC else [])), .dat (.list (hA ++ hB ++ if r = 0 then hC else [])), .dat (.list (roundL.map tiesD)), .no, .no, .no, .no]) (rn_if (b := decide (r = 0)) ?_ (fun hb => ?_) fun hb => ?_) (rr_seq (ρ' := [.dat (nI r), .dat (webD 3 3 houseT), .dat (webD 1 1 [(0, 0)]), .dat (.list ((hA ++ hB ++ if r = 0 then hC else []) ++ if r = 1 then hD else [])), .dat (.list ((hA ++ hB ++ if r = 0 then hC else []) ++ if r = 1 then hD else [])), .dat (.list (roundL.map tiesD)), .no, .no, .no, .no]) (rn_if (b := decide (r = 1)) ?_ (fun hb => ?_) fun hb => ?_) (rr_ret ?_)))))))))))
  · exact ed_call ea_nil ⟨rfl, rfl⟩
  · exact ed_tup (ea_cons ed_int (ea_cons ed_int (ea_cons (ed_is (d := .tuple [tieD (0, 0)]) (ed_tup (ea_cons ed_tieN ea_nil) (len_ok rfl)) rfl) ea_nil))) (len_ok rfl)
  · refine EL.ed (el_lst (ea_cons (ed_many (ed_var rfl) (tp_webD (by decide)) hw1 (by decide) (by decide) hw2) (ea_cons (EL.ed (el_heard (ed_var rfl) (tp_webD (by decide)) hw1 (by decide) (by decide) (by rw [hw2]; decide) house_trees)) (ea_cons (ed_many (ed_var rfl) (tp_webD (by decide)) hw3 (by decide) (by decide) hw4) (ea_cons (EL.ed (el_heard (ed_var rfl) (tp_webD (by decide)) hw3 (by decide) (by decide) (by rw [hw4]; decide) lone_trees)) (ea_cons (ed_call (ds := [webD 3 3 houseT, tiesD houseX]) (ea_cons (ed_var rfl) (ea_cons (ed_call ea_nil ⟨rfl, rfl⟩) ea_nil)) ⟨_, 3, 3, houseT, houseX, tp_webD (by decide), hw1, by decide, by decide, house_asc, rfl, houseX_in, rfl, by rw [houseX_one]⟩) ea_nil))))) (len_ok rfl))
  · exact EL.ed (el_lst (ea_cons ed_int ea_nil) (len_ok rfl))
  · exact ed_is (d := .list [.tuple [tieD (0, 0), tieD (0, 1), tieD (1, 0)], .tuple [tieD (0, 0), tieD (0, 1), tieD (1, 1)], .tuple [tieD (0, 0), tieD (1, 0), tieD (1, 1)], .tuple [tieD (0, 1), tieD (1, 0), tieD (1, 1)]]) (EL.ed (el_lst (ea_cons (ed_tup (ea_cons ed_tieN (ea_cons ed_tieN (ea_cons ed_tieN ea_nil))) (len_ok rfl)) (ea_cons (ed_tup (ea_cons ed_tieN (ea_cons ed_tieN (ea_cons ed_tieN ea_nil))) (len_ok rfl)) (ea_cons (ed_tup (ea_cons ed_tieN (ea_cons ed_tieN (ea_cons ed_tieN ea_nil))) (len_ok rfl)) (ea_cons (ed_tup (ea_cons ed_tieN (ea_cons ed_tieN (ea_cons ed_tieN ea_nil))) (len_ok rfl)) ea_nil)))) (len_ok rfl))) rfl
  · refine EL.ed (el_op (d := .list [nI 4]) (e := .list [.list (houseL.map tiesD)]) (ed_var rfl) (EL.ed (el_lst (ea_cons (EL.ed (el_is (el_lcE tiesD (fun x => tiesD (x ++ [(2, 1), (2, 2)])) roundL (src_list (ed_var rfl)) (by decide) fun x hx => ?_) ?_)) ea_nil) (len_ok rfl))) (r2_cat (by decide)))
    · have hl : x.length ≤ 3 := of_decide_eq_true (List.all_eq_true.mp (show (roundL.all fun x => decide (x.length ≤ 3)) = true by decide +kernel) x hx)
      refine ed_is (ed_op (ed_var rfl) (ed_tup (ea_cons ed_tieN (ea_cons ed_tieN ea_nil)) (len_ok rfl)) (r2_catA (ds := x.map tieD) (es := [tieD (2, 1), tieD (2, 2)]) (by rw [List.length_map]; show _ + 2 ≤ _; omega))) ?_
      unfold tiesD
      rw [List.map_append]
      rfl
    · rw [← round_house, List.map_map]
      rfl
  · refine EL.ed (el_op (d := .list [nI 4, .list (houseL.map tiesD)]) (e := .list [nI 1, .list ([[(0, 0)]].map tiesD), .bool true]) (ed_var rfl) (EL.ed (el_lst (ea_cons ed_int (ea_cons (EL.ed (el_lst (ea_cons (ed_is (d := .tuple [tieD (0, 0)]) (ed_tup (ea_cons ed_tieN ea_nil) (len_ok rfl)) rfl) ea_nil) (len_ok rfl))) (ea_cons ed_bl ea_nil))) (len_ok rfl))) (r2_cat (by decide)))
  · refine EL.ed (el_op (d := .list hA) (ed_var rfl) (EL.ed (el_lst (ea_cons (ed_many (ed_ring (m := 4) ed_int (by decide) (by decide)) (tp_webD (by omega)) r4a (by decide) (by omega) r4c) (ea_cons (ed_many (ed_tied (m := 3) (n := 3) ed_int ed_int (by decide) (by decide)) (tp_webD (by omega)) t33 (by decide) (by omega) (c33.trans (by decide))) (ea_cons (ed_many (ed_tied (m := 1) (n := 9) ed_int ed_int (by decide) (by decide)) (tp_webD (by omega)) t19 (by decide) (by omega) (c19.trans (by decide))) (ea_cons (EL.ed (el_heardZ (ed_tied (m := 4) (n := 4) ed_int ed_int (by decide) (by decide)) (tp_webD (by omega)) t44 (by decide) (by omega) (by rw [c44]; decide +kernel))) ea_nil)))) (len_ok rfl))) (r2_cat (Nat.le_of_ble_eq_true rfl)))
  · refine EL.ed (el_is (el_op (d := .list (hA ++ [nI 8, nI 81, nI 1, .list [.str "too many", .bool true]])) (e := .list [.bool true]) (ed_var rfl) (EL.ed (el_lst (ea_cons (ed_bush (ed_var rfl) (ed_var rfl) (tp_webD (by decide)) hw1 (by decide) (by decide)) ea_nil) (len_ok rfl))) (r2_cat (Nat.le_of_ble_eq_true rfl))) rfl)
  · refine EL.ed (el_op (d := .list hA) (e := .list hB) (ed_var rfl) (EL.ed (el_lst (ea_cons ed_int (ea_cons ed_int (ea_cons ed_int (ea_cons (EL.ed (el_lst (ea_cons ed_str (ea_cons ed_bl ea_nil)) (len_ok rfl))) (ea_cons ed_bl ea_nil))))) (len_ok rfl))) (r2_cat (Nat.le_of_ble_eq_true rfl)))
  · exact et_test (ed_op (ed_var rfl) ed_int (r2_eqIb (nI_beq r 0)))
  · rw [if_pos (of_decide_eq_true hb)]
    refine rn_is (rn_lose 6 (rn_seq (rn_asg (i := 6) (d := webD 12 5 (tiedT 12 5)) (ed_tied (m := 12) (n := 5) ed_int ed_int (by decide) (by decide))) (rn_seq (rn_asg (i := 3) (d := .list (hA ++ hB ++ hC)) ?_) (rn_asg (i := 4) (d := .list (hA ++ hB ++ hC)) ?_)))) rfl
    · refine EL.ed (el_op (d := .list (hA ++ hB)) (e := .list hC) (ed_var rfl) (EL.ed (el_lst (ea_cons (ed_many (ed_var rfl) (tp_webD (by omega)) tw (by decide) (by omega) cw) (ea_cons (ed_many (ed_ring (m := 12) ed_int (by decide) (by decide)) (tp_webD (by omega)) r12a (by decide) (by omega) r12c) (ea_cons (ed_bush (ed_var rfl) (ed_var rfl) (tp_webD (by omega)) tw (by decide) (by omega)) ea_nil))) (len_ok rfl))) (r2_cat (Nat.le_of_ble_eq_true rfl)))
    · refine EL.ed (el_op (d := .list (hA ++ hB)) (e := .list hC) (ed_var rfl) (EL.ed (el_lst (ea_cons (ed_op (d := .int (12 ^ 4)) (e := .int (5 ^ 11)) (ed_op ed_int ed_int (r2_I ⟨by decide, by decide, by decide⟩ fun _ => .int _)) (ed_op ed_int ed_int (r2_I ⟨by decide, by decide, by decide⟩ fun _ => .int _)) (r2_I (.inl ⟨by decide, by decide⟩) fun _ => ?_)) (ea_cons ed_int (ea_cons ed_bl ea_nil))) (len_ok rfl))) (r2_cat (Nat.le_of_ble_eq_true rfl)))
      exact (show ((12 : Int) ^ 4 * 5 ^ 11) = ((vt 12 5 : Nat) : Int) by decide +kernel) ▸ .int _
  · rw [if_neg (of_decide_eq_false hb), List.append_nil]
    exact rn_is rn_next rfl
  · exact et_test (ed_op (ed_var rfl) ed_int (r2_eqIb (nI_beq r 1)))
  · have h1 : r = 1 := of_decide_eq_true hb
    rw [if_pos h1, if_neg (by omega), List.append_nil]
    refine rn_is (rn_lose 8 (rn_lose 7 (rn_seq (rn_asg (i := 7) (d := tiesD (tiedT 5 6)) ?_) (rn_seq (rn_asg (i := 8) (d := .list (((tiedT 5 6).map (shiftT 5 6)).map tieD)) (EL.ed (el_is (el_lcE tieD (fun t => tieD (shiftT 5 6 t)) (tiedT 5 6) (src_tup (ed_var rfl)) (by rw [tied_len]; decide) fun t ht => ?_) ?_))) (rn_seq (rn_asg (i := 3) (d := .list (hA ++ hB ++ hD)) ?_) (rn_asg (i := 4) (d := .list (hA ++ hB ++ hD)) ?_)))))) rfl
    · exact ed_op (ed_tied (m := 5) (n := 6) ed_int ed_int (by decide) (by decide)) ed_int (r2_ixT rfl)
    · refine ed_tie (ed_if (b := decide (0 < t.1)) ?_ (fun hc => ?_) fun hc => ?_) ?_
      · refine et_test (ed_op (d := nI t.1) ?_ ed_int (r2_B (decide_eq_decide.mpr (by omega))))
        exact ed_op (ed_var rfl) ed_int (r2_ixT rfl)
      · refine ed_op (d := nI t.1) (ed_op (ed_var rfl) ed_int (r2_ixT rfl)) ed_int (r2_N ?_)
        show (t.1 : Int) + 4 = (((if 0 < t.1 then t.1 + 5 - 1 else 0 : Nat)) : Int)
        rw [if_pos (of_decide_eq_true hc)]
        omega
      · refine ed_is ed_int ?_
        show PyData.int 0 = .int (((if 0 < t.1 then t.1 + 5 - 1 else 0 : Nat)) : Int)
        rw [if_neg (of_decide_eq_false hc)]
        rfl
      · exact ed_op (d := nI t.2) (ed_op (ed_var rfl) ed_int (r2_ixT rfl)) ed_int (r2_N rfl)
    · rw [List.map_map]
      rfl
    · refine EL.ed (el_op (d := .list (hA ++ hB)) (e := .list hD) (ed_var rfl) (EL.ed (el_lst (ea_cons (ed_cb (ea_cons (EL.ed (el_heard (L := srtT (treesW 2 7 (tiedT 2 7))) (ed_tied (m := 2) (n := 7) ed_int ed_int (by decide) (by decide)) (tp_webD (by omega)) t27 (by decide) (by omega) (by rw [c27]; decide +kernel) rfl)) ea_nil) (rc_lenN (.inl rfl) ?_)) (ea_cons (EL.ed (el_heardZ (ed_tied (m := 3) (n := 5) ed_int ed_int (by decide) (by decide)) (tp_webD (by omega)) t35 (by decide) (by omega) (by rw [c35]; decide +kernel))) (ea_cons (ed_many (ed_tup (ea_cons ed_int (ea_cons ed_int (ea_cons (ed_cb (ea_cons (EL.ed (el_is (el_cb (ea_cons (ed_op (ed_var rfl) (ed_cb (ea_cons (ed_var rfl) ea_nil) (rc_tupleOf (.inl rfl))) (r2_catA ?_)) ea_nil) (rc_sortQ (ds := (tiedT 5 6 ++ (tiedT 5 6).map (shiftT 5 6)).map tieD) (.inr ?_) (all_alike1 _) (sortable1 _) ?_ (dep1 _))) (map_srt1 _))) ea_nil) (rc_tupleOf (.inl rfl))) ea_nil))) (len_ok rfl)) (tp_webD (by omega)) gw (by decide) (by omega) gc) ea_nil))) (len_ok rfl))) (r2_cat (Nat.le_of_ble_eq_true rfl)))
      · rw [List.length_map, (srtT_perm _).length_eq, treesW_len, c27]
        decide +kernel
      · rw [List.length_map, List.length_map, List.length_map, tied_len]
        decide
      · rw [List.map_append]
      · rw [List.length_map, List.length_append, List.length_map, tied_len]
        decide
    · refine EL.ed (el_op (d := .list (hA ++ hB)) (e := .list hD) (ed_var rfl) (EL.ed (el_lst (ea_cons ed_int (ea_cons (EL.ed (el_lst (ea_cons ed_str (ea_cons ed_bl ea_nil)) (len_ok rfl))) (ea_cons ed_int ea_nil))) (len_ok rfl))) (r2_cat (Nat.le_of_ble_eq_true rfl)))
  · have e : (if r = 1 then hD else []) = [] := if_neg (of_decide_eq_false hb)
    rw [e, List.append_nil]
    exact rn_is rn_next rfl
  · refine ed_call (ea_cons (ed_var rfl) (ea_cons (ed_var rfl) ea_nil)) ⟨_, rfl, Sm.lst 5 _ (fun z hz => ?_) ?_, rfl⟩
    · obtain ⟨s1, s2, s3, s4⟩ := sm_hand
      rcases List.mem_append.mp hz with hz | hz
      · rcases List.mem_append.mp hz with hz | hz
        · rcases List.mem_append.mp hz with hz | hz
          · exact s1 z hz
          · exact s2 z hz
        · split at hz
          · exact s3 z hz
          · cases hz
      · split at hz
        · exact s4 z hz
        · cases hz
    · have l1 : hA.length = 5 := rfl
      have l2 : hB.length = 5 := rfl
      have l3 : (if r = 0 then hC else []).length ≤ 3 := by split <;> first | exact Nat.le_refl _ | exact Nat.zero_le _
      have l4 : (if r = 1 then hD else []).length ≤ 3 := by split <;> first | exact Nat.le_refl _ | exact Nat.zero_le _
      rw [List.length_append, List.length_append, List.length_append]
      omega

end
end K4P
end

section
set_option Elab.async false
set_option linter.all false
set_option maxRecDepth 100000
set_option maxHeartbeats 4000000
namespace K4P
open PySem PySem.Spec L2 RZ DD K4
open PyProof.Rows (firstMet)
local macro_rules | `(tactic| walk_at "ed") => `(tactic| (repeat' (first
  | (with_reducible (first | exact ed_int | exact ed_bl | exact ed_str | exact ed_non | exact ea_nil | exact et_yes _ | apply ea_cons | apply ed_tup | apply r2_B | apply r2_eqIb | apply r2_neIb | exact r2_I0 (fun _ => Dq.int _) | exact rc_abs | exact rc_intI | exact rc_intB | exact rc_min | exact rc_max | exact r2_isN | apply ed_isi | apply ed_andT | apply ed_andV | apply ed_notV | apply ed_notF | apply ed_op | apply ed_un | apply et_val | apply et_test | apply et_not | apply et_notF | apply et_notT | apply ed_call | apply ed_cb | apply ed_chainT | apply et_orF | apply et_andT))
  | ((with_reducible apply ed_var); exact rfl) | ((with_reducible apply len_ok); exact rfl) | ((with_reducible apply kits); exact rfl) | exact (rfl : decide _ = _) | exact (rfl : (_ == _) = _) | exact nI_beq _ _
  | ((with_reducible apply r2_ixTu); exact r2_ixT rfl) | ((with_reducible apply r2_ixLu); exact r2_ixL rfl) | ((with_reducible apply rc_u); first | exact rc_len (.inr rfl) | exact rc_len (.inl rfl)))))
section
variable {P : Program} {w : World} {K : PySem.W.Frag} {mg : Str → Option Value} {base : Heap} (T : Tx K mg)
theorem ok_take : FnOk P w K mg base CX0 1 T.f_l_take T.d_l_take ["_law_tin", "_law_below_so"] S_take := by
  refine T.F_l_take.ok sc_l_take (fun vs H Q E ⟨_, _, _, _, _, _, e, _⟩ => by rw [e]; rfl) (fun cdv A outer s H vs Q E hr h => ⟨_, PSs.nox (pss_cons (ps_if (pt_cmpR op_gt (pe_ix (show IxR _ (rIxL K) from ix_list) (pv 0) pe_int (fun _ _ => rfl)) pe_int (by first | exact nomark _ | rfl)) (pss_cons (ps_set (i := 2) sc_l_take.nd rfl (by first | exact Or.inl rfl | exact Or.inr rfl) (pe_op op_mod (pe_callTy call_int1 (by rfl) T.n_int (by decide +kernel) (pa_cons (pe_ix (show IxR _ (rIxL K) from ix_list) (pv 0) pe_int (fun _ _ => rfl)) pa_nil)) (pv 1))) (pss_cons (ps_asg (pe_op op_fdiv (pe_ix (show IxR _ (rIxL K) from ix_list) (pv 0) pe_int (fun _ _ => rfl)) (pv 1)) (pg_sub (pv 0) pe_int set_list)) (pss_one (ps_ret (pv 2))))) pss_nil) (pss_cons (ps_asg (pe_op op_add (pe_ix (show IxR _ (rIxL K) from ix_list) (pv 0) pe_int (fun _ _ => rfl)) pe_int) (pg_sub (pv 0) pe_int set_list)) (pss_cons (ps_set (i := 3) sc_l_take.nd rfl (by first | exact Or.inl rfl | exact Or.inr rfl) (pe_op op_mod (pe_callTy call_int1 (by rfl) T.n_int (by decide +kernel) (pa_cons (pe_op op_mul (pe_op op_add (pe_ix (show IxR _ (rIxL K) from ix_list) (pv 0) pe_int (fun _ _ => rfl)) (pe_op op_mul pe_int (pe_ix (show IxR _ (rIxL K) from ix_list) (pv 0) pe_int (fun _ _ => rfl)))) (pe_op op_add pe_int (pe_ix (show IxR _ (rIxL K) from ix_list) (pv 0) pe_int (fun _ _ => rfl)))) pa_nil)) pe_int)) (pss_cons (ps_set (i := 4) sc_l_take.nd rfl (by first | exact Or.inl rfl | exact Or.inr rfl) (pe_op op_add (pe_op op_mod (pe_callTy call_int1 (by rfl) T.n_int (by decide +kernel) (pa_cons (pv 3) pa_nil)) pe_int) pe_int)) (pss_cons (ps_set (i := 5) sc_l_take.nd rfl (by first | exact Or.inl rfl | exact Or.inr rfl) (pe_op op_mod (pe_callTy call_int1 (by rfl) T.n_int (by decide +kernel) (pa_cons (pe_op op_mul (pe_op op_add (pe_op op_add (pv 3) (pe_ix (show IxR _ (rIxL K) from ix_list) (pv 0) pe_int (fun _ _ => rfl))) (pe_op op_fdiv (pe_ix (show IxR _ (rIxL K) from ix_list) (pv 0) pe_int (fun _ _ => rfl)) pe_int)) (pv 4)) pa_nil)) pe_int)) (pss_one (ps_ret (pe_op op_mod (pe_callTy call_int1 (by rfl) T.n_int (by decide +kernel) (pa_cons (pe_op op_fdiv (pe_op op_mod (pe_callTy call_int1 (by rfl) T.n_int (by decide +kernel) (pa_cons (pe_op op_add (pe_op op_mul (pv 5) pe_int) (pv 3)) pa_nil)) pe_int) pe_int) pa_nil)) (pv 1))))))))), ?_⟩)
  obtain ⟨p, n, a, b, c, k, rfl, hn, hn2, hp, tb, hk, q⟩ := h
  obtain ⟨t1, t2, t3, t4⟩ := tb
  have hat : ∀ H : Hp, ∀ a c : Int, H p = some (.lst (tinV a b c)) → ∀ σ : L2.St, σ[0]? = some (some (.ref p)) → JI (tOp (rIxL K) (tVar 0) (tC (.int 0))) σ H a ∧ JI (tOp (rIxL K) (tVar 0) (tC (.int 1))) σ H b ∧ JI (tOp (rIxL K) (tVar 0) (tC (.int 2))) σ H c := fun H a c hp σ hs =>
    ⟨ji_at hs hp ji_int rfl, ji_at hs hp ji_int rfl, ji_at hs hp ji_int rfl⟩
  refine j_ifr (jb_op (hat H a c hp _ rfl).1 ji_int) (fun hb => ?_) fun hb => ?_
  · refine j_asg (ji_opC (ji_cast (hat H a c hp _ rfl).1) (ji_var rfl) hn) ?_
    refine j_store (p := p) (ji_opC (hat H a c hp _ rfl).1 (ji_var rfl) ⟨hn, by omega⟩) rfl hp ji_int rfl ?_
    exact j_ret (ji_var rfl) (q (a % n) (a / n) c (Int.emod_nonneg _ (by omega)) (Int.emod_lt_of_pos _ hn) ⟨t1, t2, t3, by omega⟩)
  · refine j_store (p := p) (ji_op (hat H a c hp _ rfl).2.2 ji_int) rfl hp ji_int rfl ?_
    have hp2 : (upd H p (.lst (tinV a b (c + 1)))) p = some (.lst (tinV a b (c + 1))) := upd_same
    show tSeq _ _ _ _ (upd H p (.lst (tinV a b (c + 1))))
    refine j_asg (ji_opC (ji_cast (ji_opC (ji_op (hat _ a (c + 1) hp2 _ rfl).2.1 (ji_opC ji_int (hat _ a (c + 1) hp2 _ rfl).2.2 (.inl ⟨by decide, by decide⟩))) (ji_op ji_int (hat _ a (c + 1) hp2 _ rfl).2.2) (.inr ⟨by omega, by omega⟩))) ji_int (by decide)) ?_
    generalize ((b + 48271 * (c + 1)) * (39373 + (c + 1))) % 2147483647 = x
    refine j_asg (ji_op (ji_opC (ji_cast (ji_var rfl)) ji_int (by decide)) ji_int) ?_
    have w0 : 0 ≤ x % 40009 := Int.emod_nonneg _ (by decide)
    have w1 : x % 40009 < 40009 := Int.emod_lt_of_pos _ (by decide)
    obtain ⟨y, hy, y0, y1⟩ : ∃ y, y = x % 40009 + 7 ∧ 0 ≤ y ∧ y < 50000 := ⟨_, rfl, by omega, by omega⟩
    rw [← hy]
    refine j_asg (ji_opC (ji_cast (ji_opC (ji_op (ji_op (ji_var rfl) (hat _ a (c + 1) hp2 _ rfl).2.2) (ji_opC (hat _ a (c + 1) hp2 _ rfl).2.1 ji_int ⟨by decide, by decide⟩)) (ji_var rfl) (.inr ⟨by omega, by omega⟩))) ji_int (by decide)) ?_
    generalize ((x + (c + 1) + b / 1000003) * y) % 2147483629 = z
    refine j_ret (ji_opC (ji_cast (ji_opC (ji_opC (ji_cast (ji_op (ji_opC (ji_var rfl) ji_int (.inr ⟨by decide, by decide⟩)) (ji_var rfl))) ji_int (by decide)) ji_int ⟨by decide, by decide⟩)) (ji_var rfl) hn) ?_
    exact q _ a (c + 1) (Int.emod_nonneg _ (by omega)) (Int.emod_lt_of_pos _ hn) ⟨t1, t2, by omega, by omega⟩
theorem ok_of (G_l_take : FnOk P w K mg base CX0 1 T.f_l_take T.d_l_take ["_law_tin", "_law_below_so"] S_take) : FnOk P w K mg base CX0 2 T.f_l_of T.d_l_of ["_law_tin", "_law_goods_so"] S_of := by
  refine T.F_l_of.ok sc_l_of (fun vs H Q E ⟨_, _, _, _, _, _, _, e, _⟩ => by rw [e]; rfl) (fun cdv A outer s H vs Q E hr h => ⟨_, PSs.nox (pss_one (ps_ret (pe_ix (show IxR _ (rIxL K) from ix_list) (pv 1) (pe_call G_l_take (hr.mono (by decide)) (by rfl) T.g_l_take T.F_l_take.kp T.b_l_take .nil pass0 (pa_cons (pv 0) (pa_cons (pe_callB (call_lenK (K := K) rfl) (by rfl) T.n_len (by decide +kernel) (pa_cons (pv 1) pa_nil)) pa_nil))) (fun _ _ => rfl)))), ?_⟩)
  obtain ⟨p, q, ns, a, b, c, k, rfl, hpq, hq, hl, hl2, hp, tb, hk, kk⟩ := h
  refine ⟨.ref q, rfl, .ref p, rfl, .ref q, rfl, q, ns.map V.int, rfl, .inl (.inl (.inl hq)), p, (ns.length : Int), a, b, c, k, by rw [List.length_map]; rfl, by omega, by omega, hp, tb, hk, fun r a' c' h0 h1 tb' => ?_⟩
  obtain ⟨i, rfl⟩ : ∃ i : Nat, r = (i : Int) := ⟨r.toNat, by omega⟩
  have hi : i < ns.length := by omega
  refine ⟨q, ns.map V.int, (i : Int), .int ns[i], rfl, rfl, .inl (.inl (by rw [upd_ne (Ne.symm hpq)]; exact hq)), ?_, kk ns[i] a' c' (List.getElem_mem hi) tb'⟩
  exact atI_nat (by rw [List.getElem?_map, List.getElem?_eq_getElem hi]; rfl)
def Dom_pick (ds : List PyData) : Prop := ∃ xs : List PyData, ds = [.list xs, .int (xs.length : Nat)] ∧ xs.length ≤ 100
def R_pick (ds : List PyData) (d : PyData) : Prop := ∃ xs ys : List PyData, ds = [.list xs, .int (xs.length : Nat)] ∧ ys.Perm xs ∧ d = .list ys
theorem ok_pick (G_l_take : FnOk P w K mg base CX0 1 T.f_l_take T.d_l_take ["_law_tin", "_law_below_so"] S_take) : FnOk P w K mg base CX0 2 T.f_l_pick T.d_l_pick ["_law_tin", "_law_goods_so", "_law_count_so"] (DrawT 100 Dom_pick R_pick) := by
  refine T.F_l_pick.ok sc_l_pick (draw_len (m := 3) fun ds ⟨_, e, _⟩ => by rw [e]; rfl) (fun cdv A outer s H vs Q E hr h => ⟨_, PSs.nox (pss_cons (ps_par (i := 3) (j := 4) rfl sc_l_pick.nd rfl rfl (by decide) rfl rfl (pa_cons (pe_callTy (call_listK (K := K) rfl) (by rfl) T.n_list (by decide +kernel) (pa_cons (pv 1) pa_nil)) (pa_cons (pe_lst pa_nil) pa_nil)) rfl) (pss_cons (ps_for PassesOwn.never rfl (pi_range1 (by rfl) T.n_range (pa_cons (pe_callB (call_min2 rfl) (by rfl) T.n_min (by decide +kernel) (pa_cons (pe_callTy call_int1 (by rfl) T.n_int (by decide +kernel) (pa_cons (pv 2) pa_nil)) (pa_cons (pe_callB (call_lenK (K := K) rfl) (by rfl) T.n_len (by decide +kernel) (pa_cons (pv 3) pa_nil)) pa_nil))) pa_nil)) (pg_name (i := 5) sc_l_pick.nd rfl (by first | exact Or.inl rfl | exact Or.inr rfl)) (pss_one (ps_expr (show PE _ _ (tBM K _ _ _ _) from pe_bm PySem.F.plainAttrs_list PySem.F.slot_list_append PySem.F.type_list_append mt_append (pv 4) (pa_cons (show PE _ _ (tBM K _ _ _ _) from pe_bm PySem.F.plainAttrs_list PySem.F.slot_list_pop PySem.F.type_list_pop mt_popAt (pv 3) (pa_cons (pe_call G_l_take (hr.mono (by decide)) (by rfl) T.g_l_take T.F_l_take.kp T.b_l_take .nil pass0 (pa_cons (pv 0) (pa_cons (pe_callB (call_lenK (K := K) rfl) (by rfl) T.n_len (by decide +kernel) (pa_cons (pv 3) pa_nil)) pa_nil))) pa_nil)) pa_nil))))) (pss_one (ps_ret (pv 4))))), draw_run (fun ds a b c k hd tb hk => ?_) vs H Q E h⟩)
  obtain ⟨xs, rfl, hl⟩ := hd
  let env : Int → Int → Int → List PyData → List PyData → DD.Env := fun a b c pool found => [.own (tin a b c), .dat (.list xs), .dat (.int (xs.length : Nat)), .own pool, .own found, .no]
  refine txr_seq (B := (· = env a b c xs [])) (tx_parLL (by decide) (by decide) (by decide) (el_cb (ea_cons (ed_var rfl) ea_nil) (rc_listOf (.inl rfl))) (el_lst ea_nil (len_ok rfl)) rfl) ?_
  let I : Nat → Nat → DD.Env → Prop := fun n i ρ => ∃ a b c pool found, ρ = env a b c pool found ∧ TB b c (k + i) ∧ n = xs.length ∧ found.length = i ∧ (found ++ pool).Perm xs
  refine txr_seq (B := I xs.length xs.length) (tx_forR I (fun ρ e => ?_) (fun n i hi ρ ⟨a, b, c, pool, found, e, tb, hn, hf, hp⟩ => ?_) fun n ρ ⟨a, b, c, pool, found, e, tb, hn, hf, hp⟩ => ?_) (txr_retO (by decide) fun ρ ⟨a, b, c, pool, found, e, tb, hn, hf, hp⟩ => ?_)
  · subst e
    refine fun Hi0 Hi H0 H σ s Q kk => ?_
    obtain ⟨v, h1, h2⟩ := s.dat 2 _ rfl
    obtain ⟨q, ws, g1, g2, g3, g4, g5⟩ := s.own 3 _ rfl
    rw [h2.int_inv] at h1
    refine ⟨_, h1, .inl ⟨_, rfl, _, g1, q, ws, rfl, .inl (.inl (.inl g2)), (xs.length : Int), (ws.length : Int), rfl, ?_⟩⟩
    have hw : ws.length = xs.length := g5.len
    rw [hw, if_neg (by omega)]
    exact kk _ _ _ H0 H ⟨xs.length, rfl, by omega, a, b, c, xs, [], rfl, by rw [Int.natCast_zero, Int.add_zero]; exact tb, rfl, rfl, List.Perm.refl _⟩ (Same.refl _) s (.int _)
  · subst e
    have hpl : pool.length + i = xs.length := by
      have := hp.length_eq
      rw [List.length_append] at this
      omega
    refine ⟨[(5, .int (i : Int))], tgt_name, fun u hu => by rw [List.mem_singleton.mp hu]; show 5 ∉ [0]; decide, ?_⟩
    refine tx_imp (tx_lose (j := 5) (B := fun ρ => ∃ a b c pool' found', ρ = [.own (tin a b c), .dat (.list xs), .dat (.int (xs.length : Nat)), .own pool', .own found', .dat (.int (i : Int))] ∧ TB b c (k + (i + 1 : Nat)) ∧ found'.length = i + 1 ∧ (found' ++ pool').Perm xs) (tx_app (by decide) fun ρ e => ⟨⟨found, by rw [e]; rfl⟩, ?_⟩)) fun ρ ⟨ρ0, ⟨a, b, c, pool', found', e, tb, h1, h2⟩, e2⟩ => ?_
    · subst e
      refine ex_pop ⟨pool, rfl⟩ (ex_take (a := a) (b := b) (c := c) rfl (ex_lenO (ds := pool) rfl ⟨(pool.length : Int), a, b, c, k + i, rfl, by omega, by omega, rfl, tb, by omega, fun r a' c' h0 h1 tb' => ?_⟩))
      obtain ⟨j, rfl⟩ : ∃ j : Nat, r = (j : Int) := ⟨r.toNat, by omega⟩
      have hj : j < pool.length := by omega
      refine ⟨pool, j, pool[j], rfl, rfl, List.getElem?_eq_getElem hj, by omega, found, rfl, by omega, a', b, c', pool.eraseIdx j, found ++ [pool[j]], rfl, ?_, by rw [List.length_append, hf]; rfl, ?_⟩
      · rw [Int.natCast_add, ← Int.add_assoc]
        exact tb'
      · rw [List.append_assoc]
        exact ((erase_perm pool j hj).append_left found).trans hp
    · subst e
      subst e2
      exact ⟨a, b, c, pool', found', rfl, tb, hn, h1, h2⟩
  · subst hn
    exact ⟨a, b, c, pool, found, e, tb, rfl, hf, hp⟩
  · subst e
    have hpl : pool = [] := by
      have := hp.length_eq
      rw [List.length_append] at this
      exact List.eq_nil_of_length_eq_zero (by omega)
    subst hpl
    rw [List.append_nil] at hp
    exact ⟨found, rfl, ⟨xs, found, rfl, hp, rfl⟩, a, b, c, rfl, tb.1, tb.2.1, tb.2.2.1, by have := tb.2.2.2; omega⟩

end
end K4P
end

section
set_option Elab.async false
set_option linter.all false
set_option maxRecDepth 100000
set_option maxHeartbeats 4000000
namespace K4P
open PySem PySem.Spec L2 RZ DD K4
open PyProof.Rows (firstMet)
local macro_rules | `(tactic| walk_at "ed") => `(tactic| (repeat' (first
  | (with_reducible (first | exact ed_int | exact ed_bl | exact ed_str | exact ed_non | exact ea_nil | exact et_yes _ | apply ea_cons | apply ed_tup | apply r2_B | apply r2_eqIb | apply r2_neIb | exact r2_I0 (fun _ => Dq.int _) | exact rc_abs | exact rc_intI | exact rc_intB | exact rc_min | exact rc_max | exact r2_isN | apply ed_isi | apply ed_andT | apply ed_andV | apply ed_notV | apply ed_notF | apply ed_op | apply ed_un | apply et_val | apply et_test | apply et_not | apply et_notF | apply et_notT | apply ed_call | apply ed_cb | apply ed_chainT | apply et_orF | apply et_andT))
  | ((with_reducible apply ed_var); exact rfl) | ((with_reducible apply len_ok); exact rfl) | ((with_reducible apply kits); exact rfl) | exact (rfl : decide _ = _) | exact (rfl : (_ == _) = _) | exact nI_beq _ _
  | ((with_reducible apply r2_ixTu); exact r2_ixT rfl) | ((with_reducible apply r2_ixLu); exact r2_ixL rfl) | ((with_reducible apply rc_u); first | exact rc_len (.inr rfl) | exact rc_len (.inl rfl)))))
section
variable {P : Program} {w : World} {K : PySem.W.Frag} {mg : Str → Option Value} {base : Heap} (T : Tx K mg)
def Dom_any (ds : List PyData) : Prop := ∃ m n U, Web m n U ∧ m + n ≤ 24 ∧ U.length ≤ 60 ∧ ds = [webD m n U]
def R_any (ds : List PyData) (d : PyData) : Prop := ∃ m n U Y, ds = [webD m n U] ∧ List.Perm Y U ∧ d = tiesD (srt1 (greedy m (List.range (m + n)) [] Y))
theorem gS_len {m : Nat} {s : List Nat × List Tie} {t : Tie} {i N : Nat} (h : s.1.length = N ∧ s.2.length ≤ i) : (gS m s t).1.length = N ∧ (gS m s t).2.length ≤ i + 1 := by
  unfold gS
  refine ⟨by rw [merge_len]; exact h.1, ?_⟩
  show (if _ then _ else _ : List Tie).length ≤ _
  split
  · rw [List.length_append, List.length_singleton]; omega
  · omega
theorem gS_ne {m : Nat} {ms : List Nat} {acc : List Tie} {t : Tie} (h2 : m + t.2 < ms.length) (h : K4.mk ms t.1 ≠ K4.mk ms (m + t.2)) : gS m (ms, acc) t = (merge ms (ed m t), acc ++ [t]) := by
  unfold gS
  rw [if_pos (fun z => h ((merge_eq_iff ms (ed m t) h2).mp z))]
theorem gS_eq {m : Nat} {ms : List Nat} {acc : List Tie} {t : Tie} (h2 : m + t.2 < ms.length) (h : K4.mk ms t.1 = K4.mk ms (m + t.2)) : gS m (ms, acc) t = (ms, acc) := by
  have e : merge ms (ed m t) = ms := (merge_eq_iff ms (ed m t) h2).mpr h
  unfold gS
  rw [if_neg (fun z => z e)]
  show (merge ms (ed m t), acc) = _
  rw [e]
theorem ok_any_tree (G_l_pick : FnOk P w K mg base CX0 2 T.f_l_pick T.d_l_pick ["_law_tin", "_law_goods_so", "_law_count_so"] (DrawT 100 Dom_pick R_pick)) : FnOk P w K mg base CX0 3 T.f_l_any_tree T.d_l_any_tree ["_law_tin", "_law_net_here"] (DrawT 100 Dom_any R_any) := by
  refine T.F_l_any_tree.ok sc_l_any_tree (draw_len (m := 2) fun ds ⟨_, _, _, _, _, _, e⟩ => by rw [e]; rfl) (fun cdv A outer s H vs Q E hr h => ⟨_, PSs.nox (pss_cons (ps_par (i := 2) (j := 3) rfl sc_l_any_tree.nd rfl rfl (by decide) rfl rfl (pa_cons (pe_listRg rfl (by rfl) T.n_list (prg_1 (by rfl) T.n_range (pe_op op_add (pe_ix (show IxR _ (rIxT K) from ix_tup) (pv 1) pe_int (fun _ _ => rfl)) (pe_ix (show IxR _ (rIxT K) from ix_tup) (pv 1) pe_int (fun _ _ => rfl))))) (pa_cons (pe_lst pa_nil) pa_nil)) rfl) (pss_cons (ps_for PassesOwn.never rfl (show PI _ _ _ (iList K _) from pi_list (pe_call G_l_pick (hr.mono (by decide)) (by rfl) T.g_l_pick T.F_l_pick.kp T.b_l_pick .nil pass0 (pa_cons (pv 0) (pa_cons (pe_callTy (call_listK (K := K) rfl) (by rfl) T.n_list (by decide +kernel) (pa_cons (pe_ix (show IxR _ (rIxT K) from ix_tup) (pv 1) pe_int (fun _ _ => rfl)) pa_nil)) (pa_cons (pe_callB (call_lenK (K := K) rfl) (by rfl) T.n_len (by decide +kernel) (pa_cons (pe_ix (show IxR _ (rIxT K) from ix_tup) (pv 1) pe_int (fun _ _ => rfl)) pa_nil)) pa_nil))))) (pg_name (i := 4) sc_l_any_tree.nd rfl (by first | exact Or.inl rfl | exact Or.inr rfl)) (pss_cons (ps_asg (pe_tup (pa_cons (pe_ix (show IxR _ (rIxL K) from ix_list) (pv 2) (pe_ix (show IxR _ (rIxT K) from ix_tup) (pv 4) pe_int (fun _ _ => rfl)) (fun _ _ => rfl)) (pa_cons (pe_ix (show IxR _ (rIxL K) from ix_list) (pv 2) (pe_op op_add (pe_ix (show IxR _ (rIxT K) from ix_tup) (pv 1) pe_int (fun _ _ => rfl)) (pe_ix (show IxR _ (rIxT K) from ix_tup) (pv 4) pe_int (fun _ _ => rfl))) (fun _ _ => rfl)) pa_nil))) (show PG _ _ (gTup K 2 _) from pg_tup rfl (pgs_cons (pg_name (i := 5) sc_l_any_tree.nd rfl (by first | exact Or.inl rfl | exact Or.inr rfl)) (pgs_cons (pg_name (i := 6) sc_l_any_tree.nd rfl (by first | exact Or.inl rfl | exact Or.inr rfl)) pgs_nil)))) (pss_one (ps_if (pt_cmpR op_ne (pv 5) (pv 6) (by first | exact nomark _ | rfl)) (pss_cons (ps_expr (show PE _ _ (tBM K _ _ _ _) from pe_bm PySem.F.plainAttrs_list PySem.F.slot_list_append PySem.F.type_list_append mt_append (pv 3) (pa_cons (pv 4) pa_nil))) (pss_one (ps_setLc (i := 2) (own := [("_law_own", 7)]) rfl sc_l_any_tree.nd rfl rfl (sw_true rfl rfl rfl (by decide +kernel)) (show PI _ _ _ (iList K _) from pi_list (pv 2)) (blkOk_by (own := [("_law_own", 7)]) (N := ["_law_tin", "_law_net_here", "_law_marks_so", "_law_found", "_law_bond", "_law_near", "_law_far", "_law_own"]) (sc := defScope s_l_any_tree) (by decide +kernel)) (fun _ _ _ _ _ => pg_name (i := 7) sc_l_any_tree.nd rfl (by first | exact Or.inl rfl | exact Or.inr rfl)) (fun _ _ _ _ _ => pts_nil) (fun _ _ _ _ _ => (pe_ifExp (pt_cmpR op_eq (pv 7) (pv 6) (by first | exact nomark _ | rfl)) (pv 5) (pv 7)))))) pss_nil)))) (pss_one (ps_ret (pe_callTy (call_tupleK (K := K) rfl) (by rfl) T.n_tuple (by decide +kernel) (pa_cons (pe_callB (cr_sortQ hr.units) (by rfl) T.n_sorted (by decide +kernel) (pa_cons (pv 3) pa_nil)) pa_nil)))))), draw_run (fun ds a b c k hd tb hk => ?_) vs H Q E h⟩)
  obtain ⟨m, n, U, hw, b1, b2, rfl⟩ := hd
  have e0 : (.list (rngD 0 ((m : Int) + n).toNat)) = msD (List.range (m + n)) := by rw [← Int.natCast_add, Int.toNat_natCast, rngD_nat]; rfl
  let env : Int → Int → Int → List Nat × List Tie → DD.Env := fun a b c s => [.own (tin a b c), .dat (webD m n U), .dat (msD s.1), .own (s.2.map tieD), .no, .no, .no, .no]
  let st : List Tie → Nat → List Nat × List Tie := fun Y i => (Y.take i).foldl (gS m) (List.range (m + n), [])
  have hst : ∀ Y i, i ≤ Y.length → (st Y i).1.length = m + n ∧ (st Y i).2.length ≤ i := fun Y i => by
    induction i with
    | zero => intro _; exact ⟨List.length_range, Nat.le_refl _⟩
    | succ i ih =>
      intro hi
      have e := List.getElem?_eq_getElem (l := Y) (i := i) (by omega)
      show ((Y.take (i + 1)).foldl (gS m) (List.range (m + n), [])).1.length = _ ∧ ((Y.take (i + 1)).foldl (gS m) (List.range (m + n), [])).2.length ≤ _
      rw [fold_take (gS m) _ Y i _ e]
      exact gS_len (m := m) (t := Y[i]) (s := (Y.take i).foldl (gS m) (List.range (m + n), [])) (ih (by omega))
  refine txr_seq (B := (· = env a b c (List.range (m + n), []))) (tx_parDL (d := msD (List.range (m + n))) (es := []) (by decide) (by decide) (by decide) (ed_is (EL.ed (el_listRg (n := (m : Int) + n) ?_ (by omega))) e0) (el_lst ea_nil (len_ok rfl)) rfl) ?_
  · walk_at "ed"
  let I : List PyData → Nat → DD.Env → Prop := fun ds i ρ => ∃ Y a b c, ds = Y.map tieD ∧ List.Perm Y U ∧ ρ = env a b c (st Y i) ∧ TB b c (k + 100)
  refine txr_seq (B := fun ρ => ∃ Y a b c, List.Perm Y U ∧ ρ = env a b c (st Y Y.length) ∧ TB b c (k + 100)) (tx_forL I (fun ρ e => ?_) (fun ds i d hd ρ ⟨Y, a, b, c, e1, hp, e2, tb⟩ => ?_) fun ds ρ ⟨Y, a, b, c, e1, hp, e2, tb⟩ => ?_) (txr_pre fun ρ ⟨Y, a, b, c, hp, e, tb⟩ => ?_)
  · subst e
    refine ex_draw (ds := [.list (U.map tieD), .int ((U.map tieD).length : Nat)]) (n := 100) (k := k) rfl (ea_cons (EL.ed (el_cb (ea_cons ?_ ea_nil) (rc_listOf (.inr rfl)))) (ea_cons (ed_cb (ea_cons (d := tiesD U) ?_ ea_nil) (rc_len (.inr rfl))) ea_nil)) tb hk ⟨_, rfl, by rw [List.length_map]; omega⟩ fun d a' b' c' ⟨xs, ys, e1, hp, e2⟩ tb' => ?_
    · walk_at "ed"
    · walk_at "ed"
    · cases e1
      obtain ⟨Y, h1, h2⟩ := perm_map tieD hp U rfl
      exact ⟨ys, e2, Y, a', b', c', h2, h1, rfl, tb'⟩
  · subst e1 e2
    rw [List.getElem?_map] at hd
    obtain ⟨t, ht, rfl⟩ := Option.map_eq_some_iff.mp hd
    have hi := (List.getElem?_eq_some_iff.mp ht).1
    obtain ⟨l1, l2⟩ := hst Y i (by omega)
    have hx := hw.rng t (hp.mem_iff.mp (List.mem_of_getElem? ht))
    have hnext : st Y (i + 1) = gS m (st Y i) t := fold_take (gS m) _ Y i t ht
    have hYl : Y.length ≤ 60 := by rw [hp.length_eq]; exact b2
    obtain ⟨⟨ms, acc⟩, hs⟩ : ∃ s, st Y i = s := ⟨_, rfl⟩
    rw [hs] at l1 l2 hnext
    have l1 : ms.length = m + n := l1
    have l2 : acc.length ≤ i := l2
    have ez : atI (ms.map nI) ((m : Int) + (t.2 : Int)) = some (nI (K4.mk ms (m + t.2))) := by
      rw [← Int.natCast_add]
      exact at_ms (by omega)
    refine ⟨[(4, tieD t)], tgt_name, fun u hu => by rw [List.mem_singleton.mp hu]; show 4 ∉ [0]; decide, ?_⟩
    let ρ1 : DD.Env := [.own (tin a b c), .dat (webD m n U), .dat (msD ms), .own (acc.map tieD), .dat (tieD t), .dat (nI (K4.mk ms t.1)), .dat (nI (K4.mk ms (m + t.2))), .no]
    refine tx_imp (tx_lose (j := 4) (tx_lose (j := 5) (tx_lose (j := 6) (tx_seq (B := (· = ρ1)) (tx_tgt fun ρ e => ?_) (tx_if (B := (· = ([.own (tin a b c), .dat (webD m n U), .dat (msD (st Y (i + 1)).1), .own ((st Y (i + 1)).2.map tieD), .dat (tieD t), .dat (nI (K4.mk ms t.1)), .dat (nI (K4.mk ms (m + t.2))), .no] : DD.Env))) fun ρ e => ?_))))) fun ρ ⟨ρ0, ⟨ρ1, ⟨ρ2, e1, e2⟩, e3⟩, e4⟩ => ?_
    · subst e
      refine ex_ed (d := .tuple [nI (K4.mk ms t.1), nI (K4.mk ms (m + t.2))]) ?_ ⟨_, tgt_two, fun u hu => ?_, ?_⟩
      · refine ed_tup (ea_cons (ed_op (d := msD ms) (e := nI t.1) ?_ ?_ (r2_ixL (at_ms (by omega)))) (ea_cons (ed_op (d := msD ms) ?_ (ed_op (d := nI m) (e := nI t.2) ?_ ?_ (r2_N rfl)) (r2_ixL ez)) ea_nil)) (len_ok rfl)
        all_goals (rw [hs]; walk_at "ed")
      · rcases List.mem_cons.mp hu with rfl | hu
        · show 5 ∉ [0]
          decide
        · rw [List.mem_singleton.mp hu]
          show 6 ∉ [0]
          decide
      · rw [hs]
        rfl
    · subst e
      refine ⟨!decide (K4.mk ms t.1 = K4.mk ms (m + t.2)), by rw [← nI_beq]; exact et_test (ed_op (ed_var rfl) (ed_var rfl) r2_neI), fun hb => ?_, fun hb => ?_⟩
      · have hne : K4.mk ms t.1 ≠ K4.mk ms (m + t.2) := by simpa using hb
        rw [hnext, gS_ne (by omega) hne]
        refine tx_seq (B := (· = ([.own (tin a b c), .dat (webD m n U), .dat (msD ms), .own ((acc ++ [t]).map tieD), .dat (tieD t), .dat (nI (K4.mk ms t.1)), .dat (nI (K4.mk ms (m + t.2))), .no] : DD.Env))) (tx_app (by decide) fun ρ e => ⟨⟨acc.map tieD, by rw [e]; rfl⟩, ?_⟩) (tx_asg (by decide) fun ρ e => ?_)
        · subst e
          refine ex_ed (d := tieD t) (ed_var rfl) ⟨acc.map tieD, rfl, by rw [List.length_map]; omega, ?_⟩
          rw [List.map_append]
          rfl
        · subst e
          refine ex_ed (d := msD (merge ms (ed m t))) ?_ rfl
          rw [merge_map]
          refine ed_is (EL.ed (el_lcE nI (fun o => nI (relab (K4.mk ms t.1) (K4.mk ms (m + t.2)) o)) ms (src_list (ed_var rfl)) (by omega) (fun o _ => ?_))) (congrArg PyData.list (by rw [List.map_map]; rfl))
          refine ed_if (b := decide (o = K4.mk ms (m + t.2))) ?_ (fun hc => ?_) (fun hc => ?_)
          · walk_at "ed"
          · unfold relab
            rw [if_pos (of_decide_eq_true hc)]
            walk_at "ed"
          · unfold relab
            rw [if_neg (of_decide_eq_false hc)]
            walk_at "ed"
      · have he : K4.mk ms t.1 = K4.mk ms (m + t.2) := by simpa using hb
        rw [hnext, gS_eq (by omega) he]
        exact tx_next fun ρ e => e
    · subst e1
      subst e2
      subst e3
      subst e4
      exact ⟨Y, a, b, c, rfl, hp, rfl, tb⟩
  · subst e1
    rw [List.length_map] at e2
    exact ⟨Y, a, b, c, hp, e2, tb⟩
  · subst e
    have hl : (st Y Y.length).2 = greedy m (List.range (m + n)) [] Y := by
      rw [greedy_fold]
      show ((Y.take Y.length).foldl (gS m) _).2 = _
      rw [List.take_length]
    have hll := (hst Y Y.length (Nat.le_refl _)).2
    have hYl : Y.length ≤ 60 := by rw [hp.length_eq]; exact b2
    refine txr_freeze (j := 3) rfl (txr_ret fun ρ e => ?_)
    subst e
    refine ex_ed (d := tiesD (srt1 (st Y Y.length).2)) (ed_cb (ea_cons (EL.ed (el_is (el_cb (ea_cons (ed_var rfl) ea_nil) (rc_sortQ (.inl rfl) (all_alike1 _) (sortable1 _) ?_ (dep1 _))) (map_srt1 _))) ea_nil) (rc_tupleOf (.inl rfl))) ⟨⟨m, n, U, Y, rfl, hp, by rw [hl]⟩, a, b, c, rfl, tb⟩
    rw [List.length_map]
    omega

end
end K4P
end

section
set_option Elab.async false
set_option linter.all false
set_option maxRecDepth 100000
set_option maxHeartbeats 4000000
namespace K4P
open PySem PySem.Spec L2 RZ DD K4
open PyProof.Rows (firstMet)
local macro_rules | `(tactic| walk_at "ed") => `(tactic| (repeat' (first
  | (with_reducible (first | exact ed_int | exact ed_bl | exact ed_str | exact ed_non | exact ea_nil | exact et_yes _ | apply ea_cons | apply ed_tup | apply r2_B | apply r2_eqIb | apply r2_neIb | exact r2_I0 (fun _ => Dq.int _) | exact rc_abs | exact rc_intI | exact rc_intB | exact rc_min | exact rc_max | exact r2_isN | apply ed_isi | apply ed_andT | apply ed_andV | apply ed_notV | apply ed_notF | apply ed_op | apply ed_un | apply et_val | apply et_test | apply et_not | apply et_notF | apply et_notT | apply ed_call | apply ed_cb | apply ed_chainT | apply et_orF | apply et_andT))
  | ((with_reducible apply ed_var); exact rfl) | ((with_reducible apply len_ok); exact rfl) | ((with_reducible apply kits); exact rfl) | exact (rfl : decide _ = _) | exact (rfl : (_ == _) = _) | exact nI_beq _ _
  | ((with_reducible apply r2_ixTu); exact r2_ixT rfl) | ((with_reducible apply r2_ixLu); exact r2_ixL rfl) | ((with_reducible apply rc_u); first | exact rc_len (.inr rfl) | exact rc_len (.inl rfl)))))
section
variable {P : Program} {w : World} {K : PySem.W.Frag} {mg : Str → Option Value} {base : Heap} (T : Tx K mg)
theorem isk_dq {H : Hp} : ∀ (U : List Tie) (bs : List Addr), IsKeys H (kvT U) bs → DqAll H (bs.map V.ref) (U.map tieD)
  | [], _, h => by
    cases h
    exact .nil
  | t :: U, _, h => by
    cases h with
    | cons h1 h2 => exact .cons (.tup h1 (DqAll.ints [(t.1 : Int), (t.2 : Int)])) (isk_dq U _ h2)
theorem ret_net {Hi0 Hi H0 H : Hp} {σ : L2.St} {ρ : DD.Env} {F : Nat → Addr} {U : List Tie} {m n : Nat} {a b c : Int} {D : Ends} (s : StOk Hi0 (HD Hi (F 4) U) H0 H σ ρ) (ha : At F [0, 4] σ) (n1 : Hi0 (F 4) = none) (n2 : Hi (F 4) = none) (hl : U.length ≤ 1000) (h0 : ρ[0]? = some (.own (tin a b c))) (h2 : ρ[2]? = some (.dat (nI m))) (h3 : ρ[3]? = some (.dat (nI n)))
    (k : ∀ v H0' H', Grow Hi0 Hi H0' H' → Dq H0' v (webD m n (srt1 U)) → H0' (F 0) = none → H' (F 0) = some (.lst (tinV a b c)) → D.rt v H') :
    tRet (tTup (tCons (tVar 2) (tCons (tVar 3) (tCons (tCB (fun xs H Q => ∃ p ys, xs = [.ref p] ∧ ((SqL K H p ys ∧ ∀ l, H l = none → Q (.ref l) (upd H l (.tup ys))) ∨ (SqT K H p ys ∧ Q (.ref p) H))) (tCons (tCB rSortDT (tCons (tVar 4) tNil)) tNil)) tNil)))) D σ H := by
  obtain ⟨v2, e2, q2⟩ := s.dat 2 _ h2
  obtain ⟨v3, e3, q3⟩ := s.dat 3 _ h3
  obtain ⟨pt, vs, t1, t2, t3, t4, t5⟩ := s.own 0 _ h0
  rw [ha 0 (by decide)] at t1
  cases t1
  have ev : vs = tinV a b c := t5.ints_inv [a, b, c] vs
  subst ev
  rw [q2.int_inv] at e2
  rw [q3.int_inv] at e3
  refine ⟨_, e2, _, e3, .ref (F 4), ha 4 (by decide), F 4, kvT U, U.map tieD, rfl, hd_big s, all_alike1 U, sortable1 U, by rw [List.length_map]; omega, dep1 U, fun bs hk => isk_dq U bs hk, fun p bs zs hk hpn hperm hmap => ?_⟩
  refine ⟨p, zs.map (·.1), rfl, .inl ⟨.inl (.inl upd_same), fun l hln => ?_⟩⟩
  refine ⟨by show 3 ≤ sizeLine; decide, fun r hrn => ?_⟩
  have g1 : Grow Hi0 (HD Hi (F 4) U) H0 (upd H p (.lst (zs.map (·.1)))) := s.gr.trans (.big1 s.gr.sub hpn)
  have g2 := g1.trans (.big1 (o := .tup (zs.map (·.1))) g1.sub hln)
  have g3 := g2.trans (.big1 (o := .tup [V.int m, V.int n, V.ref l]) g2.sub hrn)
  have keep : ∀ x o, H x = some o → (upd (upd (upd H p (.lst (zs.map (·.1)))) l (.tup (zs.map (·.1)))) r (.tup [V.int m, V.int n, V.ref l])) x = some o := fun x o e =>
    same_new hrn _ _ (same_new hln _ _ (same_new hpn _ _ e))
  have hlf : (upd (upd (upd H p (.lst (zs.map (·.1)))) l (.tup (zs.map (·.1)))) r (.tup [V.int m, V.int n, V.ref l])) l = some (.tup (zs.map (·.1))) := same_new hrn _ _ upd_same
  have hz : ∀ z ∈ zs, Dq (tupB H0 (upd (upd (upd H p (.lst (zs.map (·.1)))) l (.tup (zs.map (·.1)))) r (.tup [V.int m, V.int n, V.ref l]))) z.1 z.2 := fun z hz => by
    have hz' := hperm.mem_iff.mp hz
    have q := (isk_dq U bs hk).zip z hz'
    obtain ⟨t, ht, e⟩ := List.mem_map.mp (List.of_mem_zip hz').2
    rw [← e] at q ⊢
    obtain ⟨ad, xs, e1, e4, e5⟩ := q.tup_inv
    have ex : xs = [V.int (t.1 : Int), V.int (t.2 : Int)] := e5.ints_inv [(t.1 : Int), (t.2 : Int)] xs
    subst ex
    rw [e1]
    exact .tup (tupB_tup g3.sub (keep _ _ e4)) (DqAll.ints [(t.1 : Int), (t.2 : Int)])
  have hall := DqAll.of_zip hz
  rw [hmap, map_srt1] at hall
  refine k _ _ _ (grow_tup g3 n1 n2) (.tup (tupB_tup g3.sub upd_same) (.cons (.int _) (.cons (.int _) (.cons (.tup (tupB_tup g3.sub hlf) hall) .nil)))) ?_ (keep _ _ t2)
  refine Option.eq_none_iff_forall_ne_some.mpr fun o e => ?_
  rcases tupB_inv e with h | ⟨xs, h, _⟩
  · rw [t3] at h
    cases h
  · rw [keep _ _ t2] at h
    cases h
theorem ex_tup2 {ρ : DD.Env} {ta tb : TE} {P : DD.Env → PyData → Prop} (h : EX ta ρ fun ρ1 d1 => EX tb ρ1 fun ρ2 d2 => P ρ2 (.tuple [d1, d2])) : EX (tTup (tCons ta (tCons tb tNil))) ρ P := fun Hi0 Hi H0 H σ s Q k =>
  h Hi0 Hi H0 H σ s _ fun ρ1 d1 v1 H1 H1' h2 sm1 s1 q1 => h2 Hi0 Hi H1 H1' σ s1 _ fun ρ2 d2 v2 H2 H2' pp sm2 s2 q2 => ⟨by show 2 ≤ sizeLine; decide, fun p hp =>
    k ρ2 _ _ _ _ pp ((sm1.trans sm2).trans (same_new (s2.gr.sub.free hp))) (s2.more (.new1 s2.gr.sub hp)) (.tup upd_same (.cons ((q1.up sm2).up (same_new (s2.gr.sub.free hp))) (.cons (q2.up (same_new (s2.gr.sub.free hp))) .nil)))⟩
theorem tx_then {js : List Nat} {A B : DD.Env → Prop} {t u : TS} {F : Nat → Addr} {Hi0 Hi H : Hp} {D : Ends} {σ : L2.St} {ρ : DD.Env} (h : TX js t A B) (a : A ρ) (o : OT Hi0 Hi F js ρ σ H) (k : ∀ ρ' σ' H', B ρ' → OT Hi0 Hi F js ρ' σ' H' → u D σ' H') : tSeq t u D σ H := h F Hi0 Hi { D with nx := u D } σ H ρ a o k
theorem dx_then {A B : DD.Env → List Tie → Prop} {t u : TS} {F : Nat → Addr} {Hi0 Hi H : Hp} {D : Ends} {σ : L2.St} {ρ : DD.Env} {U : List Tie} (h : DX t A B) (a : A ρ U) (n1 : Hi0 (F 4) = none) (n2 : Hi (F 4) = none) (o : OT Hi0 (HD Hi (F 4) U) F [0, 4] ρ σ H) (k : ∀ ρ' T' σ' H', B ρ' T' → OT Hi0 (HD Hi (F 4) T') F [0, 4] ρ' σ' H' → u D σ' H') : tSeq t u D σ H := h F Hi0 Hi { D with nx := u D } σ H ρ U a n1 n2 o k
theorem par3_then {Hi0 Hi H : Hp} {σ : L2.St} {ρ : DD.Env} {u : TS} {F : Nat → Addr} {D : Ends} (o : OT Hi0 Hi F [0] ρ σ H) (k : ∀ (F' : Nat → Addr) σ' H', F' 0 = F 0 → Hi0 (F' 4) = none → Hi (F' 4) = none → OT Hi0 (HD Hi (F' 4) [(0, 0)]) F' [0, 4] (((ρ.set 4 .no).set 5 (.own [.int 0])).set 6 (.own [.int 0])) σ' H' → u D σ' H') (h4 : 4 < ρ.length) :
    tSeq (tPar3 4 5 6 (tCons (tDispT (tTup (tCons (tC (.int 0)) (tCons (tC (.int 0)) tNil))) (tC (.bl true))) (tCons (tLst (tCons (tC (.int 0)) tNil)) (tCons (tLst (tCons (tC (.int 0)) tNil)) tNil)))) u D σ H := par3D (D := { D with nx := u D }) o k h4
/-- a draw below q -/
theorem ex_nat {ρ : DD.Env} {te : TE} {q : Nat} {a b c k : Int} {P : DD.Env → PyData → Prop} {E : XK} (h0 : ρ[0]? = some (.own (tin a b c))) (h : ED te ρ (nI q)) (tb : TB b c k) (hk : k ≤ 1000000) (hq : 0 < q ∧ q < 100000) (hp : ∀ (r : Nat) (a' c' : Int), r < q → TB b c' (k + 1) → P (ρ.set 0 (.own (tin a' b c'))) (nI r)) :
    EX (tCall S_take [] E (tCons (tVar 0) (tCons te tNil))) ρ P := ex_take h0 (ex_ed h ⟨(q : Int), a, b, c, k, rfl, by omega, by omega, h0, tb, hk, fun r a' c' r0 r1 tb' => by
      obtain ⟨j, rfl⟩ : ∃ j : Nat, r = (j : Int) := ⟨r.toNat, by omega⟩
      exact hp j a' c' (by omega) tb'⟩)
theorem ex_nat1 {ρ : DD.Env} {te : TE} {q : Nat} {a b c k : Int} {P : DD.Env → PyData → Prop} {E : XK} (h0 : ρ[0]? = some (.own (tin a b c))) (h : ED te ρ (nI q)) (tb : TB b c k) (hk : k ≤ 1000000) (hq : 0 < q ∧ q < 100000) (hp : ∀ (r : Nat) (a' c' : Int), 0 < r → r ≤ q → TB b c' (k + 1) → P (ρ.set 0 (.own (tin a' b c'))) (nI r)) :
    EX (tOp (rI0 fun i j => .int (i + j)) (tC (.int 1)) (tCall S_take [] E (tCons (tVar 0) (tCons te tNil)))) ρ P :=
  ex_op (P1 := fun ρ1 d1 => ρ1 = ρ ∧ d1 = .int 1) (ex_ed ed_int ⟨rfl, rfl⟩) fun ρ1 d1 ⟨e1, e2⟩ => by
    subst e1 e2
    exact ex_nat h0 h tb hk hq fun r a' c' hr tb' => ⟨nI (r + 1), r2_N (by omega), hp (r + 1) a' c' (by omega) (by omega) tb'⟩
theorem dx_lose {j : Nat} {t : TS} {A B : DD.Env → List Tie → Prop} (h : DX t A B) : DX t A (fun ρ U => ∃ ρ0, B ρ0 U ∧ ρ = ρ0.set j .no) := fun F Hi0 Hi D σ H ρ U a n1 n2 o k => h F Hi0 Hi D σ H ρ U a n1 n2 o fun ρ' U' σ' H' b ⟨H0, s, hp⟩ => k _ U' σ' H' ⟨ρ', b, rfl⟩ ⟨H0, s.lose j, hp⟩
/-! the growing net -/
structure NetI (m n : Nat) (U : List Tie) (hs ts : List Nat) : Prop where
  nd : U.Nodup
  rng : ∀ t ∈ U, t.1 < m ∧ t.2 < n
  hr : ∀ h ∈ hs, h < m
  tr : ∀ k ∈ ts, k < n
  hne : 0 ∈ hs
  tne : 0 ∈ ts
  con : ∀ f : Nat → Nat, (∀ t ∈ U, f t.1 = f (m + t.2)) → (∀ h ∈ hs, f h = f 0) ∧ ∀ k ∈ ts, f (m + k) = f 0
theorem put_mem {U : List Tie} {t u : Tie} : u ∈ putT U t ↔ u ∈ U ∨ u = t := by
  unfold putT
  by_cases h : t ∈ U
  · rw [if_pos h]
    exact ⟨.inl, fun z => z.elim id fun e => e ▸ h⟩
  · rw [if_neg h, List.mem_append, List.mem_singleton]
theorem put_nodup {U : List Tie} {t : Tie} (h : U.Nodup) : (putT U t).Nodup := by
  unfold putT
  by_cases hm : t ∈ U
  · rw [if_pos hm]
    exact h
  · rw [if_neg hm]
    exact List.nodup_append.mpr ⟨h, List.pairwise_singleton .., fun a ha b hb e => hm (by rw [List.mem_singleton.mp hb] at e; exact e ▸ ha)⟩
theorem put_len {U : List Tie} {t : Tie} : (putT U t).length ≤ U.length + 1 := by
  unfold putT
  split
  · omega
  · rw [List.length_append, List.length_singleton]
    exact Nat.le_refl _
theorem NetI.hand {m n h k : Nat} {U : List Tie} {hs ts : List Nat} (w : NetI m n U hs ts) (hh : h < m) (hk : k ∈ ts) : NetI m n (putT U (h, k)) (hs ++ [h]) ts where
  nd := put_nodup w.nd
  rng := fun t ht => by
    rcases put_mem.mp ht with ht | rfl
    · exact w.rng t ht
    · exact ⟨hh, w.tr k hk⟩
  hr := fun x hx => by
    rcases List.mem_append.mp hx with hx | hx
    · exact w.hr x hx
    · rw [List.mem_singleton.mp hx]
      exact hh
  tr := w.tr
  hne := List.mem_append_left _ w.hne
  tne := w.tne
  con := fun f hf => by
    obtain ⟨c1, c2⟩ := w.con f fun t ht => hf t (put_mem.mpr (.inl ht))
    refine ⟨fun x hx => ?_, c2⟩
    rcases List.mem_append.mp hx with hx | hx
    · exact c1 x hx
    · rw [List.mem_singleton.mp hx, hf (h, k) (put_mem.mpr (.inr rfl))]
      exact c2 k hk
theorem NetI.task {m n h k : Nat} {U : List Tie} {hs ts : List Nat} (w : NetI m n U hs ts) (hh : h ∈ hs) (hk : k < n) : NetI m n (putT U (h, k)) hs (ts ++ [k]) where
  nd := put_nodup w.nd
  rng := fun t ht => by
    rcases put_mem.mp ht with ht | rfl
    · exact w.rng t ht
    · exact ⟨w.hr h hh, hk⟩
  hr := w.hr
  tr := fun x hx => by
    rcases List.mem_append.mp hx with hx | hx
    · exact w.tr x hx
    · rw [List.mem_singleton.mp hx]
      exact hk
  hne := w.hne
  tne := List.mem_append_left _ w.tne
  con := fun f hf => by
    obtain ⟨c1, c2⟩ := w.con f fun t ht => hf t (put_mem.mpr (.inl ht))
    refine ⟨c1, fun x hx => ?_⟩
    rcases List.mem_append.mp hx with hx | hx
    · exact c2 x hx
    · rw [List.mem_singleton.mp hx, ← hf (h, k) (put_mem.mpr (.inr rfl))]
      exact c1 h hh
theorem NetI.web {m n : Nat} {U : List Tie} {hs ts : List Nat} (w : NetI m n U hs ts) (h1 : ∀ h, h < m → h ∈ hs) (h2 : ∀ k, k < n → k ∈ ts) : WebU m n U where
  hm := Nat.lt_of_le_of_lt (Nat.zero_le _) (w.hr 0 w.hne)
  hn := Nat.lt_of_le_of_lt (Nat.zero_le _) (w.tr 0 w.tne)
  rng := w.rng
  conn := fun f hf i hi => by
    obtain ⟨c1, c2⟩ := w.con f fun t ht => hf (ed m t) (List.mem_map.mpr ⟨t, ht, rfl⟩)
    by_cases hlt : i < m
    · exact c1 i (h1 i hlt)
    · have := c2 (i - m) (h2 (i - m) (by omega))
      rw [show m + (i - m) = i by omega] at this
      exact this
theorem web_put {m n : Nat} {U : List Tie} {t : Tie} (w : WebU m n U) (h : t.1 < m ∧ t.2 < n) : WebU m n (putT U t) where
  hm := w.hm
  hn := w.hn
  rng := fun u hu => by
    rcases put_mem.mp hu with hu | rfl
    · exact w.rng u hu
    · exact h
  conn := fun f hf => w.conn f fun e he => by
    obtain ⟨u, hu, rfl⟩ := List.mem_map.mp he
    exact hf _ (List.mem_map.mpr ⟨u, put_mem.mpr (.inl hu), rfl⟩)
theorem net_start {m n : Nat} (hm : 0 < m) (hn : 0 < n) : NetI m n [(0, 0)] [0] [0] where
  nd := List.pairwise_singleton ..
  rng := fun t ht => by rw [List.mem_singleton.mp ht]; exact ⟨hm, hn⟩
  hr := fun x hx => by rw [List.mem_singleton.mp hx]; exact hm
  tr := fun x hx => by rw [List.mem_singleton.mp hx]; exact hn
  hne := List.mem_singleton.mpr rfl
  tne := List.mem_singleton.mpr rfl
  con := fun f hf => ⟨fun x hx => by rw [List.mem_singleton.mp hx], fun x hx => by
    rw [List.mem_singleton.mp hx]
    exact (hf (0, 0) (List.mem_singleton.mpr rfl)).symm⟩
def leftT (m n : Nat) : List Tie := ((List.range (m - 1)).map fun i => (0, 1 + i)) ++ (List.range (n - 1)).map fun i => (1, 1 + i)
theorem left_mem {m n : Nat} {t : Tie} : t ∈ leftT m n ↔ (t.1 = 0 ∧ 0 < t.2 ∧ t.2 < m) ∨ (t.1 = 1 ∧ 0 < t.2 ∧ t.2 < n) := by
  unfold leftT
  rw [List.mem_append, List.mem_map, List.mem_map]
  constructor
  · rintro (⟨i, hi, rfl⟩ | ⟨i, hi, rfl⟩)
    · have := List.mem_range.mp hi
      exact .inl ⟨rfl, by show 0 < 1 + i; omega, by show 1 + i < m; omega⟩
    · have := List.mem_range.mp hi
      exact .inr ⟨rfl, by show 0 < 1 + i; omega, by show 1 + i < n; omega⟩
  · rintro (⟨e, h1, h2⟩ | ⟨e, h1, h2⟩)
    · exact .inl ⟨t.2 - 1, List.mem_range.mpr (by omega), Prod.ext e.symm (by show 1 + (t.2 - 1) = t.2; omega)⟩
    · exact .inr ⟨t.2 - 1, List.mem_range.mpr (by omega), Prod.ext e.symm (by show 1 + (t.2 - 1) = t.2; omega)⟩
theorem left_len (m n : Nat) : (leftT m n).length = (m - 1) + (n - 1) := by
  unfold leftT
  rw [List.length_append, List.length_map, List.length_map, List.length_range, List.length_range]
def nsD (hs : List Nat) : List PyData := (hs.map fun (x : Nat) => (x : Int)).map .int
def Dom_net (ds : List PyData) : Prop := ∃ q : Nat, (q = 3 ∨ q = 4) ∧ ds = [nI q]
def R_net (ds : List PyData) (d : PyData) : Prop := ∃ q m n U, ds = [nI q] ∧ Web m n U ∧ m ≤ q ∧ n ≤ q ∧ U.length ≤ 40 ∧ d = webD m n U
-- ['_law_tin', '_law_most_so', '_law_m', '_law_n', '_law_bonds_so', '_law_hands_so', '_law_tasks_so', '_law_left_so', '_law_own', '_law_lap']
theorem ok_net (G_l_take : FnOk P w K mg base CX0 1 T.f_l_take T.d_l_take ["_law_tin", "_law_below_so"] S_take) (G_l_of : FnOk P w K mg base CX0 2 T.f_l_of T.d_l_of ["_law_tin", "_law_goods_so"] S_of) (G_l_pick : FnOk P w K mg base CX0 2 T.f_l_pick T.d_l_pick ["_law_tin", "_law_goods_so", "_law_count_so"] (DrawT 100 Dom_pick R_pick)) : FnOk P w K mg base CX0 3 T.f_l_net T.d_l_net ["_law_tin", "_law_most_so"] (DrawT 300 Dom_net R_net) := by
  refine T.F_l_net.ok sc_l_net (draw_len (m := 2) fun ds ⟨_, _, e⟩ => by rw [e]; rfl) (fun cdv A outer s H vs Q E hr h => ⟨_, PSs.nox (pss_cons (ps_par (i := 2) (j := 3) rfl sc_l_net.nd rfl rfl (by decide) rfl rfl (pa_cons (pe_op op_add pe_int (pe_call G_l_take (hr.mono (by decide)) (by rfl) T.g_l_take T.F_l_take.kp T.b_l_take .nil pass0 (pa_cons (pv 0) (pa_cons (pv 1) pa_nil)))) (pa_cons (pe_op op_add pe_int (pe_call G_l_take (hr.mono (by decide)) (by rfl) T.g_l_take T.F_l_take.kp T.b_l_take .nil pass0 (pa_cons (pv 0) (pa_cons (pv 1) pa_nil)))) pa_nil)) rfl) (pss_cons (ps_if (pt_cmpR op_gt (pe_call G_l_take (hr.mono (by decide)) (by rfl) T.g_l_take T.F_l_take.kp T.b_l_take .nil pass0 (pa_cons (pv 0) (pa_cons pe_int pa_nil))) pe_int (by first | exact nomark _ | rfl)) (pss_one (ps_par (i := 2) (j := 3) rfl sc_l_net.nd rfl rfl (by decide) rfl rfl (pa_cons (pe_op op_add pe_int (pe_op op_mod (pe_callTy call_int1 (by rfl) T.n_int (by decide +kernel) (pa_cons (pv 2) pa_nil)) (pe_callB (call_max2 rfl) (by rfl) T.n_max (by decide +kernel) (pa_cons pe_int (pa_cons (pe_op op_sub (pv 1) pe_int) pa_nil))))) (pa_cons (pe_op op_add pe_int (pe_op op_mod (pe_callTy call_int1 (by rfl) T.n_int (by decide +kernel) (pa_cons (pv 3) pa_nil)) (pe_callB (call_max2 rfl) (by rfl) T.n_max (by decide +kernel) (pa_cons pe_int (pa_cons (pe_op op_sub (pv 1) pe_int) pa_nil))))) pa_nil)) rfl)) pss_nil) (pss_cons (ps_par3 (i := 4) (j := 5) (l := 6) rfl sc_l_net.nd rfl rfl rfl (by decide) (by decide) (by decide) rfl rfl rfl (pa_cons (pe_dispT (by first | exact room_un 1 hr rfl | exact room_un 4 hr rfl) (pe_tup (pa_cons pe_int (pa_cons pe_int pa_nil))) pe_bl) (pa_cons (pe_lst (pa_cons pe_int pa_nil)) (pa_cons (pe_lst (pa_cons pe_int pa_nil)) pa_nil))) rfl) (pss_cons (ps_set (i := 7) sc_l_net.nd rfl (by first | exact Or.inl rfl | exact Or.inr rfl) (pe_op op_cat (pe_lc (own := [("_law_own", 8)]) rfl sc_l_net.nd (pi_range2 (by rfl) T.n_range (pa_cons pe_int (pa_cons (pv 2) pa_nil))) (blkOk_by (own := [("_law_own", 8)]) (N := ["_law_tin", "_law_most_so", "_law_m", "_law_n", "_law_bonds_so", "_law_hands_so", "_law_tasks_so", "_law_left_so", "_law_own", "_law_lap"]) (sc := defScope s_l_net) (by decide +kernel)) (fun _ _ _ _ _ => pg_name (i := 8) sc_l_net.nd rfl (by first | exact Or.inl rfl | exact Or.inr rfl)) (fun _ _ _ _ _ => pts_nil) (fun _ _ _ _ _ => (pe_tup (pa_cons pe_int (pa_cons (pv 8) pa_nil))))) (pe_lc (own := [("_law_own", 8)]) rfl sc_l_net.nd (pi_range2 (by rfl) T.n_range (pa_cons pe_int (pa_cons (pv 3) pa_nil))) (blkOk_by (own := [("_law_own", 8)]) (N := ["_law_tin", "_law_most_so", "_law_m", "_law_n", "_law_bonds_so", "_law_hands_so", "_law_tasks_so", "_law_left_so", "_law_own", "_law_lap"]) (sc := defScope s_l_net) (by decide +kernel)) (fun _ _ _ _ _ => pg_name (i := 8) sc_l_net.nd rfl (by first | exact Or.inl rfl | exact Or.inr rfl)) (fun _ _ _ _ _ => pts_nil) (fun _ _ _ _ _ => (pe_tup (pa_cons pe_int (pa_cons (pv 8) pa_nil))))))) (pss_cons (ps_for PassesOwn.never rfl (show PI _ _ _ (iList K _) from pi_list (pe_call G_l_pick (hr.mono (by decide)) (by rfl) T.g_l_pick T.F_l_pick.kp T.b_l_pick .nil pass0 (pa_cons (pv 0) (pa_cons (pv 7) (pa_cons (pe_callB (call_lenK (K := K) rfl) (by rfl) T.n_len (by decide +kernel) (pa_cons (pv 7) pa_nil)) pa_nil))))) (pg_name (i := 8) sc_l_net.nd rfl (by first | exact Or.inl rfl | exact Or.inr rfl)) (pss_one (ps_if (pt_cmpR op_eq (pe_ix (show IxR _ (rIxT K) from ix_tup) (pv 8) pe_int (fun _ _ => rfl)) pe_int (by first | exact nomark _ | rfl)) (pss_cons (ps_dput (by first | exact room_un 1 hr rfl | exact room_un 4 hr rfl) (pv 4) (pe_tup (pa_cons (pe_ix (show IxR _ (rIxT K) from ix_tup) (pv 8) pe_int (fun _ _ => rfl)) (pa_cons (pe_call G_l_of (hr.mono (by decide)) (by rfl) T.g_l_of T.F_l_of.kp T.b_l_of .nil pass0 (pa_cons (pv 0) (pa_cons (pv 6) pa_nil))) pa_nil))) pe_bl rfl) (pss_one (ps_expr (show PE _ _ (tBM K _ _ _ _) from pe_bm PySem.F.plainAttrs_list PySem.F.slot_list_append PySem.F.type_list_append mt_append (pv 5) (pa_cons (pe_ix (show IxR _ (rIxT K) from ix_tup) (pv 8) pe_int (fun _ _ => rfl)) pa_nil))))) (pss_cons (ps_dput (by first | exact room_un 1 hr rfl | exact room_un 4 hr rfl) (pv 4) (pe_tup (pa_cons (pe_call G_l_of (hr.mono (by decide)) (by rfl) T.g_l_of T.F_l_of.kp T.b_l_of .nil pass0 (pa_cons (pv 0) (pa_cons (pv 5) pa_nil))) (pa_cons (pe_ix (show IxR _ (rIxT K) from ix_tup) (pv 8) pe_int (fun _ _ => rfl)) pa_nil))) pe_bl rfl) (pss_one (ps_expr (show PE _ _ (tBM K _ _ _ _) from pe_bm PySem.F.plainAttrs_list PySem.F.slot_list_append PySem.F.type_list_append mt_append (pv 6) (pa_cons (pe_ix (show IxR _ (rIxT K) from ix_tup) (pv 8) pe_int (fun _ _ => rfl)) pa_nil)))))))) (pss_cons (ps_for PassesOwn.never rfl (pi_range1 (by rfl) T.n_range (pa_cons (pe_call G_l_take (hr.mono (by decide)) (by rfl) T.g_l_take T.F_l_take.kp T.b_l_take .nil pass0 (pa_cons (pv 0) (pa_cons (pe_op op_add (pe_op op_mul (pv 2) (pv 3)) pe_int) pa_nil))) pa_nil)) (pg_name (i := 9) sc_l_net.nd rfl (by first | exact Or.inl rfl | exact Or.inr rfl)) (pss_one (ps_dput (by first | exact room_un 1 hr rfl | exact room_un 4 hr rfl) (pv 4) (pe_tup (pa_cons (pe_call G_l_take (hr.mono (by decide)) (by rfl) T.g_l_take T.F_l_take.kp T.b_l_take .nil pass0 (pa_cons (pv 0) (pa_cons (pv 2) pa_nil))) (pa_cons (pe_call G_l_take (hr.mono (by decide)) (by rfl) T.g_l_take T.F_l_take.kp T.b_l_take .nil pass0 (pa_cons (pv 0) (pa_cons (pv 3) pa_nil))) pa_nil))) pe_bl rfl))) (pss_one (ps_ret (pe_tup (pa_cons (pv 2) (pa_cons (pv 3) (pa_cons (pe_callTy (call_tupleK (K := K) rfl) (by rfl) T.n_tuple (by decide +kernel) (pa_cons (pe_callB (cr_sortDT rfl hr.units) (by rfl) T.n_sorted (by decide +kernel) (pa_cons (pv 4) pa_nil)) pa_nil)) pa_nil)))))))))))), ?_⟩)
  obtain ⟨p, vs', H0, ds, a, b, c, k, rfl, hs, h0, h1, tb, hk, q, ⟨mo, hmo, rfl⟩, kk⟩ := h
  have o := draw_start (N := ["_law_tin", "_law_most_so", "_law_m", "_law_n", "_law_bonds_so", "_law_hands_so", "_law_tasks_so", "_law_left_so", "_law_own", "_law_lap"]) hs h0 h1 q
  let env0 : Int → Int → Int → Nat → Nat → DD.Env := fun a b c m n => [.own (tin a b c), .dat (nI mo), .dat (nI m), .dat (nI n), .no, .no, .no, .no, .no, .no]
  let B1 : Int → DD.Env → Prop := fun j ρ => ∃ a b c m n, ρ = env0 a b c m n ∧ TB b c (k + j) ∧ 0 < m ∧ m ≤ mo ∧ 0 < n ∧ n ≤ mo
  refine tx_then (A := (· = startT 10 a b c [nI mo])) (B := B1 2) (tx_parXX (by decide) (by decide) fun ρ e => ?_) rfl o fun ρ1 σ1 H1 hB1 o1 => ?_
  · subst e
    refine ex_nat1 (q := mo) (k := k) rfl (ed_var rfl) tb (by omega) (by omega) fun m a1 c1 m0 m1 tb1 => ?_
    refine ex_nat1 (q := mo) (k := k + 1) (a := a1) (b := b) (c := c1) rfl (ed_var rfl) tb1 (by omega) (by omega) fun n a2 c2 n0 n1 tb2 => ?_
    exact ⟨a2, b, c2, m, n, rfl, by rw [show k + 2 = k + 1 + 1 by omega]; exact tb2, m0, m1, n0, n1⟩
  refine tx_then (A := B1 2) (B := B1 3) (tx_ifX fun ρ ⟨a, b, c, m, n, e, tb, m0, m1, n0, n1⟩ => ?_) hB1 o1 fun ρ2 σ2 H2 h2 o2 => ?_
  · subst e
    refine ex_op (P1 := fun ρ1 d1 => ∃ (r : Nat) (a' c' : Int), ρ1 = env0 a' b c' m n ∧ d1 = nI r ∧ TB b c' (k + 3)) (ex_nat (q := 10) (k := k + 2) rfl ed_int tb (by omega) (by omega) fun r a' c' _ tb' => ⟨r, a', c', rfl, rfl, by rw [show k + 3 = k + 2 + 1 by omega]; exact tb'⟩) fun ρ1 d1 ⟨r, a', c', e1, e2, tb'⟩ => ?_
    subst e1 e2
    refine ex_ed ed_int ⟨.bool (decide ((0 : Int) < (r : Int))), r2_B rfl, _, rfl, fun _ => tx_parXX (by decide) (by decide) fun ρ e => ?_, fun _ => tx_next fun ρ e => ⟨a', b, c', m, n, e, tb', m0, m1, n0, n1⟩⟩
    subst e
    have hmod : ∀ x : Nat, ∃ y : Nat, (2 : Int) + (x : Int) % ((if ((mo : Int) - 1) > 1 then (mo : Int) - 1 else 1)) = (y : Int) ∧ 0 < y ∧ y ≤ mo := fun x => by
      rw [if_pos (by omega)]
      have h1 : 0 ≤ (x : Int) % ((mo : Int) - 1) := Int.emod_nonneg _ (by omega)
      have h2 : (x : Int) % ((mo : Int) - 1) < (mo : Int) - 1 := Int.emod_lt_of_pos _ (by omega)
      exact ⟨(2 + (x : Int) % ((mo : Int) - 1)).toNat, by omega, by omega, by omega⟩
    obtain ⟨y1, ey1, p1, p2⟩ := hmod m
    obtain ⟨y2, ey2, p3, p4⟩ := hmod n
    have hED : ∀ (j x y : Nat), (env0 a' b c' m n)[j]? = some (.dat (nI x)) → (2 : Int) + (x : Int) % ((if ((mo : Int) - 1) > 1 then (mo : Int) - 1 else 1)) = (y : Int) → ED (tOp (rI0 fun i j => .int (i + j)) (tC (.int 2)) (tOp (rI (fun _ j => 0 < j) fun i j => .int (i % j)) (tCB (fun xs H Q => (∃ i, xs = [.int i] ∧ Q (.int i) H) ∨ ∃ k, xs = [.bl k] ∧ Q (.int (if k then 1 else 0)) H) (tCons (tVar j) tNil)) (tCB (fun xs H Q => ∃ i j, xs = [.int i, .int j] ∧ Q (.int (if j > i then j else i)) H) (tCons (tC (.int 1)) (tCons (tOp (rI0 fun i j => .int (i - j)) (tVar 1) (tC (.int 1))) tNil))))) (env0 a' b c' m n) (nI y) := fun j x y hj ey => by
      refine ed_op ed_int (ed_op (ed_cb (ea_cons (ed_var hj) ea_nil) rc_intI) (ed_cb (ea_cons ed_int (ea_cons (ed_op (ed_var rfl) ed_int (r2_I0 fun _ => Dq.int _)) ea_nil)) rc_max) (r2_I (by rw [if_pos (by omega)]; omega) fun _ => Dq.int _)) (r2_N ey)
    exact ex_ed (hED 2 m y1 rfl ey1) (ex_ed (hED 3 n y2 rfl ey2) ⟨a', b, c', y1, y2, rfl, tb', p1, p2, p3, p4⟩)
  obtain ⟨a, b, c, m, n, e, tb, m0, m1, n0, n1⟩ := h2
  subst e
  refine par3_then o2 (fun F σ3 H3 f0 z1 z2 o3 => ?_) (by show 4 < 10; decide)
  let env1 : Int → Int → Int → List Nat → List Nat → DD.Env := fun a b c hs ts => [.own (tin a b c), .dat (nI mo), .dat (nI m), .dat (nI n), .no, .own (nsD hs), .own (nsD ts), .dat (.list ((leftT m n).map tieD)), .no, .no]
  have hll := left_len m n
  refine dx_then (B := fun ρ U => ρ = env1 a b c [0] [0] ∧ U = [(0, 0)]) (A := fun ρ U => ρ = [.own (tin a b c), .dat (nI mo), .dat (nI m), .dat (nI n), .no, .own [.int 0], .own [.int 0], .no, .no, .no] ∧ U = [(0, 0)]) (dx_tx fun U => tx_asg (by decide) fun ρ ⟨e1, e2⟩ => ?_) ⟨rfl, rfl⟩ z1 z2 o3 fun ρ4 U4 σ4 H4 ⟨e4, e5⟩ o4 => ?_
  · subst e1 e2
    refine ex_ed (d := .list ((leftT m n).map tieD)) (ed_is (EL.ed (el_op (d := .list (((List.range (m - 1)).map fun i => ((0, 1 + i) : Tie)).map tieD)) (e := .list (((List.range (n - 1)).map fun i => ((1, 1 + i) : Tie)).map tieD)) (EL.ed (el_is (el_lcE (fun i => nI (1 + i)) (fun i => tieD (0, 1 + i)) (List.range (m - 1)) (src_rngN2 (a := 1) (b := m) (ea_cons ed_int (ea_cons (ed_var rfl) ea_nil)) rfl rfl (by omega)) (by rw [List.length_range]; omega) fun i _ => ed_tie ed_int (ed_var rfl)) ?_)) (EL.ed (el_is (el_lcE (fun i => nI (1 + i)) (fun i => tieD (1, 1 + i)) (List.range (n - 1)) (src_rngN2 (a := 1) (b := n) (ea_cons ed_int (ea_cons (ed_var rfl) ea_nil)) rfl rfl (by omega)) (by rw [List.length_range]; omega) fun i _ => ed_tie ed_int (ed_var rfl)) ?_)) (r2_cat ?_))) ?_) ⟨rfl, rfl⟩
    · rw [List.map_map]
      rfl
    · rw [List.map_map]
      rfl
    · rw [List.length_map, List.length_map, List.length_map, List.length_map, List.length_range, List.length_range]
      omega
    · unfold leftT
      rw [List.map_append]
  subst e4 e5
  let I : List PyData → Nat → DD.Env → List Tie → Prop := fun ds i ρ U => ∃ Y a b c hs ts, ds = Y.map tieD ∧ List.Perm Y (leftT m n) ∧ ρ = env1 a b c hs ts ∧ TB b c (k + 103 + i) ∧ NetI m n U hs ts ∧ U.length ≤ 1 + i ∧ hs.length ≤ 1 + i ∧ ts.length ≤ 1 + i ∧ ∀ y ∈ Y.take i, (y.1 = 0 → y.2 ∈ hs) ∧ (y.1 ≠ 0 → y.2 ∈ ts)
  refine dx_then (A := fun ρ U => ρ = env1 a b c [0] [0] ∧ U = [(0, 0)]) (B := fun ρ U => ∃ a b c hs ts, ρ = env1 a b c hs ts ∧ TB b c (k + 110) ∧ WebU m n U ∧ U.Nodup ∧ U.length ≤ 7) (dx_forL I (fun ρ U ⟨e1, e2⟩ => ?_) (fun ds i d hd ρ U ⟨Y, a, b, c, hs, ts, e1, hp, e2, tb, w, l1, l2, l3, cov⟩ => ?_) fun ds ρ U ⟨Y, a, b, c, hs, ts, e1, hp, e2, tb, w, l1, l2, l3, cov⟩ => ?_) ⟨rfl, rfl⟩ z1 z2 o4 fun ρ5 U5 σ5 H5 h5 o5 => ?_
  · subst e1 e2
    refine ex_draw (ds := [.list ((leftT m n).map tieD), .int (((leftT m n).map tieD).length : Nat)]) (n := 100) (k := k + 3) (a := a) (b := b) (c := c) rfl (ea_cons (ed_var rfl) (ea_cons (ed_cb (ea_cons (d := .list ((leftT m n).map tieD)) (ed_var rfl) ea_nil) (rc_len (.inl rfl))) ea_nil)) tb (by omega) ⟨_, rfl, by rw [List.length_map]; omega⟩ fun d a' b' c' ⟨xs, ys, ee, hp, e2⟩ tb' => ?_
    cases ee
    obtain ⟨Y, h1, h2⟩ := perm_map tieD hp (leftT m n) rfl
    exact ⟨ys, e2, Y, a', b', c', [0], [0], h2, h1, rfl, by rw [Int.natCast_zero, Int.add_zero, show k + 103 = k + 3 + 100 by omega]; exact tb', net_start m0 n0, Nat.le_refl _, Nat.le_refl _, Nat.le_refl _, fun y hy => by rw [List.take_zero] at hy; cases hy⟩
  · subst e1 e2
    rw [List.getElem?_map] at hd
    obtain ⟨y, hy, rfl⟩ := Option.map_eq_some_iff.mp hd
    have hi := (List.getElem?_eq_some_iff.mp hy).1
    have hYl : Y.length ≤ 6 := by rw [hp.length_eq, hll]; omega
    have hyl := left_mem.mp (hp.mem_iff.mp (List.mem_of_getElem? hy))
    refine ⟨[(8, tieD y)], tgt_name, fun u hu => by rw [List.mem_singleton.mp hu]; show 8 ∉ [0, 4]; decide, ?_⟩
    let env2 : Int → Int → Int → List Nat → List Nat → DD.Env := fun a b c hs ts => [.own (tin a b c), .dat (nI mo), .dat (nI m), .dat (nI n), .no, .own (nsD hs), .own (nsD ts), .dat (.list ((leftT m n).map tieD)), .dat (tieD y), .no]
    let N2 : DD.Env → List Tie → Prop := fun ρ U => ∃ a b c hs ts, ρ = env2 a b c hs ts ∧ TB b c (k + 103 + (i + 1 : Nat)) ∧ NetI m n U hs ts ∧ U.length ≤ 1 + (i + 1) ∧ hs.length ≤ 1 + (i + 1) ∧ ts.length ≤ 1 + (i + 1) ∧ ∀ z ∈ Y.take (i + 1), (z.1 = 0 → z.2 ∈ hs) ∧ (z.1 ≠ 0 → z.2 ∈ ts)
    have htk : Y.take (i + 1) = Y.take i ++ [y] := by
      rw [List.take_add_one, hy]
      rfl
    have e10 : ∀ x : Int, k + 103 + (i : Int) + 1 = k + 103 + ((i + 1 : Nat) : Int) := fun _ => by omega
    refine dx_imp (dx_lose (j := 8) (dx_if (B := N2) fun ρ' U' ⟨e1, e2⟩ => ⟨decide (y.1 = 0), ?_, fun hb => ?_, fun hb => ?_⟩)) fun ρ' U' ⟨ρ0, ⟨a, b, c, hs, ts, e1, tb, w, l1, l2, l3, cov⟩, e2⟩ => ?_
    · subst e1 e2
      exact et_test (ed_op (ed_op (ed_var rfl) ed_int (r2_ixT rfl)) ed_int (r2_eqIb (nI_beq y.1 0)))
    · subst e1 e2
      have hy0 : y.1 = 0 := of_decide_eq_true hb
      refine dx_seq (B := fun ρ U2 => ∃ a c kx, kx ∈ ts ∧ ρ = env2 a b c hs ts ∧ TB b c (k + 103 + (i + 1 : Nat)) ∧ U2 = putT U' (y.2, kx)) (dx_put fun ρ' U3 ⟨e1, e2⟩ => ?_) (dx_tx fun U3 => tx_app (by decide) fun ρ' ⟨a', c', kx, hkx, e1, tb', e2⟩ => ?_)
      · subst e1 e2
        refine ⟨by omega, ex_tup2 (ex_ed (d := nI y.2) (ed_op (ed_var rfl) ed_int (r2_ixT rfl)) (ex_of (j := 6) (ns := ts.map fun (x : Nat) => (x : Int)) (k := k + 103 + i) (a := a) (b := b) (c := c) rfl rfl (by decide) tb (by omega) (by rw [List.length_map]; exact ⟨List.length_pos_of_mem w.tne, by omega⟩) fun r a' c' hr tb' => ?_))⟩
        obtain ⟨kx, hkx, rfl⟩ := List.mem_map.mp hr
        exact ⟨(y.2, kx), rfl, a', c', kx, hkx, rfl, by rw [← e10 0]; exact tb', rfl⟩
      · subst e1 e2
        refine ⟨⟨nsD hs, rfl⟩, ex_ed (d := nI y.2) (ed_op (ed_var rfl) ed_int (r2_ixT rfl)) ⟨nsD hs, rfl, by unfold nsD; rw [List.length_map, List.length_map]; omega, a', b, c', hs ++ [y.2], ts, ?_, tb', w.hand (by omega) hkx, ?_, by rw [List.length_append, List.length_singleton]; omega, by omega, fun z hz => ?_⟩⟩
        · show _ = ([_, _, _, _, _, .own (nsD (hs ++ [y.2])), _, _, _, _] : DD.Env)
          unfold nsD
          rw [List.map_append, List.map_append]
          rfl
        · have := put_len (U := U') (t := (y.2, kx))
          omega
        · rw [htk] at hz
          rcases List.mem_append.mp hz with hz | hz
          · exact ⟨fun e => List.mem_append_left _ ((cov z hz).1 e), (cov z hz).2⟩
          · rw [List.mem_singleton.mp hz]
            exact ⟨fun _ => List.mem_append_right _ (List.mem_singleton.mpr rfl), fun e => absurd hy0 e⟩
    · subst e1 e2
      have hy0 : y.1 ≠ 0 := of_decide_eq_false hb
      refine dx_seq (B := fun ρ U2 => ∃ a c hx, hx ∈ hs ∧ ρ = env2 a b c hs ts ∧ TB b c (k + 103 + (i + 1 : Nat)) ∧ U2 = putT U' (hx, y.2)) (dx_put fun ρ' U3 ⟨e1, e2⟩ => ?_) (dx_tx fun U3 => tx_app (by decide) fun ρ' ⟨a', c', hx, hhx, e1, tb', e2⟩ => ?_)
      · subst e1 e2
        refine ⟨by omega, ex_tup2 (ex_of (j := 5) (ns := hs.map fun (x : Nat) => (x : Int)) (k := k + 103 + i) (a := a) (b := b) (c := c) rfl rfl (by decide) tb (by omega) (by rw [List.length_map]; exact ⟨List.length_pos_of_mem w.hne, by omega⟩) fun r a' c' hr tb' => ?_)⟩
        obtain ⟨hx, hhx, rfl⟩ := List.mem_map.mp hr
        exact ex_ed (d := nI y.2) (ed_op (ed_var rfl) ed_int (r2_ixT rfl)) ⟨(hx, y.2), rfl, a', c', hx, hhx, rfl, by rw [← e10 0]; exact tb', rfl⟩
      · subst e1 e2
        refine ⟨⟨nsD ts, rfl⟩, ex_ed (d := nI y.2) (ed_op (ed_var rfl) ed_int (r2_ixT rfl)) ⟨nsD ts, rfl, by unfold nsD; rw [List.length_map, List.length_map]; omega, a', b, c', hs, ts ++ [y.2], ?_, tb', w.task hhx (by omega), ?_, by omega, by rw [List.length_append, List.length_singleton]; omega, fun z hz => ?_⟩⟩
        · show _ = ([_, _, _, _, _, _, .own (nsD (ts ++ [y.2])), _, _, _] : DD.Env)
          unfold nsD
          rw [List.map_append, List.map_append]
          rfl
        · have := put_len (U := U') (t := (hx, y.2))
          omega
        · rw [htk] at hz
          rcases List.mem_append.mp hz with hz | hz
          · exact ⟨(cov z hz).1, fun e => List.mem_append_left _ ((cov z hz).2 e)⟩
          · rw [List.mem_singleton.mp hz]
            exact ⟨fun e => absurd e hy0, fun _ => List.mem_append_right _ (List.mem_singleton.mpr rfl)⟩
    · subst e1 e2
      exact ⟨Y, a, b, c, hs, ts, rfl, hp, rfl, tb, w, l1, l2, l3, cov⟩
  · subst e1 e2
    rw [List.length_map] at *
    have hYl : Y.length ≤ 6 := by rw [hp.length_eq, hll]; omega
    rw [List.take_length] at cov
    refine ⟨a, b, c, hs, ts, rfl, ⟨tb.1, tb.2.1, tb.2.2.1, by have := tb.2.2.2; omega⟩, w.web (fun x hx => ?_) (fun x hx => ?_), w.nd, by omega⟩
    · by_cases h0 : x = 0
      · rw [h0]
        exact w.hne
      · exact (cov (0, x) (hp.mem_iff.mpr (left_mem.mpr (.inl ⟨rfl, by show 0 < x; omega, hx⟩)))).1 rfl
    · by_cases h0 : x = 0
      · rw [h0]
        exact w.tne
      · exact (cov (1, x) (hp.mem_iff.mpr (left_mem.mpr (.inr ⟨rfl, by show 0 < x; omega, hx⟩)))).2 (by show 1 ≠ 0; decide)
  obtain ⟨a, b, c, hs, ts, e, tb, w, nd, l1⟩ := h5
  subst e
  let J : Nat → Nat → DD.Env → List Tie → Prop := fun nn i ρ U => ∃ a b c, ρ = env1 a b c hs ts ∧ TB b c (k + 111 + 2 * i) ∧ nn ≤ 16 ∧ i ≤ nn ∧ WebU m n U ∧ U.Nodup ∧ U.length ≤ 7 + i
  have hmn : m * n ≤ 4 * 4 := Nat.mul_le_mul (by omega) (by omega)
  refine dx_then (A := fun ρ U => ρ = env1 a b c hs ts ∧ U = U5) (B := fun ρ U => ∃ a b c, ρ = env1 a b c hs ts ∧ TB b c (k + 300) ∧ WebU m n U ∧ U.Nodup ∧ U.length ≤ 40) (dx_forR J (fun ρ U ⟨e1, e2⟩ => ?_) (fun nn i hi ρ U ⟨a, b, c, e1, tb, h16, hin, w, nd, l1⟩ => ?_) fun nn ρ U ⟨a, b, c, e1, tb, h16, hin, w, nd, l1⟩ => ?_) ⟨rfl, rfl⟩ z1 z2 o5 fun ρ6 U6 σ6 H6 ⟨a6, b6, c6, e6, tb6, w6, nd6, l6⟩ ⟨Hb6, s6, at6⟩ => ?_
  · subst e1 e2
    refine ex_nat (q := m * n + 1) (k := k + 110) (a := a) (b := b) (c := c) rfl (ed_op (d := .int ((m : Int) * n)) (ed_op (ed_var rfl) (ed_var rfl) (r2_I (.inl ⟨by omega, by omega⟩) fun _ => .int _)) ed_int (r2_N (by rw [Int.natCast_add, Int.natCast_mul]; rfl))) tb (by omega) (by omega) fun r a' c' hr tb' => ⟨r, rfl, by omega, a', b, c', rfl, by rw [Int.natCast_zero, Int.mul_zero, Int.add_zero, show k + 111 = k + 110 + 1 by omega]; exact tb', by omega, Nat.zero_le _, w, nd, l1⟩
  · subst e1
    refine ⟨[(9, .int (i : Int))], tgt_name, fun u hu => by rw [List.mem_singleton.mp hu]; show 9 ∉ [0, 4]; decide, ?_⟩
    refine dx_imp (dx_lose (j := 9) (B := fun ρ U' => ∃ a b c, ρ = [.own (tin a b c), .dat (nI mo), .dat (nI m), .dat (nI n), .no, .own (nsD hs), .own (nsD ts), .dat (.list ((leftT m n).map tieD)), .no, .dat (.int (i : Int))] ∧ TB b c (k + 111 + 2 * (i + 1 : Nat)) ∧ WebU m n U' ∧ U'.Nodup ∧ U'.length ≤ 7 + (i + 1)) (dx_put fun ρ' U' ⟨e1, e2⟩ => ?_)) fun ρ' U' ⟨ρ0, ⟨a, b, c, e1, tb, w, nd, l1⟩, e2⟩ => ?_
    · subst e1 e2
      refine ⟨by omega, ex_tup2 (ex_nat (q := m) (k := k + 111 + 2 * i) (a := a) (b := b) (c := c) rfl (ed_var rfl) tb (by omega) (by omega) fun r1 a1 c1 hr1 tb1 => ex_nat (q := n) (k := k + 111 + 2 * i + 1) (a := a1) (b := b) (c := c1) rfl (ed_var rfl) tb1 (by omega) (by omega) fun r2 a2 c2 hr2 tb2 => ⟨(r1, r2), rfl, a2, b, c2, rfl, ?_, web_put w ⟨hr1, hr2⟩, put_nodup nd, ?_⟩)⟩
      · rw [show k + 111 + 2 * ((i + 1 : Nat) : Int) = k + 111 + 2 * (i : Int) + 1 + 1 by omega]
        exact tb2
      · have := put_len (U := U') (t := (r1, r2))
        omega
    · subst e1 e2
      exact ⟨a, b, c, rfl, tb, h16, hi, w, nd, l1⟩
  · subst e1
    exact ⟨a, b, c, rfl, ⟨tb.1, tb.2.1, tb.2.2.1, by have := tb.2.2.2; omega⟩, w, nd, by omega⟩
  · subst e6
    refine ret_net s6 at6 z1 z2 (by omega) rfl rfl rfl fun v H7 H7' g7 q7 e7 e8 => ?_
    rw [f0] at e7 e8
    exact kk _ v a6 b6 c6 H7 H7' ⟨mo, m, n, srt1 U6, rfl, Web.of_srt w6 nd6, m1, n1, by rw [(srt1_perm U6).length_eq]; exact l6, rfl⟩ g7 e7 e8 tb6 q7

end
end K4P
end

section
set_option Elab.async false
set_option linter.all false
set_option maxRecDepth 100000
set_option maxHeartbeats 4000000
namespace K4P
open PySem PySem.Spec L2 RZ DD K4
open PyProof.Rows (firstMet)
local macro_rules | `(tactic| walk_at "ed") => `(tactic| (repeat' (first
  | (with_reducible (first | exact ed_int | exact ed_bl | exact ed_str | exact ed_non | exact ea_nil | exact et_yes _ | apply ea_cons | apply ed_tup | apply r2_B | apply r2_eqIb | apply r2_neIb | exact r2_I0 (fun _ => Dq.int _) | exact rc_abs | exact rc_intI | exact rc_intB | exact rc_min | exact rc_max | exact r2_isN | apply ed_isi | apply ed_andT | apply ed_andV | apply ed_notV | apply ed_notF | apply ed_op | apply ed_un | apply et_val | apply et_test | apply et_not | apply et_notF | apply et_notT | apply ed_call | apply ed_cb | apply ed_chainT | apply et_orF | apply et_andT))
  | ((with_reducible apply ed_var); exact rfl) | ((with_reducible apply len_ok); exact rfl) | ((with_reducible apply kits); exact rfl) | exact (rfl : decide _ = _) | exact (rfl : (_ == _) = _) | exact nI_beq _ _
  | ((with_reducible apply r2_ixTu); exact r2_ixT rfl) | ((with_reducible apply r2_ixLu); exact r2_ixL rfl) | ((with_reducible apply rc_u); first | exact rc_len (.inr rfl) | exact rc_len (.inl rfl)))))
section
variable {P : Program} {w : World} {K : PySem.W.Frag} {mg : Str → Option Value} {base : Heap} (T : Tx K mg)
theorem ex_ixO {ρ : DD.Env} {ti : TE} {P : DD.Env → PyData → Prop} {j : Nat} {es : List PyData} {i : Int} {d : PyData} (hj : ρ[j]? = some (.own es)) (hi : ED ti ρ (.int i)) (e : atI es i = some d) (hp : P ρ d) : EX (tOp (rIxL K) (tVar j) ti) ρ P := fun Hi0 Hi H0 H σ s Q k => by
  obtain ⟨p, vs, h1, h2, h3, h4, h5⟩ := s.own j es hj
  obtain ⟨v, e1, q1⟩ := h5.at e
  refine ⟨_, h1, hi σ H0 H s.gr.sub s.len s.dat _ fun y H1 H1' g q => ?_⟩
  rw [q.int_inv]
  exact ⟨p, vs, i, v, rfl, rfl, .inl (.inl (g.big _ _ h2)), e1, k ρ d v H1 H1' hp g.base (s.more g) (q1.up g.base)⟩
theorem tx_store {js : List Nat} {A B : DD.Env → Prop} {te ti : TE} {j : Nat} (h : ∀ ρ, A ρ → EX te ρ fun ρ' d => ∃ es i n, ρ'[j]? = some (.own es) ∧ ED ti ρ' (.int i) ∧ ixN es.length i = some n ∧ B (ρ'.set j (.own (es.set n d)))) : TX js (tAsg te (gSub (tVar j) ti rSetL)) A B := fun F Hi0 Hi D σ H ρ a ⟨H0, s, hp⟩ k =>
  h ρ a Hi0 Hi H0 H σ s _ fun ρ' d v H1 H1' ⟨es, i, n, hj, hi, hn, b⟩ sm s1 q => by
    obtain ⟨p, vs, h1, h2, h3, h4, h5⟩ := s1.own j es hj
    refine ⟨_, h1, hi σ H1 H1' s1.gr.sub s1.len s1.dat _ fun y H2 H2' g qy => ?_⟩
    rw [qy.int_inv]
    have s2 := s1.more g
    have h5' := h5.up g.base
    have hn2 := (ixN_seq hn).2.1
    have hst : DqAll H2 (vs.set n v) (es.set n d) := by
      rw [List.set_eq_take_append_cons_drop, List.set_eq_take_append_cons_drop, if_pos (by rw [h5.len]; exact hn2), if_pos hn2]
      exact (h5'.take n).append (.cons (q.up g.base) (h5'.drop (n + 1)))
    exact ⟨p, vs, i, n, rfl, rfl, g.big _ _ h2, by rw [h5.len]; exact hn, k _ _ _ b ⟨H2, s2.store hj h1 hst, hp⟩⟩
theorem pure_runT {R : List PyData → PyData → Prop} {N : List Str} {t : TS} (h : ∀ ds d, R ds d → TXR [] t (· = startE N.length ds) fun _ d' => d' = d) (vs : List V) (H : Hp) (Q : VK) (E : XK) (hp : Pure R vs H Q E) : t { nx := fun _ H' => Q .non H', rt := Q } (L2.start N vs) H := by
  obtain ⟨H0, ds, d, s, a, r, k⟩ := hp
  exact h ds d r (fun _ => 0) H0 H _ _ H _ rfl ⟨H0, startE_ok s a, fun j hj => nomatch hj⟩ fun ρ' d' v σ' H0' H' e s' _ q => by
    subst e
    exact k v H0' H' s'.gr q
theorem el_orT {ρ : DD.Env} {ta tb : TE} {xs ys : List PyData} (h1 : EL ta ρ xs) (h2 : EL tb ρ ys) : EL (tOrT K ta tb) ρ (if xs.isEmpty then ys else xs) := fun σ H0 H s l q Q k => h1 σ H0 H s l q _ fun p vs H1 H1' g hp h0 h1' q1 => by
  have he : vs.isEmpty = xs.isEmpty := by
    have := q1.len
    cases vs <;> cases xs <;> first | rfl | cases this
  refine ⟨!vs.isEmpty, .inl ⟨vs, .inl (.inl h1'), rfl⟩, ?_⟩
  rw [he]
  cases hx : xs.isEmpty with
  | true =>
    rw [hx] at k
    exact iteF (h2 σ H1 H1' g.sub l (q.up g.base) Q fun p' vs' H2 H2' g2 hp' h0' h1'' q2 => k p' vs' H2 H2' (g.trans g2) (g.big.free hp') h0' h1'' q2)
  | false =>
    rw [hx] at k
    exact iteT (k p vs H1 H1' g hp h0 h1' q1)
theorem tx_forD {js : List Nat} {A B : DD.Env → Prop} {wi : TI} {g : TG} {tb : TS} (ds : List PyData) (I : Nat → DD.Env → Prop) (hs : ∀ ρ, A ρ → SrcD wi ρ ds ∧ I 0 ρ)
    (hb : ∀ i d, ds[i]? = some d → ∀ ρ, I i ρ → ∃ us, TgtD g d us ∧ (∀ u ∈ us, u.1 ∉ js) ∧ TX js tb (· = setE ρ us) (I (i + 1))) (he : ∀ ρ, I ds.length ρ → B ρ) : TX js (tFor wi g tb) A B :=
  tx_forS (fun _ : Unit => ds) (fun _ => I) (fun ρ a Hi0 Hi H0 H σ s R k => (hs ρ a).1 σ H0 H s.gr.sub s.len s.dat R fun J H1 H1' g w => k () ρ J H1 H1' (hs ρ a).2 g.base (s.more g) w) (fun _ i d hd ρ ii => hb i d hd ρ ii) fun _ ρ ii => he ρ ii
def cellF (ns : List Int) : Int := ((ns.drop 1).take 62).zipIdx.foldl (fun c z => c + z.1 * ((z.2 : Int) + 2)) (ns.headD 0)
def R_cells (ds : List PyData) (d : PyData) : Prop := ∃ ns : List Int, ns.length ≤ 100000 ∧ ds = [.list (ns.map .int), .int 1] ∧ d = .list [.int (cellF ns)]
def boxB (c : Int) : Int := c % 2305843009213693951 + 3188004
def boxA (c : Int) : Int := (if c < 0 then -c else c) * (if decide ((10 : Int) ^ 18 ≤ (if c < 0 then -c else c)) then 1 else 0)
def R_box (ds : List PyData) (es : List PyData) : Prop := ∃ c : Int, ds = [.list [.int c], .int 0] ∧ es = tin (boxA c) (boxB c) 0
theorem box_tb (c : Int) : TB (boxB c) 0 0 := by
  have h1 : 0 ≤ c % 2305843009213693951 := Int.emod_nonneg _ (by decide)
  have h2 : c % 2305843009213693951 < 2305843009213693951 := Int.emod_lt_of_pos _ (by decide)
  unfold TB boxB
  omega
theorem ok_box : FnOk P w K mg base CX0 1 T.f_l_box T.d_l_box ["_law_script", "_law_k"] (PureL R_box) := by
  refine T.F_l_box.ok sc_l_box (pureL_len (n := 2) fun ds es ⟨_, e, _⟩ => by rw [e]; rfl) (fun cdv A outer s H vs Q E hr h => ⟨_, PSs.nox (pss_cons (ps_set (i := 2) sc_l_box.nd rfl (by first | exact Or.inl rfl | exact Or.inr rfl) (pe_ifExp (pt_cmpR op_lt (pv 1) (pe_callB (call_lenK (K := K) rfl) (by rfl) T.n_len (by decide +kernel) (pa_cons (pv 0) pa_nil)) (by first | exact nomark _ | rfl)) (pe_ix (show IxR _ (rIxL K) from ix_list) (pv 0) (pv 1) (fun _ _ => rfl)) pe_int)) (pss_one (ps_ret (pe_lst (pa_cons (pe_op op_mul (pe_callB call_abs (by rfl) T.n_abs (by decide +kernel) (pa_cons (pv 2) pa_nil)) (pe_callTy call_int1 (by rfl) T.n_int (by decide +kernel) (pa_cons (pe_cmpR op_ge (pe_callB call_abs (by rfl) T.n_abs (by decide +kernel) (pa_cons (pv 2) pa_nil)) (pe_op op_pow pe_int pe_int) (by first | exact nomark _ | rfl)) pa_nil))) (pa_cons (pe_op op_add (pe_op op_add (pe_op op_mod (pe_callTy call_int1 (by rfl) T.n_int (by decide +kernel) (pa_cons (pv 2) pa_nil)) pe_int) (pe_op op_mul pe_int (pv 1))) pe_int) (pa_cons pe_int pa_nil))))))), pureL_run (fun ds es r => ?_) vs H Q E h⟩)
  obtain ⟨c, rfl, rfl⟩ := r
  refine rl_seq (rn_asg (d := .int c) (ed_if (b := true) (et_test (ed_is (ed_op (ed_var rfl) (ed_cb (ea_cons (ed_var rfl) ea_nil) (rc_len (.inl rfl))) (r2_I0 fun _ => Dq.bl _)) rfl)) (fun _ => ed_op (ed_var rfl) (ed_var rfl) (r2_ixL rfl)) fun z => absurd z.symm Bool.false_ne_true)) (rl_ret (el_lst (ea_cons (ed_op (ed_cb (ea_cons (ed_var rfl) ea_nil) rc_abs) (ed_cb (ea_cons (ed_op (ed_cb (ea_cons (ed_var rfl) ea_nil) rc_abs) (ed_op ed_int ed_int (r2_I ⟨by decide, by decide, by decide⟩ fun _ => .int _)) (r2_I0 fun _ => Dq.bl _)) ea_nil) rc_intB) (r2_I (.inr ?_) fun _ => .int _)) (ea_cons (ed_op (ed_op (ed_op (ed_cb (ea_cons (ed_var rfl) ea_nil) rc_intI) ed_int (r2_I (show (0 : Int) < 2305843009213693951 by decide) fun _ => .int _)) (ed_op ed_int (ed_var rfl) (r2_I (.inl ⟨by decide, by decide⟩) fun _ => .int _)) (r2_I0 fun _ => .int _)) ed_int (r2_N ?_)) (ea_cons ed_int ea_nil))) (len_ok rfl)))
  · have hb : ∀ b : Bool, -(2 ^ 64 : Int) < (if b = true then 1 else 0) ∧ (if b = true then (1 : Int) else 0) < 2 ^ 64 := by decide
    exact hb _
  · unfold boxB
    omega
theorem ok_cells : FnOk P w K mg base CX0 1 T.f_l_cells T.d_l_cells ["_law_script", "_law_most_so"] (Pure R_cells) := by
  refine T.F_l_cells.ok sc_l_cells (pure_len (n := 2) fun ds es ⟨_, _, e, _⟩ => by rw [e]; rfl) (fun cdv A outer s H vs Q E hr h => ⟨_, PSs.nox (pss_cons (ps_set (i := 2) sc_l_cells.nd rfl (by first | exact Or.inl rfl | exact Or.inr rfl) (show PE _ _ (tOrT K _ _) from pe_orT (pe_callTy (call_listK (K := K) rfl) (by rfl) T.n_list (by decide +kernel) (pa_cons (pe_slice (show SlR _ (rSlL K) from sl_list) (pv 0) po_none (po_some (pv 1))) pa_nil)) (pe_one (pe_lst (pa_cons pe_int pa_nil))))) (pss_cons (ps_for PassesOwn.never rfl (show PI _ _ _ (iEnum K _) from pi_enum (by rfl) T.n_enumerate (pa_cons (pe_slice (show SlR _ (rSlL K) from sl_list) (pv 0) (po_some (pv 1)) (po_some pe_int)) pa_nil)) (show PG _ _ (gTup K 2 _) from pg_tup rfl (pgs_cons (pg_name (i := 3) sc_l_cells.nd rfl (by first | exact Or.inl rfl | exact Or.inr rfl)) (pgs_cons (pg_name (i := 4) sc_l_cells.nd rfl (by first | exact Or.inl rfl | exact Or.inr rfl)) pgs_nil))) (pss_cons (ps_set (i := 5) sc_l_cells.nd rfl (by first | exact Or.inl rfl | exact Or.inr rfl) (pe_op op_mod (pe_callTy call_int1 (by rfl) T.n_int (by decide +kernel) (pa_cons (pv 3) pa_nil)) (pv 1))) (pss_one (ps_asg (pe_op op_add (pe_ix (show IxR _ (rIxL K) from ix_list) (pv 2) (pv 5) (fun _ _ => rfl)) (pe_op op_mul (pv 4) (pe_op op_add (pv 3) pe_int))) (pg_sub (pv 2) (pv 5) set_list))))) (pss_one (ps_ret (pv 2))))), pure_runT (fun ds d r => ?_) vs H Q E h⟩)
  obtain ⟨ns, hl, rfl, rfl⟩ := r
  let env : Int → DD.Env := fun c => [.dat (.list (ns.map .int)), .dat (.int 1), .own [.int c], .no, .no, .no]
  let xs := (ns.drop 1).take 62
  have hxl : xs.length ≤ 62 := by show ((ns.drop 1).take 62).length ≤ 62; rw [List.length_take]; omega
  let st : Nat → Int := fun i => (xs.zipIdx.take i).foldl (fun c z => c + z.1 * ((z.2 : Int) + 2)) (ns.headD 0)
  refine txr_seq (B := (· = env (ns.headD 0))) (tx_asgL (by decide) fun ρ e => ?_) (txr_seq (B := (· = env (cellF ns))) (tx_forD (prs (rngD 0 (xs.map PyData.int).length) (xs.map .int)) (fun i ρ => ρ = env (st i)) (fun ρ e => ?_) (fun i d hd ρ e => ?_) fun ρ e => ?_) (txr_retO (by decide) fun ρ e => ?_))
  · subst e
    refine ⟨_, el_orT (el_cb (ea_cons (EL.ed (el_slL (lo := none) (hi := some ((1 : Nat) : Int)) (ed_var rfl) eo_none (eo_some (ed_var rfl)))) ea_nil) (rc_listOf (.inl rfl))) (el_lst (ea_cons ed_int ea_nil) (len_ok rfl)), ?_⟩
    rw [cut_to]
    cases ns <;> rfl
  · subst e
    refine ⟨src_enumL ?_, rfl⟩
    refine ed_is (EL.ed (el_slL (lo := some ((1 : Nat) : Int)) (hi := some ((63 : Nat) : Int)) (ed_var rfl) (eo_some (ed_var rfl)) (eo_some ed_int))) ?_
    rw [cutD_map]
    unfold cutD
    rw [HT.sIx_nat, HT.sIx_nat]
    refine congrArg (fun l : List Int => PyData.list (l.map PyData.int)) ?_
    show (ns.drop (min 1 ns.length)).take (min 63 ns.length - min 1 ns.length) = (ns.drop 1).take 62
    by_cases h1 : ns.length = 0
    · rw [List.eq_nil_of_length_eq_zero h1]
      rfl
    · rw [show min 1 ns.length = 1 by omega]
      by_cases h2 : 63 ≤ ns.length
      · rw [show min 63 ns.length = 63 by omega]
      · rw [List.take_of_length_le (by rw [List.length_drop]; omega), List.take_of_length_le (by rw [List.length_drop]; omega)]
  · subst e
    have hi : i < xs.length := by
      have := (List.getElem?_eq_some_iff.mp hd).1
      unfold prs at this
      rw [List.length_map, List.length_zip, rngD_len, List.length_map] at this
      omega
    have hd2 : d = .tuple [.int (i : Int), .int xs[i]] := by
      have h1 : (rngD 0 (xs.map PyData.int).length)[i]? = some (.int (0 + (i : Int))) := rngD_get 0 _ i (by rw [List.length_map]; exact hi)
      have h2 : (xs.map PyData.int)[i]? = some (.int xs[i]) := by rw [List.getElem?_map, List.getElem?_eq_getElem hi]; rfl
      have := prs_get h1 h2
      rw [hd, Int.zero_add] at this
      exact Option.some.inj this
    subst hd2
    have hst : st (i + 1) = st i + xs[i] * ((i : Int) + 2) := by
      show (xs.zipIdx.take (i + 1)).foldl _ _ = _
      rw [fold_take _ _ xs.zipIdx i (xs[i], i) (by rw [List.getElem?_zipIdx, List.getElem?_eq_getElem hi, Nat.zero_add]; rfl)]
    refine ⟨[(3, .int (i : Int)), (4, .int xs[i])], tgt_two, fun u _ => List.not_mem_nil, ?_⟩
    let env2 : Int → DD.Env := fun c => [.dat (.list (ns.map .int)), .dat (.int 1), .own [.int c], .dat (.int (i : Int)), .dat (.int xs[i]), .dat (.int 0)]
    refine tx_imp (tx_lose (j := 3) (tx_lose (j := 4) (tx_lose (j := 5) (tx_seq (B := (· = env2 (st i))) (tx_asg (by decide) fun ρ e => ?_) (tx_store (B := (· = env2 (st (i + 1)))) fun ρ e => ?_))))) fun ρ ⟨ρ0, ⟨ρ1, ⟨ρ2, e1, e2⟩, e3⟩, e4⟩ => ?_
    · subst e
      refine ex_ed (d := .int 0) (ed_op (ed_cb (ea_cons (ed_var rfl) ea_nil) rc_intI) (ed_var rfl) (r2_I (show (0 : Int) < 1 by decide) fun _ => ?_)) rfl
      rw [Int.emod_one]
      exact .int 0
    · subst e
      refine ex_op (P1 := fun ρ1 d1 => ρ1 = env2 (st i) ∧ d1 = .int (st i)) (ex_ixO (j := 2) (es := [.int (st i)]) (i := 0) rfl (ed_var rfl) rfl ⟨rfl, rfl⟩) fun ρ1 d1 ⟨e1, e2⟩ => ?_
      subst e1 e2
      refine ex_ed (d := .int (xs[i] * ((i : Int) + 2))) (ed_op (ed_var rfl) (ed_op (ed_var rfl) ed_int (r2_N rfl)) (r2_I (.inr ⟨by omega, by omega⟩) fun _ => .int _)) ⟨.int (st (i + 1)), r2_N hst.symm, [.int (st i)], 0, 0, rfl, ed_var rfl, rfl, rfl⟩
    · subst e1
      subst e2
      subst e3
      subst e4
      rfl
  · rw [e]
    show env _ = env _
    congr 1
    unfold prs
    rw [List.length_map, List.length_zip, rngD_len, List.length_map, Nat.min_self]
    show (xs.zipIdx.take xs.length).foldl _ _ = _
    rw [List.take_of_length_le (by rw [List.length_zipIdx]; exact Nat.le_refl _)]
    rfl
  · subst e
    exact ⟨_, rfl, rfl⟩
end
end K4P
end

section
set_option Elab.async false
set_option linter.all false
set_option maxRecDepth 100000
set_option maxHeartbeats 4000000
namespace K4P
open PySem PySem.Spec L2 RZ DD K4
open PyProof.Rows (firstMet)
local macro_rules | `(tactic| walk_at "ed") => `(tactic| (repeat' (first
  | (with_reducible (first | exact ed_int | exact ed_bl | exact ed_str | exact ed_non | exact ea_nil | exact et_yes _ | apply ea_cons | apply ed_tup | apply r2_B | apply r2_eqIb | apply r2_neIb | exact r2_I0 (fun _ => Dq.int _) | exact rc_abs | exact rc_intI | exact rc_intB | exact rc_min | exact rc_max | exact r2_isN | apply ed_isi | apply ed_andT | apply ed_andV | apply ed_notV | apply ed_notF | apply ed_op | apply ed_un | apply et_val | apply et_test | apply et_not | apply et_notF | apply et_notT | apply ed_call | apply ed_cb | apply ed_chainT | apply et_orF | apply et_andT))
  | ((with_reducible apply ed_var); exact rfl) | ((with_reducible apply len_ok); exact rfl) | ((with_reducible apply kits); exact rfl) | exact (rfl : decide _ = _) | exact (rfl : (_ == _) = _) | exact nI_beq _ _
  | ((with_reducible apply r2_ixTu); exact r2_ixT rfl) | ((with_reducible apply r2_ixLu); exact r2_ixL rfl) | ((with_reducible apply rc_u); first | exact rc_len (.inr rfl) | exact rc_len (.inl rfl)))))
section
variable {P : Program} {w : World} {K : PySem.W.Frag} {mg : Str → Option Value} {base : Heap} (T : Tx K mg)
theorem datE_one {H : Hp} {v : V} {d : PyData} (q : Dq H v d) : DatE H [some v] [.dat d] := fun i d' e => by
  cases i with
  | zero =>
    cases e
    exact ⟨v, rfl, q⟩
  | succ i => cases e
/-- tuple(sorted(set(e))) of ties -/
theorem ex_sortT {ρ : DD.Env} {te : TE} {PP : DD.Env → PyData → Prop} (h : EX te ρ fun ρ1 d1 => ∃ X Y, d1 = tiesD X ∧ X.length < 64 ∧ (∀ t ∈ X, t.1 < 64 ∧ t.2 < 64) ∧ Y.Pairwise ltT ∧ (∀ t, t ∈ Y ↔ t ∈ X) ∧ PP ρ1 (tiesD Y)) :
    EX (tCB (fun xs H Q => ∃ p ys, xs = [.ref p] ∧ ((SqL K H p ys ∧ ∀ l, H l = none → Q (.ref l) (upd H l (.tup ys))) ∨ (SqT K H p ys ∧ Q (.ref p) H))) (tCons (tCB (rSortedT K P w) (tCons (tCB (rSetT K P w) (tCons te tNil)) tNil)) tNil)) ρ PP := fun Hi0 Hi H0 H σ s Q k => h Hi0 Hi H0 H σ s _ fun ρ1 d1 v H1 H1' ⟨X, Y, hd, h1, h2, h3, h4, pp⟩ sm s1 q => by
  subst hd
  have e : ED (tCB (fun xs H Q => ∃ p ys, xs = [.ref p] ∧ ((SqL K H p ys ∧ ∀ l, H l = none → Q (.ref l) (upd H l (.tup ys))) ∨ (SqT K H p ys ∧ Q (.ref p) H))) (tCons (tCB (rSortedT K P w) (tCons (tCB (rSetT K P w) (tCons (tVar 0) tNil)) tNil)) tNil)) [.dat (tiesD X)] (tiesD Y) :=
    ed_cb (ea_cons (EL.ed (el_sortSet (ed_var rfl) h1 h2 h3 h4)) ea_nil) (rc_tupleOf (.inl rfl))
  obtain ⟨x, ex, hx⟩ := e [some v] H1 H1' s1.gr.sub rfl (datE_one q) Q fun u H2 H2' g q2 => k ρ1 _ u H2 H2' pp (sm.trans g.base) (s1.more g) q2
  cases ex
  exact hx
theorem ex_tup3 {ρ : DD.Env} {ta tb tc : TE} {d1 d2 : PyData} {P : DD.Env → PyData → Prop} (h1 : ED ta ρ d1) (h2 : ED tb ρ d2) (h : EX tc ρ fun ρ3 d3 => P ρ3 (.tuple [d1, d2, d3])) : EX (tTup (tCons ta (tCons tb (tCons tc tNil)))) ρ P := fun Hi0 Hi H0 H σ s Q k =>
  h1 σ H0 H s.gr.sub s.len s.dat _ fun v1 H1 H1' g1 q1 => h2 σ H1 H1' g1.sub s.len (s.dat.up g1.base) _ fun v2 H2 H2' g2 q2 => h Hi0 Hi H2 H2' σ ((s.more g1).more g2) _ fun ρ3 d3 v3 H3 H3' pp sm s3 q3 => ⟨by show 3 ≤ sizeLine; decide, fun p hp => by
    have sn := same_new (o := .tup [v1, v2, v3]) (s3.gr.sub.free hp)
    exact k ρ3 _ _ _ _ pp (((g1.base.trans g2.base).trans sm).trans sn) (s3.more (.new1 s3.gr.sub hp)) (.tup upd_same (.cons (((q1.up g2.base).up sm).up sn) (.cons ((q2.up sm).up sn) (.cons (q3.up sn) .nil))))⟩
/-- what is left of a big net -/
theorem cut_web {m n : Nat} {U Y : List Tie} (w : Web m n U) (p : List.Perm Y U) {X : List Tie} (hX : X.Pairwise ltT) (hm : ∀ t, t ∈ X ↔ t ∈ srt1 (greedy m (List.range (m + n)) [] Y) ++ U.take 2) : Web m n X ∧ X.length + 1 ≤ m + n + 2 := by
  have wY := w.toWebU.perm p
  have hg := treesW_mem wY _ (greedy_mem m Y (List.range (m + n)) [] wY.len0 wY.eds' wY.grown)
  generalize greedy m (List.range (m + n)) [] Y = G at *
  have hGU : ∀ t ∈ G, t ∈ U := fun t ht => p.mem_iff.mp (hg.1.subset ht)
  have hXU : ∀ t ∈ X, t ∈ U := fun t ht => by
    rcases List.mem_append.mp ((hm t).mp ht) with h | h
    · exact hGU t ((srt1_perm G).mem_iff.mp h)
    · exact List.mem_of_mem_take h
  have hGX : ∀ t ∈ G, t ∈ X := fun t ht => (hm t).mpr (List.mem_append_left _ ((srt1_perm G).mem_iff.mpr ht))
  have hGe : ∀ e ∈ G.map (ed m), e.1 < m + n ∧ e.2 < m + n := fun e he => by
    obtain ⟨t, ht, rfl⟩ := List.mem_map.mp he
    exact w.eds _ (List.mem_map.mpr ⟨t, hGU t ht, rfl⟩)
  have hc : Conn (m + n) (G.map (ed m)) := (Conn_iff_M w.pos hGe).mpr ((grown_one _ _ w.len0 (by rw [List.length_range]; exact hGe)).mp hg.2.2)
  refine ⟨{ hm := w.hm, hn := w.hn, rng := fun t ht => w.rng t (hXU t ht), conn := fun f hf => hc f fun e he => ?_, asc := hX }, ?_⟩
  · obtain ⟨t, ht, rfl⟩ := List.mem_map.mp he
    exact hf _ (List.mem_map.mpr ⟨t, hGX t ht, rfl⟩)
  · have h1 : X.length ≤ (srt1 G ++ U.take 2).length := (asc_nodup hX).length_le_of_subset fun t ht => (hm t).mp ht
    rw [List.length_append, (srt1_perm G).length_eq, List.length_take] at h1
    omega
end
end K4P
end

section
set_option Elab.async false
set_option linter.all false
set_option maxRecDepth 100000
set_option maxHeartbeats 4000000
namespace K4P
open PySem PySem.Spec L2 RZ DD K4
open PyProof.Rows (firstMet)
local macro_rules | `(tactic| walk_at "ed") => `(tactic| (repeat' (first
  | (with_reducible (first | exact ed_int | exact ed_bl | exact ed_str | exact ed_non | exact ea_nil | exact et_yes _ | apply ea_cons | apply ed_tup | apply r2_B | apply r2_eqIb | apply r2_neIb | exact r2_I0 (fun _ => Dq.int _) | exact rc_abs | exact rc_intI | exact rc_intB | exact rc_min | exact rc_max | exact r2_isN | apply ed_isi | apply ed_andT | apply ed_andV | apply ed_notV | apply ed_notF | apply ed_op | apply ed_un | apply et_val | apply et_test | apply et_not | apply et_notF | apply et_notT | apply ed_call | apply ed_cb | apply ed_chainT | apply et_orF | apply et_andT))
  | ((with_reducible apply ed_var); exact rfl) | ((with_reducible apply len_ok); exact rfl) | ((with_reducible apply kits); exact rfl) | exact (rfl : decide _ = _) | exact (rfl : (_ == _) = _) | exact nI_beq _ _
  | ((with_reducible apply r2_ixTu); exact r2_ixT rfl) | ((with_reducible apply r2_ixLu); exact r2_ixL rfl) | ((with_reducible apply rc_u); first | exact rc_len (.inr rfl) | exact rc_len (.inl rfl)))))
section
variable {P : Program} {w : World} {K : PySem.W.Frag} {mg : Str → Option Value} {base : Heap} (T : Tx K mg)
theorem webD_inj {m n m' n' : Nat} {U U' : List Tie} (h : webD m n U = webD m' n' U') : m = m' ∧ n = n' ∧ U = U' := by
  unfold webD at h
  injection h with h
  injection h with h1 h
  injection h with h2 h
  injection h with h3 _
  injection h1 with h1
  injection h2 with h2
  have q := tiesD_eqv U U'
  rw [← h3, tiesD_eqv U U, decide_eq_true rfl] at q
  exact ⟨by omega, by omega, of_decide_eq_true q.symm⟩
theorem some_srt (X : List Tie) : ∃ Y : List Tie, Y.Pairwise ltT ∧ ∀ t, t ∈ Y ↔ t ∈ X := by
  have : ∀ X : List Tie, ∃ D : List Tie, D.Nodup ∧ ∀ t, t ∈ D ↔ t ∈ X := fun X => by
    induction X with
    | nil => exact ⟨[], .nil, fun t => Iff.rfl⟩
    | cons x X ih =>
      obtain ⟨D, h1, h2⟩ := ih
      exact ⟨putT D x, put_nodup h1, fun t => by rw [put_mem, h2, List.mem_cons, Or.comm]⟩
  obtain ⟨D, h1, h2⟩ := this X
  exact ⟨srt1 D, srt1_asc h1, fun t => by rw [(srt1_perm D).mem_iff, h2]⟩
theorem sixteen_mem {x y : Nat} (h1 : 0 < x) (h2 : x ≤ 4) (h3 : 0 < y) (h4 : y ≤ 4) : (x, y) ∈ sixteen := by
  have h : ∀ x ∈ List.range 5, ∀ y ∈ List.range 5, 0 < x → 0 < y → (x, y) ∈ sixteen := by decide +kernel
  exact h x (List.mem_range.mpr (by omega)) y (List.mem_range.mpr (by omega)) h1 h3
/-- tuple(sorted(ties)) -/
theorem ed_srt {ρ : DD.Env} {te : TE} {T : List Tie} (h : ED te ρ (tiesD T)) (hl : T.length ≤ 100000) : ED (tCB (fun xs H Q => ∃ p ys, xs = [.ref p] ∧ ((SqL K H p ys ∧ ∀ l, H l = none → Q (.ref l) (upd H l (.tup ys))) ∨ (SqT K H p ys ∧ Q (.ref p) H))) (tCons (tCB rSortQ (tCons te tNil)) tNil)) ρ (tiesD (srt1 T)) :=
  ed_cb (ea_cons (EL.ed (el_is (el_cb (ea_cons h ea_nil) (rc_sortQ (.inr rfl) (all_alike1 _) (sortable1 _) (by rw [List.length_map]; exact hl) (dep1 _))) (map_srt1 _))) ea_nil) (rc_tupleOf (.inl rfl))
def Dom_right (ds : List PyData) : Prop := ds = []
def R_right (_ : List PyData) (d : PyData) : Prop := d = .bool true
theorem ok_right (G_l_net : FnOk P w K mg base CX0 3 T.f_l_net T.d_l_net ["_law_tin", "_law_most_so"] (DrawT 300 Dom_net R_net)) (G_l_take : FnOk P w K mg base CX0 1 T.f_l_take T.d_l_take ["_law_tin", "_law_below_so"] S_take) (G_l_any_tree : FnOk P w K mg base CX0 3 T.f_l_any_tree T.d_l_any_tree ["_law_tin", "_law_net_here"] (DrawT 100 Dom_any R_any)) (G_l_lists : FnOk P w K mg base CX0 4 T.f_l_lists T.d_l_lists ["_law_matter"] (Pure (R_lists 4))) (G_l_all_trees : FnOk P w K mg base CX0 1 T.f_l_all_trees T.d_l_all_trees ["_law_net_here"] (PureL R_treesL)) (G_l_heard : FnOk P w K mg base CX0 8 T.f_l_heard T.d_l_heard ["_law_net_here"] (PureL R_heard)) (G_l_same : FnOk P w K mg base CX0 7 T.f_l_same T.d_l_same ["_law_got", "_law_due"] (Pure (R_same 7))) (G_many_trees : FnOk P w K mg base CX0 7 T.f_many_trees T.d_many_trees ["web"] (Pure R_many_trees)) (G_l_spoil : FnOk P w K mg base CX0 1 T.f_l_spoil T.d_l_spoil ["_law_matter"] S_spoil) (G_l_is_bush : FnOk P w K mg base CX0 3 T.f_l_is_bush T.d_l_is_bush ["_law_net_here", "_law_told"] (Pure R_is_bush)) (G_some_tree : FnOk P w K mg base CX0 7 T.f_some_tree T.d_some_tree ["web"] (Pure R_some_tree)) (G_l_all_tied : FnOk P w K mg base CX0 1 T.f_l_all_tied T.d_l_all_tied ["_law_m", "_law_n"] (Pure R_all_tied)) : FnOk P w K mg base CX0 9 T.f_l_right T.d_l_right ["_law_tin"] (DrawT 800 Dom_right R_right) := by
  refine T.F_l_right.ok sc_l_right (draw_len (m := 1) fun ds e => by rw [show ds = [] from e]; rfl) (fun cdv A outer s H vs Q E hr h => ⟨_, PSs.nox (pss_cons (ps_set (i := 1) sc_l_right.nd rfl (by first | exact Or.inl rfl | exact Or.inr rfl) (pe_call G_l_net (hr.mono (by decide)) (by rfl) T.g_l_net T.F_l_net.kp T.b_l_net .nil pass0 (pa_cons (pv 0) (pa_cons pe_int pa_nil)))) (pss_cons (ps_if (pt_cmpR op_eq (pe_call G_l_take (hr.mono (by decide)) (by rfl) T.g_l_take T.F_l_take.kp T.b_l_take .nil pass0 (pa_cons (pv 0) (pa_cons pe_int pa_nil))) pe_int (by first | exact nomark _ | rfl)) (pss_one (ps_set (i := 1) sc_l_right.nd rfl (by first | exact Or.inl rfl | exact Or.inr rfl) (pe_call G_l_net (hr.mono (by decide)) (by rfl) T.g_l_net T.F_l_net.kp T.b_l_net .nil pass0 (pa_cons (pv 0) (pa_cons pe_int pa_nil))))) pss_nil) (pss_cons (ps_if (pt_cmpR op_gt (pe_callB (call_lenK (K := K) rfl) (by rfl) T.n_len (by decide +kernel) (pa_cons (pe_ix (show IxR _ (rIxT K) from ix_tup) (pv 1) pe_int (fun _ _ => rfl)) pa_nil)) pe_int (by first | exact nomark _ | rfl)) (pss_one (ps_set (i := 1) sc_l_right.nd rfl (by first | exact Or.inl rfl | exact Or.inr rfl) (pe_tup (pa_cons (pe_ix (show IxR _ (rIxT K) from ix_tup) (pv 1) pe_int (fun _ _ => rfl)) (pa_cons (pe_ix (show IxR _ (rIxT K) from ix_tup) (pv 1) pe_int (fun _ _ => rfl)) (pa_cons (pe_callTy (call_tupleK (K := K) rfl) (by rfl) T.n_tuple (by decide +kernel) (pa_cons (pe_callB (show CallR _ _ (rSortedT K P w) from cr_sortedT rfl) (by rfl) T.n_sorted (by decide +kernel) (pa_cons (pe_callTy (show CallR _ _ (rSetT K P w) from cr_setT rfl hr.units) (by rfl) T.n_set (by decide +kernel) (pa_cons (pe_op (show OpR _ _ (rCatA K) from op_catA) (pe_call G_l_any_tree (hr.mono (by decide)) (by rfl) T.g_l_any_tree T.F_l_any_tree.kp T.b_l_any_tree .nil pass0 (pa_cons (pv 0) (pa_cons (pv 1) pa_nil))) (pe_slice (show SlR _ (rSlA K) from sl_tupA) (pe_ix (show IxR _ (rIxT K) from ix_tup) (pv 1) pe_int (fun _ _ => rfl)) po_none (po_some pe_int))) pa_nil)) pa_nil)) pa_nil)) pa_nil)))))) pss_nil) (pss_cons (ps_par (i := 2) (j := 3) rfl sc_l_right.nd rfl rfl (by decide) rfl rfl (pa_cons (pe_call G_l_lists (hr.mono (by decide)) (by rfl) T.g_l_lists T.F_l_lists.kp T.b_l_lists .nil pass0 (pa_cons (pv 1) pa_nil)) (pa_cons (pe_call G_l_all_trees (hr.mono (by decide)) (by rfl) T.g_l_all_trees T.F_l_all_trees.kp T.b_l_all_trees .nil pass0 (pa_cons (pv 1) pa_nil)) pa_nil)) rfl) (pss_cons (ps_set (i := 4) sc_l_right.nd rfl (by first | exact Or.inl rfl | exact Or.inr rfl) (pe_call G_l_heard (hr.mono (by decide)) (by rfl) T.g_l_heard T.F_l_heard.kp T.b_l_heard .nil pass0 (pa_cons (pv 2) pa_nil))) (pss_cons (ps_if (pt_not (pt_val (pe_call G_l_same (hr.mono (by decide)) (by rfl) T.g_l_same T.F_l_same.kp T.b_l_same .nil pass0 (pa_cons (pe_lst (pa_cons (pv 4) (pa_cons (pe_call G_many_trees (hr.mono (by decide)) (by rfl) T.g_many_trees T.F_many_trees.kp T.b_many_trees .nil pass0 (pa_cons (pv 2) pa_nil)) pa_nil))) (pa_cons (pe_lst (pa_cons (pv 3) (pa_cons (pe_callB (call_lenK (K := K) rfl) (by rfl) T.n_len (by decide +kernel) (pa_cons (pv 3) pa_nil)) pa_nil))) pa_nil))))) (pss_one (ps_ret pe_bl)) pss_nil) (pss_cons (ps_expr (pe_call G_l_spoil (hr.mono (by decide)) (by rfl) T.g_l_spoil T.F_l_spoil.kp T.b_l_spoil .nil pass0 (pa_cons (pv 4) pa_nil))) (pss_cons (ps_if (PW.pt (pw_or (pt_not (pt_val (pe_call G_l_same (hr.mono (by decide)) (by rfl) T.g_l_same T.F_l_same.kp T.b_l_same .nil pass0 (pa_cons (pe_call G_l_heard (hr.mono (by decide)) (by rfl) T.g_l_heard T.F_l_heard.kp T.b_l_heard .nil pass0 (pa_cons (pv 1) pa_nil)) (pa_cons (pv 3) pa_nil))))) (pw_or1 (pt_not (pt_val (pe_call G_l_is_bush (hr.mono (by decide)) (by rfl) T.g_l_is_bush T.F_l_is_bush.kp T.b_l_is_bush .nil pass0 (pa_cons (pv 1) (pa_cons (pe_call G_some_tree (hr.mono (by decide)) (by rfl) T.g_some_tree T.F_some_tree.kp T.b_some_tree .nil pass0 (pa_cons (pv 2) pa_nil)) pa_nil)))))))) (pss_one (ps_ret pe_bl)) pss_nil) (pss_cons (ps_par (i := 5) (j := 6) rfl sc_l_right.nd rfl rfl (by decide) rfl rfl (pa_cons (pe_op op_add pe_int (pe_call G_l_take (hr.mono (by decide)) (by rfl) T.g_l_take T.F_l_take.kp T.b_l_take .nil pass0 (pa_cons (pv 0) (pa_cons pe_int pa_nil)))) (pa_cons (pe_op op_add pe_int (pe_call G_l_take (hr.mono (by decide)) (by rfl) T.g_l_take T.F_l_take.kp T.b_l_take .nil pass0 (pa_cons (pv 0) (pa_cons pe_int pa_nil)))) pa_nil)) rfl) (pss_cons (ps_set (i := 7) sc_l_right.nd rfl (by first | exact Or.inl rfl | exact Or.inr rfl) (pe_call G_l_all_tied (hr.mono (by decide)) (by rfl) T.g_l_all_tied T.F_l_all_tied.kp T.b_l_all_tied .nil pass0 (pa_cons (pv 5) (pa_cons (pv 6) pa_nil)))) (pss_cons (ps_set (i := 8) sc_l_right.nd rfl (by first | exact Or.inl rfl | exact Or.inr rfl) (pe_tup (pa_cons (pv 5) (pa_cons (pe_op op_add (pv 6) pe_int) (pa_cons (pe_callTy (call_tupleK (K := K) rfl) (by rfl) T.n_tuple (by decide +kernel) (pa_cons (pe_callB (cr_sortQ hr.units) (by rfl) T.n_sorted (by decide +kernel) (pa_cons (pe_op (show OpR _ _ (rCatA K) from op_catA) (pe_ix (show IxR _ (rIxT K) from ix_tup) (pv 7) pe_int (fun _ _ => rfl)) (pe_tup (pa_cons (pe_tup (pa_cons (pe_op op_sub (pv 5) pe_int) (pa_cons (pv 6) pa_nil))) (pa_cons (pe_tup (pa_cons pe_int (pa_cons (pe_op op_add (pv 6) pe_int) pa_nil))) pa_nil)))) pa_nil)) pa_nil)) pa_nil))))) (pss_cons (ps_setLc (i := 9) (own := [("_law_own", 12)]) rfl sc_l_right.nd rfl rfl (sw_true rfl rfl rfl (by decide +kernel)) (show PI _ _ _ (iTup K _) from pi_tup (pe_ix (show IxR _ (rIxT K) from ix_tup) (pv 7) pe_int (fun _ _ => rfl))) (blkOk_by (own := [("_law_own", 12)]) (N := ["_law_tin", "_law_net_here", "_law_soft", "_law_due", "_law_told", "_law_m", "_law_n", "_law_whole_so", "_law_tail_so", "_law_others_so", "_law_glue_so", "_law_many_so", "_law_own"]) (sc := defScope s_l_right) (by decide +kernel)) (fun _ _ _ _ _ => pg_name (i := 12) sc_l_right.nd rfl (by first | exact Or.inl rfl | exact Or.inr rfl)) (fun _ _ _ _ _ => pts_nil) (fun _ _ _ _ _ => (pe_tup (pa_cons (pe_ifExp (pt_cmpR op_gt (pe_ix (show IxR _ (rIxT K) from ix_tup) (pv 12) pe_int (fun _ _ => rfl)) pe_int (by first | exact nomark _ | rfl)) (pe_op op_sub (pe_op op_add (pe_ix (show IxR _ (rIxT K) from ix_tup) (pv 12) pe_int (fun _ _ => rfl)) (pe_ix (show IxR _ (rIxT K) from ix_tup) (pv 1) pe_int (fun _ _ => rfl))) pe_int) pe_int) (pa_cons (pe_op op_add (pe_ix (show IxR _ (rIxT K) from ix_tup) (pv 12) pe_int (fun _ _ => rfl)) (pe_ix (show IxR _ (rIxT K) from ix_tup) (pv 1) pe_int (fun _ _ => rfl))) pa_nil))))) (pss_cons (ps_set (i := 10) sc_l_right.nd rfl (by first | exact Or.inl rfl | exact Or.inr rfl) (pe_tup (pa_cons (pe_op op_sub (pe_op op_add (pe_ix (show IxR _ (rIxT K) from ix_tup) (pv 1) pe_int (fun _ _ => rfl)) (pv 5)) pe_int) (pa_cons (pe_op op_add (pe_ix (show IxR _ (rIxT K) from ix_tup) (pv 1) pe_int (fun _ _ => rfl)) (pv 6)) (pa_cons (pe_callTy (call_tupleK (K := K) rfl) (by rfl) T.n_tuple (by decide +kernel) (pa_cons (pe_callB (cr_sortQ hr.units) (by rfl) T.n_sorted (by decide +kernel) (pa_cons (pe_op (show OpR _ _ (rCatA K) from op_catA) (pe_ix (show IxR _ (rIxT K) from ix_tup) (pv 1) pe_int (fun _ _ => rfl)) (pe_callTy (call_tupleK (K := K) rfl) (by rfl) T.n_tuple (by decide +kernel) (pa_cons (pv 9) pa_nil))) pa_nil)) pa_nil)) pa_nil))))) (pss_cons (ps_set (i := 11) sc_l_right.nd rfl (by first | exact Or.inl rfl | exact Or.inr rfl) pe_int) (pss_cons (ps_for PassesOwn.never rfl (show PI _ _ _ (iList K _) from pi_list (pe_op op_cat (pe_op op_rep (pe_lst (pa_cons (pv 5) pa_nil)) (pe_op op_sub (pv 6) pe_int)) (pe_op op_rep (pe_lst (pa_cons (pv 6) pa_nil)) (pe_op op_sub (pv 5) pe_int)))) (pg_name (i := 12) sc_l_right.nd rfl (by first | exact Or.inl rfl | exact Or.inr rfl)) (pss_one (ps_set (i := 11) sc_l_right.nd rfl (by first | exact Or.inl rfl | exact Or.inr rfl) (pe_op op_mul (pv 11) (pv 12))))) (pss_one (ps_ret (pe_call G_l_same (hr.mono (by decide)) (by rfl) T.g_l_same T.F_l_same.kp T.b_l_same .nil pass0 (pa_cons (pe_lst (pa_cons (pe_call G_many_trees (hr.mono (by decide)) (by rfl) T.g_many_trees T.F_many_trees.kp T.b_many_trees .nil pass0 (pa_cons (pv 7) pa_nil)) (pa_cons (pe_call G_many_trees (hr.mono (by decide)) (by rfl) T.g_many_trees T.F_many_trees.kp T.b_many_trees .nil pass0 (pa_cons (pe_call G_l_lists (hr.mono (by decide)) (by rfl) T.g_l_lists T.F_l_lists.kp T.b_l_lists .nil pass0 (pa_cons (pv 8) pa_nil)) pa_nil)) (pa_cons (pe_call G_many_trees (hr.mono (by decide)) (by rfl) T.g_many_trees T.F_many_trees.kp T.b_many_trees .nil pass0 (pa_cons (pv 10) pa_nil)) pa_nil)))) (pa_cons (pe_lst (pa_cons (pv 11) (pa_cons (pv 11) (pa_cons (pe_op op_mul (pv 11) (pe_callB (call_lenK (K := K) rfl) (by rfl) T.n_len (by decide +kernel) (pa_cons (pv 3) pa_nil))) pa_nil)))) pa_nil)))))))))))))))))))), draw_run (fun ds a b c k hd tb hk => ?_) vs H Q E h⟩)
  obtain rfl : ds = [] := hd
  let envA : Int → Int → Int → Nat → Nat → List Tie → DD.Env := fun a b c m n U => [.own (tin a b c), .dat (webD m n U), .no, .no, .no, .no, .no, .no, .no, .no, .no, .no, .no]
  let NB : Int → Nat → DD.Env → Prop := fun j l ρ => ∃ a b c m n U, ρ = envA a b c m n U ∧ TB b c (k + j) ∧ Web m n U ∧ m ≤ 4 ∧ n ≤ 4 ∧ U.length ≤ l
  refine txr_seq (B := NB 300 40) (tx_asg (by decide) fun ρ e => ?_) (txr_seq (B := NB 601 40) (tx_ifX fun ρ ⟨a, b, c, m, n, U, e, tb, w, hm, hn, hl⟩ => ?_) (txr_seq (B := NB 701 10) (tx_if fun ρ ⟨a, b, c, m, n, U, e, tb, w, hm, hn, hl⟩ => ?_) ?_))
  · subst e
    exact ex_draw (ds := [nI 3]) (n := 300) (k := k) rfl (ea_cons ed_int ea_nil) tb (by omega) ⟨3, .inl rfl, rfl⟩ fun d a' b' c' ⟨q, m, n, U, e1, w, hm, hn, hl, e2⟩ tb' => by
      have hq : q = 3 := by
        have := List.head_eq_of_cons_eq e1
        injection this with this
        omega
      subst e2
      exact ⟨a', b', c', m, n, U, rfl, tb', w, by omega, by omega, hl⟩
  · subst e
    refine ex_op (P1 := fun ρ1 d1 => ∃ (r : Nat) (a' c' : Int), ρ1 = envA a' b c' m n U ∧ d1 = nI r ∧ TB b c' (k + 301)) (ex_nat (q := 6) (k := k + 300) rfl ed_int tb (by omega) (by omega) fun r a' c' _ tb' => ⟨r, a', c', rfl, rfl, by rw [show k + 301 = k + 300 + 1 by omega]; exact tb'⟩) fun ρ1 d1 ⟨r, a', c', e1, e2, tb'⟩ => ?_
    subst e1 e2
    refine ex_ed ed_int ⟨.bool (((r : Nat) : Int) == 0), r2_eqI, _, rfl, fun _ => tx_asg (by decide) fun ρ e => ?_, fun _ => tx_next fun ρ e => ⟨a', b, c', m, n, U, e, ⟨tb'.1, tb'.2.1, tb'.2.2.1, by have := tb'.2.2.2; omega⟩, w, hm, hn, hl⟩⟩
    subst e
    exact ex_draw (ds := [nI 4]) (n := 300) (k := k + 301) (a := a') (b := b) (c := c') rfl (ea_cons ed_int ea_nil) tb' (by omega) ⟨4, .inr rfl, rfl⟩ fun d a' b' c' ⟨q, m, n, U, e1, w, hm, hn, hl, e2⟩ tb' => by
      have hq : q = 4 := by
        have := List.head_eq_of_cons_eq e1
        injection this with this
        omega
      subst e2
      exact ⟨a', b', c', m, n, U, rfl, by rw [show k + 601 = k + 301 + 300 by omega]; exact tb', w, by omega, by omega, hl⟩
  · subst e
    refine ⟨decide (10 < U.length), et_test (ed_op (d := nI U.length) (ed_cb (ea_cons (d := tiesD U) (ed_op (ed_var rfl) ed_int (r2_ixT rfl)) ea_nil) (rc_lenN (ds := U.map tieD) (.inr rfl) (by rw [List.length_map]))) ed_int (r2_B (decide_eq_decide.mpr (by omega)))), fun _ => tx_asg (by decide) fun ρ e => ?_, fun hb => tx_next fun ρ e => ⟨a, b, c, m, n, U, e, ⟨tb.1, tb.2.1, tb.2.2.1, by have := tb.2.2.2; omega⟩, w, hm, hn, by have := of_decide_eq_false hb; omega⟩⟩
    subst e
    refine ex_tup3 (d1 := nI m) (d2 := nI n) (ed_op (ed_var rfl) ed_int (r2_ixT rfl)) (ed_op (ed_var rfl) ed_int (r2_ixT rfl)) (ex_sortT ?_)
    refine ex_op (P1 := fun ρ1 d1 => ∃ Y a' b' c', List.Perm Y U ∧ ρ1 = envA a' b' c' m n U ∧ d1 = tiesD (srt1 (greedy m (List.range (m + n)) [] Y)) ∧ TB b' c' (k + 701)) (ex_draw (ds := [webD m n U]) (n := 100) (k := k + 601) (a := a) (b := b) (c := c) rfl (ea_cons (ed_var rfl) ea_nil) tb (by omega) ⟨m, n, U, w, by omega, by omega, rfl⟩ fun d a' b' c' ⟨m', n', U', Y, e1, hp, e2⟩ tb' => ?_) fun ρ1 d1 ⟨Y, a', b', c', hp, e1, e2, tb'⟩ => ?_
    · obtain ⟨f1, f2, f3⟩ := webD_inj (List.cons.inj e1).1
      subst f1 f2 f3
      exact ⟨Y, a', b', c', hp, rfl, e2, by rw [show k + 701 = k + 601 + 100 by omega]; exact tb'⟩
    · subst e1 e2
      have wY := w.toWebU.perm hp
      have hg := treesW_mem wY _ (greedy_mem m Y (List.range (m + n)) [] wY.len0 wY.eds' wY.grown)
      obtain ⟨X, hX, hm2⟩ := some_srt (srt1 (greedy m (List.range (m + n)) [] Y) ++ U.take 2)
      obtain ⟨wX, lX⟩ := cut_web w hp hX hm2
      generalize greedy m (List.range (m + n)) [] Y = G at *
      refine ex_ed (d := tiesD (U.take 2)) (ed_is (ed_slT (lo := none) (hi := some ((2 : Nat) : Int)) (ds := U.map tieD) (ed_op (ed_var rfl) ed_int (r2_ixT rfl)) eo_none (eo_some ed_int)) ?_) ⟨tiesD (srt1 G ++ U.take 2), ?_, srt1 G ++ U.take 2, X, rfl, ?_, fun t ht => ?_, hX, hm2, a', b', c', m, n, X, rfl, tb', wX, hm, hn, by omega⟩
      · rw [cut_to, ← List.map_take]
        rfl
      · unfold tiesD
        rw [List.map_append]
        refine r2_catA ?_
        rw [List.length_map, List.length_map, (srt1_perm G).length_eq, List.length_take]
        omega
      · rw [List.length_append, (srt1_perm G).length_eq, List.length_take]
        omega
      · have := wX.rng t ((hm2 t).mpr ht)
        omega
  · refine txr_pre fun ρ ⟨a, b, c, m, n, U, e, tb, w, hm, hn, hl⟩ => ?_
    subst e
    have hcl : count m n U ≤ 2 ^ 10 := Nat.le_trans (count_le m n U) (Nat.pow_le_pow_right (by decide) hl)
    have hLl : (srtT (treesW m n U)).length = count m n U := by rw [(srtT_perm _).length_eq, treesW_len]
    have hLx : ∀ x ∈ srtT (treesW m n U), x.length ≤ 100000 := fun x hx => by
      have := (treesW_mem w.toWebU x ((srtT_perm _).mem_iff.mp hx)).2.1
      omega
    obtain ⟨L, hL⟩ : ∃ L, L = srtT (treesW m n U) := ⟨_, rfl⟩
    rw [← hL] at hLl hLx
    let envB : DD.Env := [.own (tin a b c), .dat (webD m n U), .dat (webS m n U), .dat (.list (L.map tiesD)), .no, .no, .no, .no, .no, .no, .no, .no, .no]
    let envC : List PyData → DD.Env := fun es => [.own (tin a b c), .dat (webD m n U), .dat (webS m n U), .dat (.list (L.map tiesD)), .own es, .no, .no, .no, .no, .no, .no, .no, .no]
    refine txr_seq (B := (· = envB)) (tx_parXX (by decide) (by decide) fun ρ e => ?_) (txr_seq (B := (· = envC (L.map tiesD))) (tx_asgL (by decide) fun ρ e => ?_) (txr_passO (j := 4) (es := L.map tiesD) rfl ?_ (txr_seq (B := (· = envC (L.map tiesD ++ [.tuple []]))) (tx_spoil (j := 4) (es := L.map tiesD) rfl (by rw [List.length_map]; omega) rfl) (txr_out ?_ ?_))))
    · subst e
      refine ex_ed (d := webS m n U) (ed_call (ea_cons (ed_var rfl) ea_nil) ⟨_, rfl, lp_web (by omega)⟩) (ex_ed (d := .list (L.map tiesD)) (EL.ed (el_call (ea_cons (ed_var rfl) ea_nil) ⟨m, n, U, w, by omega, by omega, rfl, by rw [hL]⟩)) rfl)
    · subst e
      exact ⟨_, el_heard (ed_var rfl) (tp_webS (by omega)) w (by omega) (by omega) (by omega) hL.symm, rfl⟩
    · refine et_notF (et_val (ed_call (ds := [.list [.list (L.map tiesD), nI (count m n U)], .list [.list (L.map tiesD), nI (count m n U)]]) (ea_cons (EL.ed (el_lst (ea_cons (ed_var rfl) (ea_cons (ed_many (ed_var rfl) (tp_webS (by omega)) w (by omega) (by omega) rfl) ea_nil)) (len_ok rfl))) (ea_cons (EL.ed (el_lst (ea_cons (ed_var rfl) (ea_cons (ed_cb (ea_cons (ed_var rfl) ea_nil) (rc_lenN (.inl rfl) (by rw [List.length_map, hLl]))) ea_nil)) (len_ok rfl))) ea_nil)) ⟨_, rfl, Sm.lst 5 _ (fun z hz => ?_) (Nat.le_of_ble_eq_true rfl), rfl⟩))
      rcases List.mem_cons.mp hz with rfl | hz
      · exact sm_trees 2 L (by omega) hLx
      · rw [List.mem_singleton.mp hz]
        exact .int _ _
    · refine et_orF (et_notF (et_val (ed_call (ds := [.list (L.map tiesD), .list (L.map tiesD)]) (ea_cons (EL.ed (el_heard (ed_var rfl) (tp_webD (by omega)) w (by omega) (by omega) (by omega) hL.symm)) (ea_cons (ed_var rfl) ea_nil)) ⟨_, rfl, sm_trees 3 L (by omega) hLx, rfl⟩))) (et_notF (et_val (ed_bush (ed_var rfl) (ed_var rfl) (tp_webS (by omega)) w (by omega) (by omega))))
    · generalize L.map tiesD ++ [PyData.tuple []] = es
      let envD : Int → Int → Nat → Nat → DD.Env := fun a c x y => [.own (tin a b c), .dat (webD m n U), .dat (webS m n U), .dat (.list (L.map tiesD)), .own es, .dat (nI x), .dat (nI y), .no, .no, .no, .no, .no, .no]
      refine txr_seq (B := fun ρ => ∃ a c x y, ρ = envD a c x y ∧ TB b c (k + 703) ∧ 0 < x ∧ x ≤ 4 ∧ 0 < y ∧ y ≤ 4) (tx_parXX (by decide) (by decide) fun ρ e => ?_) (txr_pre fun ρ ⟨a, c, x, y, e, tb, x0, x4, y0, y4⟩ => ?_)
      · subst e
        refine ex_nat1 (q := 4) (k := k + 701) rfl ed_int tb (by omega) (by omega) fun x a1 c1 x0 x1 tb1 => ?_
        refine ex_nat1 (q := 4) (k := k + 701 + 1) (a := a1) (b := b) (c := c1) rfl ed_int tb1 (by omega) (by omega) fun y a2 c2 y0 y1 tb2 => ?_
        exact ⟨a2, c2, x, y, rfl, by rw [show k + 703 = k + 701 + 1 + 1 by omega]; exact tb2, x0, x1, y0, y1⟩
      · subst e
        have hxy := sixteen_mem x0 x4 y0 y4
        obtain ⟨wT, cT⟩ := tied_web (m := x) (n := y) (List.mem_append_right _ hxy)
        obtain ⟨wA, nA, cA⟩ := tail_web (m := x) (n := y) hxy
        have lT := tied_len x y
        have hxy16 : x * y ≤ 4 * 4 := Nat.mul_le_mul x4 y4
        have lA : (tailT x y).length = x * y + 2 := by unfold tailT; rw [List.length_append, lT]; rfl
        obtain ⟨wG, cG⟩ := glue_web w.toWebU wT.toWebU
        have nG := glue_nodup (n1 := n) w.toWebU (asc_nodup w.asc) (asc_nodup wT.asc)
        have m0 := w.hm
        let gT : List Tie := U ++ (tiedT x y).map (shiftT m n)
        have lG : gT.length = U.length + x * y := by show (U ++ _).length = _; rw [List.length_append, List.length_map, lT]
        let v := vt x y
        let envF : Nat → DD.Env := fun v => [.own (tin a b c), .dat (webD m n U), .dat (webS m n U), .dat (.list (L.map tiesD)), .own es, .dat (nI x), .dat (nI y), .dat (webD x y (tiedT x y)), .dat (webD x (y + 2) (srt1 (tailT x y))), .dat (.list (((tiedT x y).map (shiftT m n)).map tieD)), .dat (webD (m + x - 1) (n + y) (srt1 gT)), .dat (nI v), .no]
        refine txr_seq (B := (· = [.own (tin a b c), .dat (webD m n U), .dat (webS m n U), .dat (.list (L.map tiesD)), .own es, .dat (nI x), .dat (nI y), .dat (webD x y (tiedT x y)), .no, .no, .no, .no, .no])) (tx_asg (by decide) fun ρ e => ?_) (txr_seq (B := (· = [.own (tin a b c), .dat (webD m n U), .dat (webS m n U), .dat (.list (L.map tiesD)), .own es, .dat (nI x), .dat (nI y), .dat (webD x y (tiedT x y)), .dat (webD x (y + 2) (srt1 (tailT x y))), .no, .no, .no, .no])) (tx_asg (by decide) fun ρ e => ?_) (txr_seq (B := (· = [.own (tin a b c), .dat (webD m n U), .dat (webS m n U), .dat (.list (L.map tiesD)), .own es, .dat (nI x), .dat (nI y), .dat (webD x y (tiedT x y)), .dat (webD x (y + 2) (srt1 (tailT x y))), .dat (.list (((tiedT x y).map (shiftT m n)).map tieD)), .no, .no, .no])) (tx_asg (by decide) fun ρ e => ?_) (txr_seq (B := (· = [.own (tin a b c), .dat (webD m n U), .dat (webS m n U), .dat (.list (L.map tiesD)), .own es, .dat (nI x), .dat (nI y), .dat (webD x y (tiedT x y)), .dat (webD x (y + 2) (srt1 (tailT x y))), .dat (.list (((tiedT x y).map (shiftT m n)).map tieD)), .dat (webD (m + x - 1) (n + y) (srt1 gT)), .no, .no])) (tx_asg (by decide) fun ρ e => ?_) (txr_seq (B := (· = envF 1)) (tx_asg (by decide) fun ρ e => ?_) (txr_seq (B := (· = envF v)) ?_ (txr_ret fun ρ e => ?_))))))
        · subst e
          exact ex_ed (ed_tied (m := x) (n := y) (ed_var rfl) (ed_var rfl) (by omega) (by omega)) rfl
        · subst e
          have hsub : (x : Int) - 1 = ((x - 1 : Nat) : Int) := by omega
          refine ex_ed (ed_tup (ea_cons (ed_var rfl) (ea_cons (ed_op (d := nI y) (ed_var rfl) ed_int (r2_N (k := ((y + 2 : Nat) : Int)) rfl)) (ea_cons (ed_srt (T := tailT x y) (ed_is (ed_op (d := tiesD (tiedT x y)) (e := tiesD [(x - 1, y), (0, y + 1)]) (ed_op (ed_var rfl) ed_int (r2_ixT rfl)) (ed_tup (ea_cons (ed_tie (t := (x - 1, y)) (ed_op (d := nI x) (ed_var rfl) ed_int (r2_N hsub)) (ed_var rfl)) (ea_cons (ed_tie (t := (0, y + 1)) ed_int (ed_op (d := nI y) (ed_var rfl) ed_int (r2_N rfl))) ea_nil)) (len_ok rfl)) (r2_catA ?_)) ?_) (by omega)) ea_nil))) (len_ok rfl)) rfl
          · rw [List.length_map, lT]
            show _ + 2 ≤ _
            omega
          · unfold tailT tiesD
            rw [List.map_append]
        · subst e
          refine ex_ed (EL.ed (el_is (el_lcE tieD (fun t => tieD (shiftT m n t)) (tiedT x y) (src_tup (ed_op (ed_var rfl) ed_int (r2_ixT rfl))) (by omega) fun t ht => ?_) (by rw [List.map_map]; rfl))) rfl
          refine ed_tie (ed_if (b := decide (0 < t.1)) ?_ (fun hc => ?_) fun hc => ?_) ?_
          · exact et_test (ed_op (d := nI t.1) (ed_op (ed_var rfl) ed_int (r2_ixT rfl)) ed_int (r2_B (decide_eq_decide.mpr (by omega))))
          · refine ed_op (d := .int ((t.1 : Int) + m)) (ed_op (d := nI t.1) (e := nI m) (ed_op (ed_var rfl) ed_int (r2_ixT rfl)) (ed_op (ed_var rfl) ed_int (r2_ixT rfl)) (r2_N rfl)) ed_int (r2_N ?_)
            show (t.1 : Int) + m - 1 = (((if 0 < t.1 then t.1 + m - 1 else 0 : Nat)) : Int)
            rw [if_pos (of_decide_eq_true hc)]
            omega
          · refine ed_is ed_int ?_
            show PyData.int 0 = .int (((if 0 < t.1 then t.1 + m - 1 else 0 : Nat)) : Int)
            rw [if_neg (of_decide_eq_false hc)]
            rfl
          · exact ed_op (d := nI t.2) (e := nI n) (ed_op (ed_var rfl) ed_int (r2_ixT rfl)) (ed_op (ed_var rfl) ed_int (r2_ixT rfl)) (r2_N rfl)
        · subst e
          refine ex_ed (ed_tup (ea_cons (ed_op (d := .int ((m : Int) + x)) (ed_op (d := nI m) (e := nI x) (ed_op (ed_var rfl) ed_int (r2_ixT rfl)) (ed_var rfl) (r2_N rfl)) ed_int (r2_N (k := ((m + x - 1 : Nat) : Int)) (by omega))) (ea_cons (ed_op (d := nI n) (e := nI y) (ed_op (ed_var rfl) ed_int (r2_ixT rfl)) (ed_var rfl) (r2_N (k := ((n + y : Nat) : Int)) rfl)) (ea_cons (ed_srt (T := gT) (ed_is (ed_op (d := tiesD U) (e := tiesD ((tiedT x y).map (shiftT m n))) (ed_op (ed_var rfl) ed_int (r2_ixT rfl)) (ed_cb (ea_cons (ed_var rfl) ea_nil) (rc_tupleOf (.inl rfl))) (r2_catA ?_)) ?_) (by omega)) ea_nil))) (len_ok rfl)) rfl
          · rw [List.length_map, List.length_map, List.length_map, lT]
            omega
          · show _ = PyData.tuple ((U ++ (tiedT x y).map (shiftT m n)).map tieD)
            rw [List.map_append]
        · subst e
          exact ex_ed (d := nI 1) ed_int rfl
        · let ks : List Nat := List.replicate (y - 1) x ++ List.replicate (x - 1) y
          have hks : ks.foldl (fun p q => p * q) 1 = v := by
            have key : ∀ (k q p : Nat), (List.replicate k q).foldl (fun p q => p * q) p = p * q ^ k := by
              intro k q
              induction k with
              | zero => intro p; rw [Nat.pow_zero, Nat.mul_one]; rfl
              | succ k ih =>
                intro p
                rw [List.replicate_succ, List.foldl_cons, ih, Nat.pow_succ, Nat.mul_assoc, Nat.mul_comm q]
            show (List.replicate (y - 1) x ++ List.replicate (x - 1) y).foldl _ 1 = vt x y
            rw [List.foldl_append, key, key, Nat.one_mul]
            rfl
          have hkl : ks.length ≤ 6 := by show (List.replicate (y - 1) x ++ List.replicate (x - 1) y).length ≤ 6; rw [List.length_append, List.length_replicate, List.length_replicate]; omega
          have hk4 : ∀ q ∈ ks, q ≤ 4 := fun q hq => by
            rcases List.mem_append.mp hq with hq | hq
            · rw [List.eq_of_mem_replicate hq]
              exact x4
            · rw [List.eq_of_mem_replicate hq]
              exact y4
          let st : Nat → Nat := fun i => (ks.take i).foldl (fun p q => p * q) 1
          refine tx_forD (ks.map nI) (fun i ρ => ρ = envF (st i)) (fun ρ e => ?_) (fun i d hd ρ e => ?_) fun ρ e => ?_
          · subst e
            refine ⟨src_list (EL.ed (el_is (el_op (d := .list ((List.replicate (y - 1) x).map nI)) (e := .list ((List.replicate (x - 1) y).map nI)) (EL.ed (el_is (el_op (d := .list [nI x]) (EL.ed (el_lst (ea_cons (ed_var rfl) ea_nil) (len_ok rfl))) (ed_op (d := nI y) (ed_var rfl) ed_int (r2_N (k := ((y - 1 : Nat) : Int)) (by omega))) (r2_rep (by omega) (by rw [Int.toNat_natCast]; show 1 * _ ≤ _; omega))) ?_)) (EL.ed (el_is (el_op (d := .list [nI y]) (EL.ed (el_lst (ea_cons (ed_var rfl) ea_nil) (len_ok rfl))) (ed_op (d := nI x) (ed_var rfl) ed_int (r2_N (k := ((x - 1 : Nat) : Int)) (by omega))) (r2_rep (by omega) (by rw [Int.toNat_natCast]; show 1 * _ ≤ _; omega))) ?_)) (r2_cat ?_)) ?_)), rfl⟩
            · rw [Int.toNat_natCast, List.flatten_replicate_singleton, List.map_replicate]
            · rw [Int.toNat_natCast, List.flatten_replicate_singleton, List.map_replicate]
            · rw [List.length_map, List.length_map, List.length_replicate, List.length_replicate]
              omega
            · rw [← List.map_append]
          · subst e
            rw [List.getElem?_map] at hd
            obtain ⟨q, hq, rfl⟩ := Option.map_eq_some_iff.mp hd
            have hst : st (i + 1) = st i * q := by
              show (ks.take (i + 1)).foldl _ _ = _
              rw [fold_take _ _ ks i q hq]
            have hq4 := hk4 q (List.mem_of_getElem? hq)
            refine ⟨[(12, nI q)], tgt_name, fun u hu => by rw [List.mem_singleton.mp hu]; show 12 ∉ [0]; decide, tx_imp (tx_lose (j := 12) (B := (· = (envF (st (i + 1))).set 12 (.dat (nI q)))) (tx_asg (by decide) fun ρ e => ?_)) fun ρ ⟨ρ0, e1, e2⟩ => ?_⟩
            · subst e
              refine ex_ed (d := nI (st (i + 1))) (ed_op (d := nI (st i)) (e := nI q) (ed_var rfl) (ed_var rfl) (r2_I (.inr ⟨by omega, by omega⟩) fun _ => ?_)) rfl
              rw [hst, ← Int.natCast_mul]
              exact .int _
            · subst e1
              subst e2
              rfl
          · rw [e, List.length_map]
            show envF ((ks.take ks.length).foldl (fun p q => p * q) 1) = envF v
            rw [List.take_length, hks]
        · subst e
          refine ex_ed (ed_call (ds := [.list [nI v, nI v, nI (v * count m n U)], .list [nI v, nI v, nI (v * count m n U)]]) (ea_cons (EL.ed (el_lst (ea_cons (ed_many (ed_var rfl) (tp_webD (by omega)) wT (by omega) (by omega) cT) (ea_cons (ed_many (ed_call (ea_cons (ed_var rfl) ea_nil) ⟨_, rfl, lp_web (by rw [(srt1_perm _).length_eq]; omega)⟩) (tp_webS (by rw [(srt1_perm _).length_eq]; omega)) (Web.of_srt wA nA) (by omega) (by rw [(srt1_perm _).length_eq]; omega) ((count_srt wA).trans cA)) (ea_cons (ed_many (ed_var rfl) (tp_webD (by rw [(srt1_perm _).length_eq]; omega)) (Web.of_srt wG nG) (by omega) (by rw [(srt1_perm _).length_eq]; omega) ((count_srt wG).trans (by rw [cG, cT, Nat.mul_comm]))) ea_nil))) (len_ok rfl))) (ea_cons (EL.ed (el_lst (ea_cons (ed_var rfl) (ea_cons (ed_var rfl) (ea_cons (ed_op (d := nI v) (e := nI (count m n U)) (ed_var rfl) (ed_cb (ea_cons (ed_var rfl) ea_nil) (rc_lenN (.inl rfl) (by rw [List.length_map, hLl]))) (r2_I (.inr ⟨by omega, by omega⟩) fun _ => by rw [← Int.natCast_mul]; exact .int _)) ea_nil))) (len_ok rfl))) ea_nil)) ⟨_, rfl, Sm.lst 5 _ (fun z hz => ?_) (Nat.le_of_ble_eq_true rfl), rfl⟩) ⟨rfl, _, _, _, rfl, tb.1, tb.2.1, tb.2.2.1, by have := tb.2.2.2; omega⟩
          simp only [List.mem_cons, List.not_mem_nil, or_false] at hz
          rcases hz with rfl | rfl | rfl <;> exact .int _ _
end
end K4P
end

section
set_option Elab.async false
set_option linter.all false
set_option maxRecDepth 100000
set_option maxHeartbeats 4000000
namespace K4P
open PySem PySem.Spec L2 RZ DD K4
open PyProof.Rows (firstMet)
local macro_rules | `(tactic| walk_at "ed") => `(tactic| (repeat' (first
  | (with_reducible (first | exact ed_int | exact ed_bl | exact ed_str | exact ed_non | exact ea_nil | exact et_yes _ | apply ea_cons | apply ed_tup | apply r2_B | apply r2_eqIb | apply r2_neIb | exact r2_I0 (fun _ => Dq.int _) | exact rc_abs | exact rc_intI | exact rc_intB | exact rc_min | exact rc_max | exact r2_isN | apply ed_isi | apply ed_andT | apply ed_andV | apply ed_notV | apply ed_notF | apply ed_op | apply ed_un | apply et_val | apply et_test | apply et_not | apply et_notF | apply et_notT | apply ed_call | apply ed_cb | apply ed_chainT | apply et_orF | apply et_andT))
  | ((with_reducible apply ed_var); exact rfl) | ((with_reducible apply len_ok); exact rfl) | ((with_reducible apply kits); exact rfl) | exact (rfl : decide _ = _) | exact (rfl : (_ == _) = _) | exact nI_beq _ _
  | ((with_reducible apply r2_ixTu); exact r2_ixT rfl) | ((with_reducible apply r2_ixLu); exact r2_ixL rfl) | ((with_reducible apply rc_u); first | exact rc_len (.inr rfl) | exact rc_len (.inl rfl)))))
section
variable {P : Program} {w : World} {K : PySem.W.Frag} {mg : Str → Option Value} {base : Heap} (T : Tx K mg)
def nilH : Hp := fun _ => none
theorem nil_same (H : Hp) : Same nilH H := fun _ _ e => nomatch e
theorem sqL_same {H H' : Hp} {a : Addr} {xs : List V} (h : SqL K H a xs) (e : Same H H') : SqL K H' a xs := by
  rcases h with (h | ⟨o, h⟩) | h
  · exact .inl (.inl (e _ _ h))
  · exact .inl (.inr ⟨o, e _ _ h⟩)
  · exact .inr h
/-- a new list, at one place -/
def ELa (te : TE) (σ : St) (H0 H : Hp) (ds : List PyData) : Prop := ∀ Q : VK, (∀ p vs H0' H', Grow H0 H H0' H' → H p = none → H0' p = none → H' p = some (.lst vs) → DqAll H0' vs ds → Q (.ref p) H') → te σ H Q
theorem ela_sl {ρ : DD.Env} {σ : St} {H0 H : Hp} {tl th : TO} {lo hi : Option Int} {a : Addr} {ns : List Int} (h0 : σ[0]? = some (some (.ref a))) (hS : SqL K H a (ns.map V.int)) (s : Same H0 H) (l : σ.length = ρ.length) (q : DatE H0 σ ρ) (hl : EO tl ρ lo) (hh : EO th ρ hi) :
    ELa (tSl (rSlL K) (tVar 0) tl th) σ H0 H (cutD (ns.map .int) lo hi) := fun Q k =>
  ⟨_, h0, hl σ H0 H s l q _ fun H2 H2' g2 => hh σ H2 H2' g2.sub l (q.up g2.base) _ fun H3 H3' g3 =>
    ⟨a, _, rfl, sqL_same hS (g2.trans g3).big, fun p hp => k p _ H3 _ ((g2.trans g3).trans (.big1 (g2.trans g3).sub hp)) ((g2.trans g3).big.free hp) ((g2.trans g3).sub.free hp) upd_same ((DqAll.ints ns).cut lo hi)⟩⟩
theorem ela_list {te : TE} {σ : St} {H0 H : Hp} {ds : List PyData} (h : ELa te σ H0 H ds) : ELa (tCB (fun xs H Q => ∃ p ys, xs = [.ref p] ∧ (SqL K H p ys ∨ SqT K H p ys) ∧ ∀ l, H l = none → Q (.ref l) (upd H l (.lst ys))) (tCons te tNil)) σ H0 H ds := fun Q k =>
  h _ fun p vs H1 H1' g hp h0 h1 q => rc_listOf (K := K) (d := .list ds) (.inl rfl) [.ref p] (upd H1 p (.lst vs)) H1' (g.take hp h0 h1).sub (.cons (.lst upd_same (q.up (same_new h0))) .nil) Q fun p2 vs2 H2 H2' g2 hp2 h02 h12 q2 => k p2 vs2 H2 H2' ((g.take hp h0 h1).trans g2) (g.big.free hp2) h02 h12 q2
theorem ela_or {ρ : DD.Env} {ta tb : TE} {σ : St} {H0 H : Hp} {xs ys : List PyData} (l : σ.length = ρ.length) (q : DatE H0 σ ρ) (h1 : ELa ta σ H0 H xs) (h2 : EL tb ρ ys) : ELa (tOrT K ta tb) σ H0 H (if xs.isEmpty then ys else xs) := fun Q k => h1 _ fun p vs H1 H1' g hp h0 h1' q1 => by
  have he : vs.isEmpty = xs.isEmpty := by
    have := q1.len
    cases vs <;> cases xs <;> first | rfl | cases this
  refine ⟨!vs.isEmpty, .inl ⟨vs, .inl (.inl h1'), rfl⟩, ?_⟩
  rw [he]
  cases hx : xs.isEmpty with
  | true =>
    rw [hx] at k
    exact iteF (h2 σ H1 H1' g.sub l (q.up g.base) Q fun p' vs' H2 H2' g2 hp' h0' h1'' q2 => k p' vs' H2 H2' (g.trans g2) (g.big.free hp') h0' h1'' q2)
  | false =>
    rw [hx] at k
    exact iteT (k p vs H1 H1' g hp h0 h1' q1)
theorem ela_asg {js : List Nat} {p : Nat → Addr} {Hi0 Hi H0 H : Hp} {σ : St} {ρ : DD.Env} {te : TE} {ds : List PyData} {i : Nat} {D : Ends} (s : StOk Hi0 Hi H0 H σ ρ) (hp : At p js σ) (hi : i ∉ js) (hl : ELa te σ H0 H ds) (k : ∀ σ' H1 H', StOk Hi0 Hi H1 H' σ' (ρ.set i (.own ds)) → At p js σ' → D.nx σ' H') : tAsg te (gName i) D σ H :=
  hl _ fun p' vs H1 H1' g hp' h0 h1 q => k _ H1 _ ((s.more g).setO i h1 h0 (s.gr.big.free hp') (fun i es q h h2 => ownNe (H1 := H1) (H1' := H1') s hp' i es q h h2) q) (hp.set hi)
/-- for k, x in enumerate(e) -/
theorem ela_forE {js : List Nat} {p : Nat → Addr} {Hi0 Hi H0 H : Hp} {σ : St} {ρ : DD.Env} {te : TE} {g : TG} {tb : TS} {es : List PyData} {D : Ends} (I : Nat → DD.Env → Prop) (s : StOk Hi0 Hi H0 H σ ρ) (hp : At p js σ) (i0 : I 0 ρ) (he : ELa te σ H0 H es)
    (hb : ∀ i d, (prs (rngD 0 es.length) es)[i]? = some d → ∀ ρ, I i ρ → ∃ us, TgtD g d us ∧ (∀ u ∈ us, u.1 ∉ js) ∧ TX js tb (· = setE ρ us) (I (i + 1)))
    (k : ∀ ρ' σ' H', I (prs (rngD 0 es.length) es).length ρ' → OT Hi0 Hi p js ρ' σ' H' → D.nx σ' H') : tFor (iEnum K (tCons te tNil)) g tb D σ H := by
  refine he _ fun p1 xs H1 H1' g1 hp1 h01 h11 a1 => ⟨p1, xs, rfl, .inl (.inl h11), ?_⟩
  have gg := g1.take hp1 h01 h11
  have s1 := s.more gg
  have a2 := a1.up (same_new (o := .lst xs) h01)
  have w : Walk (Ite K p1) (prs (rngD 0 es.length) es).length (Same (upd H1 p1 (.lst xs))) (YPair (fun i => some (.int (i : Nat))) (fun i => xs[i]?)) := by
    have e : (prs (rngD 0 es.length) es).length = xs.length := by rw [a1.len]; simp [prs, List.length_zip, rngD_len]
    rw [e]
    exact walk_enum.mono (fun H z => .inl (.inl (z _ _ upd_same))) (fun _ _ _ _ _ _ y => y)
  refine for_it w (fun i σ' Hc => ∃ ρ' Hb, I i ρ' ∧ StOk Hi0 Hi Hb Hc σ' ρ' ∧ At p js σ' ∧ Same (upd H1 p1 (.lst xs)) Hb) ⟨ρ, _, i0, s1, hp, Same.refl _⟩ (fun i σ' Hc _ ⟨_, Hb, _, sb, _, sm⟩ => sm.trans sb.gr.sub) (fun i y σ' Hc Hc' hi ⟨ρ', Hb, ii, sb, hpb, sm⟩ yy => ?_) (fun σ' Hc ⟨ρ', Hb, ii, sb, hpb, _⟩ => k ρ' σ' Hc ii ⟨Hb, sb, hpb⟩)
  have hy : ∃ Hb' d, (prs (rngD 0 es.length) es)[i]? = some d ∧ Grow Hb Hc Hb' Hc' ∧ Dq Hb' y d := by
    obtain ⟨T, x1, y1, rfl, hT, rfl, g1, g3⟩ := yy
    obtain ⟨e, f3, f4⟩ := a2.getV g3
    have pn := pair_new (x := .int (i : Nat)) sb.gr.sub hT (.int _) (f4.up sm)
    rw [← Option.some.inj g1]
    have hi2 : i < es.length := (List.getElem?_eq_some_iff.mp f3).1
    refine ⟨_, _, prs_get (rngD_get 0 es.length i hi2) f3, pn.1, ?_⟩
    rw [Int.zero_add]
    exact pn.2
  obtain ⟨Hb', d, ed, gc, qd⟩ := hy
  obtain ⟨us, hg, hu, hr⟩ := hb i d ed ρ' ii
  obtain ⟨ws, mm, go⟩ := hg Hb' Hc' y gc.sub qd
  refine go σ' _ ?_
  have s2 := (sb.more gc).setS mm
  have sm2 : Same (upd H1 p1 (.lst xs)) Hb' := sm.trans gc.base
  exact hr p (upd H1 p1 (.lst xs)) (un (upd H1 p1 (.lst xs)) Hi) { D with nx := _, ct := _, bk := D.nx } _ _ _ rfl ⟨Hb', s2.inn s1.gr.base sm2, setS_slot mm hu hpb⟩ fun ρ'' σ'' H'' b ⟨Hz, sz, hz⟩ => ⟨ρ'', Hz, b, sz.outt s1.gr, hz, sz.gr.base⟩
/-- the script's cells: the script is not data of ours -/
def S_cells (K : PySem.W.Frag) : Sp := fun vs H Q _ => ∃ (a : Addr) (ns : List Int), vs = [.ref a, .int 1] ∧ SqL K H a (ns.map V.int) ∧ ∀ (v : V) (H0' H' : Hp), Grow nilH H H0' H' → Dq H0' v (.list [.int (cellF ns)]) → Q v H'
theorem ok_cellsS : FnOk P w K mg base CX0 1 T.f_l_cells T.d_l_cells ["_law_script", "_law_most_so"] (S_cells K) := by
  refine T.F_l_cells.ok sc_l_cells (fun vs H Q E ⟨_, _, e, _⟩ => by rw [e]; rfl) (fun cdv A outer s H vs Q E hr h => ⟨_, PSs.nox (pss_cons (ps_set (i := 2) sc_l_cells.nd rfl (by first | exact Or.inl rfl | exact Or.inr rfl) (show PE _ _ (tOrT K _ _) from pe_orT (pe_callTy (call_listK (K := K) rfl) (by rfl) T.n_list (by decide +kernel) (pa_cons (pe_slice (show SlR _ (rSlL K) from sl_list) (pv 0) po_none (po_some (pv 1))) pa_nil)) (pe_one (pe_lst (pa_cons pe_int pa_nil))))) (pss_cons (ps_for PassesOwn.never rfl (show PI _ _ _ (iEnum K _) from pi_enum (by rfl) T.n_enumerate (pa_cons (pe_slice (show SlR _ (rSlL K) from sl_list) (pv 0) (po_some (pv 1)) (po_some pe_int)) pa_nil)) (show PG _ _ (gTup K 2 _) from pg_tup rfl (pgs_cons (pg_name (i := 3) sc_l_cells.nd rfl (by first | exact Or.inl rfl | exact Or.inr rfl)) (pgs_cons (pg_name (i := 4) sc_l_cells.nd rfl (by first | exact Or.inl rfl | exact Or.inr rfl)) pgs_nil))) (pss_cons (ps_set (i := 5) sc_l_cells.nd rfl (by first | exact Or.inl rfl | exact Or.inr rfl) (pe_op op_mod (pe_callTy call_int1 (by rfl) T.n_int (by decide +kernel) (pa_cons (pv 3) pa_nil)) (pv 1))) (pss_one (ps_asg (pe_op op_add (pe_ix (show IxR _ (rIxL K) from ix_list) (pv 2) (pv 5) (fun _ _ => rfl)) (pe_op op_mul (pv 4) (pe_op op_add (pv 3) pe_int))) (pg_sub (pv 2) (pv 5) set_list))))) (pss_one (ps_ret (pv 2))))), ?_⟩)
  obtain ⟨a, ns, rfl, hS, k⟩ := h
  let env0 : DD.Env := [.no, .dat (.int 1), .no, .no, .no, .no]
  let env : Int → DD.Env := fun c => [.no, .dat (.int 1), .own [.int c], .no, .no, .no]
  let xs := (ns.drop 1).take 62
  have hxl : xs.length ≤ 62 := by show ((ns.drop 1).take 62).length ≤ 62; rw [List.length_take]; omega
  let st : Nat → Int := fun i => (xs.zipIdx.take i).foldl (fun c z => c + z.1 * ((z.2 : Int) + 2)) (ns.headD 0)
  let σ0 : St := L2.start ["_law_script", "_law_most_so", "_law_cells_so", "_law_k", "_law_bit_so", "_law_at_so"] [.ref a, .int 1]
  have s0 : StOk nilH H nilH H σ0 env0 := by
    refine ⟨.refl (nil_same H), rfl, fun i d e => ?_, fun i ds e => ?_, fun i j ds es p e => ?_⟩
    · match i, e with
      | 0, e => cases e
      | 1, e => cases e; exact ⟨_, rfl, .int 1⟩
      | 2, e => cases e
      | 3, e => cases e
      | 4, e => cases e
      | 5, e => cases e
      | i + 6, e => cases e
    · match i, e with
      | 0, e => cases e
      | 1, e => cases e
      | 2, e => cases e
      | 3, e => cases e
      | 4, e => cases e
      | 5, e => cases e
      | i + 6, e => cases e
    · match i, e with
      | 0, e => cases e
      | 1, e => cases e
      | 2, e => cases e
      | 3, e => cases e
      | 4, e => cases e
      | 5, e => cases e
      | i + 6, e => cases e
  have p0 : At (fun _ => a) [0] σ0 := fun j hj => by rw [List.mem_singleton.mp hj]; rfl
  have c1 : (if (cutD (ns.map PyData.int) none (some ((1 : Nat) : Int))).isEmpty then [PyData.int 0] else cutD (ns.map .int) none (some ((1 : Nat) : Int))) = [.int (ns.headD 0)] := by
    rw [cut_to]
    cases ns <;> rfl
  refine ela_asg (ρ := env0) (js := [0]) (p := fun _ => a) (i := 2) s0 p0 (show 2 ∉ [0] by decide) (ela_or (ρ := env0) s0.len s0.dat (ela_list (ela_sl (ρ := env0) (lo := none) (hi := some ((1 : Nat) : Int)) rfl hS s0.gr.sub s0.len s0.dat eo_none (eo_some (ed_var rfl)))) (el_lst (ea_cons ed_int ea_nil) (len_ok rfl))) fun σ1 H1 H1' s1 p1 => ?_
  rw [c1] at s1
  have c2 : cutD (ns.map PyData.int) (some ((1 : Nat) : Int)) (some ((63 : Nat) : Int)) = xs.map .int := by
    rw [cutD_map]
    unfold cutD
    rw [HT.sIx_nat, HT.sIx_nat]
    refine congrArg (fun l : List Int => l.map PyData.int) ?_
    show (ns.drop (min 1 ns.length)).take (min 63 ns.length - min 1 ns.length) = (ns.drop 1).take 62
    by_cases h1 : ns.length = 0
    · rw [List.eq_nil_of_length_eq_zero h1]
      rfl
    · rw [show min 1 ns.length = 1 by omega]
      by_cases h2 : 63 ≤ ns.length
      · rw [show min 63 ns.length = 63 by omega]
      · rw [List.take_of_length_le (by rw [List.length_drop]; omega), List.take_of_length_le (by rw [List.length_drop]; omega)]
  have hS1 := sqL_same hS s1.gr.big
  have e1 := ela_sl (ρ := env (ns.headD 0)) (K := K) (lo := some ((1 : Nat) : Int)) (hi := some ((63 : Nat) : Int)) (p1 0 (List.mem_singleton.mpr rfl)) hS1 s1.gr.sub s1.len s1.dat (eo_some (ed_var (i := 1) rfl)) (eo_some ed_int)
  rw [c2] at e1
  refine ela_forE (fun i ρ => ρ = env (st i)) s1 p1 rfl e1 (fun i d hd ρ e => ?_) fun ρ2 σ2 H2 e o2 => ?_
  · subst e
    have hi : i < xs.length := by
      have := (List.getElem?_eq_some_iff.mp hd).1
      unfold prs at this
      rw [List.length_map, List.length_zip, rngD_len, List.length_map] at this
      omega
    have hd2 : d = .tuple [.int (i : Int), .int xs[i]] := by
      have h1 : (rngD 0 (xs.map PyData.int).length)[i]? = some (.int (0 + (i : Int))) := rngD_get 0 _ i (by rw [List.length_map]; exact hi)
      have h2 : (xs.map PyData.int)[i]? = some (.int xs[i]) := by rw [List.getElem?_map, List.getElem?_eq_getElem hi]; rfl
      have := prs_get h1 h2
      rw [hd, Int.zero_add] at this
      exact Option.some.inj this
    subst hd2
    have hst : st (i + 1) = st i + xs[i] * ((i : Int) + 2) := by
      show (xs.zipIdx.take (i + 1)).foldl _ _ = _
      rw [fold_take _ _ xs.zipIdx i (xs[i], i) (by rw [List.getElem?_zipIdx, List.getElem?_eq_getElem hi, Nat.zero_add]; rfl)]
    refine ⟨[(3, .int (i : Int)), (4, .int xs[i])], tgt_two, fun u hu => ?_, ?_⟩
    · simp only [List.mem_cons, List.not_mem_nil, or_false] at hu
      rcases hu with rfl | rfl
      · show 3 ∉ [0]; decide
      · show 4 ∉ [0]; decide
    let env2 : Int → DD.Env := fun c => [.no, .dat (.int 1), .own [.int c], .dat (.int (i : Int)), .dat (.int xs[i]), .dat (.int 0)]
    refine tx_imp (tx_lose (j := 3) (tx_lose (j := 4) (tx_lose (j := 5) (tx_seq (B := (· = env2 (st i))) (tx_asg (show 5 ∉ [0] by decide) fun ρ e => ?_) (tx_store (B := (· = env2 (st (i + 1)))) fun ρ e => ?_))))) fun ρ ⟨ρ0, ⟨ρ1, ⟨ρ2, e1, e2⟩, e3⟩, e4⟩ => ?_
    · subst e
      refine ex_ed (d := .int 0) (ed_op (ed_cb (ea_cons (ed_var rfl) ea_nil) rc_intI) (ed_var rfl) (r2_I (show (0 : Int) < 1 by decide) fun _ => ?_)) rfl
      rw [Int.emod_one]
      exact .int 0
    · subst e
      refine ex_op (P1 := fun ρ1 d1 => ρ1 = env2 (st i) ∧ d1 = .int (st i)) (ex_ixO (j := 2) (es := [.int (st i)]) (i := 0) rfl (ed_var rfl) rfl ⟨rfl, rfl⟩) fun ρ1 d1 ⟨e1, e2⟩ => ?_
      subst e1 e2
      refine ex_ed (d := .int (xs[i] * ((i : Int) + 2))) (ed_op (ed_var rfl) (ed_op (ed_var rfl) ed_int (r2_N rfl)) (r2_I (.inr ⟨by omega, by omega⟩) fun _ => .int _)) ⟨.int (st (i + 1)), r2_N hst.symm, [.int (st i)], 0, 0, rfl, ed_var rfl, rfl, rfl⟩
    · subst e1
      subst e2
      subst e3
      subst e4
      rfl
  · have hend : ρ2 = env (cellF ns) := by
      rw [e]
      show env _ = env _
      congr 1
      unfold prs
      rw [List.length_map, List.length_zip, rngD_len, List.length_map, Nat.min_self]
      show (xs.zipIdx.take xs.length).foldl _ _ = _
      rw [List.take_of_length_le (by rw [List.length_zipIdx]; exact Nat.le_refl _)]
      rfl
    exact txr_retO (jt := [0]) (j := 2) (A := (· = env (cellF ns))) (P := fun _ d => d = .list [.int (cellF ns)]) (show 2 ∉ [0] by decide) (fun ρ e => by subst e; exact ⟨_, rfl, rfl⟩) (fun _ => a) nilH H _ σ2 H2 ρ2 hend o2 fun ρ' d v σ' H0' H' e s' _ q => by
      subst e
      exact k v H0' H' s'.gr q
theorem ex_andV {ρ : DD.Env} {ta tb : TE} {P1 : DD.Env → Prop} {P2 : DD.Env → PyData → Prop} (h1 : EX ta ρ fun ρ1 d => d = .bool true ∧ P1 ρ1) (h2 : ∀ ρ1, P1 ρ1 → EX tb ρ1 P2) : EX (tAndV ta tb) ρ P2 := fun Hi0 Hi H0 H σ s Q k => h1 Hi0 Hi H0 H σ s _ fun ρ1 d v H1 H1' ⟨e, p1⟩ sm s1 q => by
  subst e
  exact ⟨true, q.bl_inv, iteT (h2 ρ1 p1 Hi0 Hi H1 H1' σ s1 Q fun ρ2 d2 v2 H2 H2' p2 sm2 s2 q2 => k ρ2 d2 v2 H2 H2' p2 (sm.trans sm2) s2 q2)⟩
theorem ex_call1 {ρ : DD.Env} {te : TE} {E : XK} {R : List PyData → PyData → Prop} {P2 : DD.Env → PyData → Prop} (h : EX te ρ fun ρ1 d1 => ∃ z, R [d1] z ∧ P2 ρ1 z) : EX (tCall (Pure R) [] E (tCons te tNil)) ρ P2 := fun Hi0 Hi H0 H σ s Q k => h Hi0 Hi H0 H σ s _ fun ρ1 d1 v H1 H1' ⟨z, hr, p⟩ sm s1 q =>
  ⟨H1, [d1], z, s1.gr.sub, .cons q .nil, hr, fun v2 H2 H2' g q2 => k ρ1 z v2 H2 H2' p (sm.trans g.base) (s1.more g) q2⟩
def sp_law (K : PySem.W.Frag) : Sp := fun vs H Q _ => ∃ (a : Addr) (ns : List Int), vs = [.ref a] ∧ SqL K H a (ns.map V.int) ∧ ∀ H', Q (.bl true) H'
theorem ok_law (G_l_cells : FnOk P w K mg base CX0 1 T.f_l_cells T.d_l_cells ["_law_script", "_law_most_so"] (S_cells K)) (G_l_box : FnOk P w K mg base CX0 1 T.f_l_box T.d_l_box ["_law_script", "_law_k"] (PureL R_box)) (G_l_hand_right : FnOk P w K mg base CX0 9 T.f_l_hand_right T.d_l_hand_right ["_law_turn_so"] (Pure R_hand)) (G_l_take : FnOk P w K mg base CX0 1 T.f_l_take T.d_l_take ["_law_tin", "_law_below_so"] S_take) (G_l_right : FnOk P w K mg base CX0 9 T.f_l_right T.d_l_right ["_law_tin"] (DrawT 800 Dom_right R_right)) : FnOk P w K mg base CX0 10 T.f_law_ T.d_law_ ["_law_script"] (sp_law K) := by
  refine T.F_law_.ok sc_law_ (fun vs H Q E ⟨_, _, e, _⟩ => by rw [e]; rfl) (fun cdv A outer s H vs Q E hr h => ⟨_, PSs.nox (pss_cons (ps_set (i := 1) sc_law_.nd rfl (by first | exact Or.inl rfl | exact Or.inr rfl) (pe_call G_l_box (hr.mono (by decide)) (by rfl) T.g_l_box T.F_l_box.kp T.b_l_box .nil pass0 (pa_cons (pe_call G_l_cells (hr.mono (by decide)) (by rfl) T.g_l_cells T.F_l_cells.kp T.b_l_cells .nil pass0 (pa_cons (pv 0) (pa_cons pe_int pa_nil))) (pa_cons pe_int pa_nil)))) (pss_one (ps_ret (pe_and (pe_call G_l_hand_right (hr.mono (by decide)) (by rfl) T.g_l_hand_right T.F_l_hand_right.kp T.b_l_hand_right .nil pass0 (pa_cons (pe_call G_l_take (hr.mono (by decide)) (by rfl) T.g_l_take T.F_l_take.kp T.b_l_take .nil pass0 (pa_cons (pv 1) (pa_cons pe_int pa_nil))) pa_nil)) (pe_one (pe_call G_l_right (hr.mono (by decide)) (by rfl) T.g_l_right T.F_l_right.kp T.b_l_right .nil pass0 (pa_cons (pv 1) pa_nil))))))), ?_⟩)
  obtain ⟨a, ns, rfl, hS, k⟩ := h
  let c := cellF ns
  have tb0 : TB (boxB c) 0 0 := box_tb c
  let env0 : DD.Env := [.no, .no]
  let env : Int → Int → Int → DD.Env := fun a b c => [.no, .own (tin a b c)]
  have s0 : StOk nilH H nilH H (L2.start ["_law_script", "_law_tin"] [.ref a]) env0 := by
    refine ⟨.refl (nil_same H), rfl, fun i d e => ?_, fun i ds e => ?_, fun i j ds es p e => ?_⟩
    · match i, e with
      | 0, e => cases e
      | 1, e => cases e
      | i + 2, e => cases e
    · match i, e with
      | 0, e => cases e
      | 1, e => cases e
      | i + 2, e => cases e
    · match i, e with
      | 0, e => cases e
      | 1, e => cases e
      | i + 2, e => cases e
  refine ⟨.ref a, rfl, a, ns, rfl, hS, fun v H1 H1' g1 q1 => ?_⟩
  refine ⟨H1, [.list [.int c], .int 0], tin (boxA c) (boxB c) 0, g1.sub, .cons q1 (.cons (.int 0) .nil), ⟨c, rfl, rfl⟩, fun p ws H2 H2' g2 hp h0 h1 q2 => ?_⟩
  have s2 := (s0.more (g1.trans g2)).setO 1 h1 h0 (g1.big.free hp) (fun i es q h h2 => ownNe (H1 := H2) (H1' := H2') s0 (g1.big.free hp) i es q h h2) q2
  show tRet (tAndV (tCall (DD.Pure R_hand) [] E0 (tCons (tCall S_take [] E0 (tCons (tVar 1) (tCons (tC (V.int 3)) tNil))) tNil)) (tCall (DrawT 800 Dom_right R_right) [] E0 (tCons (tVar 1) tNil))) _ _ _
  refine txr_ret (jt := []) (A := (· = env (boxA c) (boxB c) 0)) (P := fun _ d => d = .bool true) (fun ρ e => ?_) (fun _ => p) nilH H _ _ H2' _ rfl ⟨H2, s2, fun j hj => nomatch hj⟩ fun ρ' d v σ' H0' H' e s' _ q => ?_
  · subst e
    refine ex_andV (P1 := fun ρ1 => ∃ a' c', ρ1 = env a' (boxB c) c' ∧ TB (boxB c) c' 1) (ex_call1 (ex_take (jt := 1) (a := boxA c) (b := boxB c) (c := 0) rfl (ex_ed (d := .int 3) ed_int ⟨3, boxA c, boxB c, 0, 0, rfl, by decide, by decide, rfl, tb0, by decide, fun r a' c' h1 h2 tb' => ⟨.bool true, ⟨r.toNat, ?_, rfl⟩, rfl, a', c', rfl, tb'⟩⟩))) fun ρ1 ⟨a', c', e, tb'⟩ => ?_
    · show [PyData.int r] = [PyData.int ((r.toNat : Nat) : Int)]
      rw [Int.toNat_of_nonneg h1]
    · subst e
      exact ex_draw (jt := 1) (ds := []) (n := 800) (k := 1) rfl ea_nil tb' (by decide) rfl fun d a'' b'' c'' hd _ => hd
  · subst e
    rw [q.bl_inv]
    exact k _
end
end K4P
end

section
set_option Elab.async false
set_option linter.all false
set_option maxRecDepth 100000
set_option maxHeartbeats 0
/-! What the top leaves, by names. -/
namespace K4P
open PySem PySem.Spec PyProof.Rows L2
abbrev AlM : Type := He.AlD × Bool
def obsMG (n : Nat) (fa : List He.Fa) (fn : List He.DefD) (ex : PySem.W.Frag → Bool) (g : Addr → Option Obj) : AlM := (He.obsD fa fn (He.frG g (He.asD g n)), ex (He.frG g (He.asD g n)))
def hookM (n : Nat) (fa : List He.Fa) (fn : List He.DefD) (ex : PySem.W.Frag → Bool) : PySem.W.Hook where
  α := AlM
  obs := fun s => obsMG n fa fn ex s.heap.get?
  val := fun _ => (He.valD fn, true)
  says := fun _ h => ∃ K : PySem.W.Frag, K.In h ∧ He.SaysD fa fn K ∧ ex K = true
  of := fun _ _ e => ⟨_, He.frG_in, congrArg (fun z : AlM => z.1) e, congrArg (fun z : AlM => z.2) e⟩
  keeps := fun _ _ _ ⟨K, hK, c⟩ k => ⟨K, PySem.W.Frag.In.keeps hK k, c⟩
theorem obsMG_eq {n : Nat} {fa : List He.Fa} {fn : List He.DefD} {ex : PySem.W.Frag → Bool} {g : Addr → Option Obj} {s : Shared} (h : ∀ a, g a = s.heap.get? a) : obsMG n fa fn ex g = (hookM n fa fn ex).obs s := by
  have e : g = s.heap.get? := funext h
  rw [e] <;> rfl
def fnD (x : Str) (st : Stmt) : He.DefD := ⟨(x, none), x, x, defArgs st, defBody st, defScope st, [], []⟩
def fn0 : List He.DefD := [fnD "is_number" s_is_number, fnD "is_from" s_is_from, fnD "is_long" s_is_long, fnD "tupled" s_tupled, fnD "ascends" s_ascends, fnD "are_numbers" s_are_numbers, fnD "is_pair" s_is_pair, fnD "is_tie_of" s_is_tie_of, fnD "marked" s_marked, fnD "grown_from" s_grown_from, fnD "hangs_in" s_hangs_in, fnD "is_web" s_is_web, fnD "sure_web" s_sure_web, fnD "is_tree_in" s_is_tree_in, fnD "some_in" s_some_in, fnD "table_in" s_table_in, fnD "many_in" s_many_in, fnD "all_in" s_all_in, fnD "is_tree" s_is_tree, fnD "some_tree" s_some_tree]
def fn1 : List He.DefD := [fnD "many_trees" s_many_trees, fnD "all_trees" s_all_trees, fnD "_law_box" s_l_box, fnD "_law_take" s_l_take, fnD "_law_cells" s_l_cells, fnD "_law_of" s_l_of, fnD "_law_pick" s_l_pick, fnD "_law_lists" s_l_lists, fnD "_law_same" s_l_same, fnD "_law_spoil" s_l_spoil, fnD "_law_marks" s_l_marks, fnD "_law_hangs" s_l_hangs, fnD "_law_all_trees" s_l_all_trees, fnD "_law_net" s_l_net, fnD "_law_all_tied" s_l_all_tied, fnD "_law_ring" s_l_ring, fnD "_law_house" s_l_house, fnD "_law_house_tree" s_l_house_tree, fnD "_law_any_tree" s_l_any_tree, fnD "_law_heard" s_l_heard]
def fn2 : List He.DefD := [fnD "_law_is_bush" s_l_is_bush, fnD "_law_hand_right" s_l_hand_right, fnD "_law_right" s_l_right, fnD "law" s_law_]
def fn : List He.DefD := fn0 ++ fn1 ++ fn2
def fa0 : List He.Fa := [.glo "is_number", .glo "is_from", .glo "is_long", .glo "tupled", .glo "ascends", .glo "are_numbers", .glo "is_pair", .glo "is_tie_of", .glo "marked", .glo "grown_from", .glo "hangs_in", .glo "is_web", .glo "sure_web", .glo "is_tree_in", .glo "some_in", .glo "table_in", .glo "many_in", .glo "all_in", .glo "is_tree", .glo "some_tree"]
def fa1 : List He.Fa := [.glo "many_trees", .glo "all_trees", .glo "_law_box", .glo "_law_take", .glo "_law_cells", .glo "_law_of", .glo "_law_pick", .glo "_law_lists", .glo "_law_same", .glo "_law_spoil", .glo "_law_marks", .glo "_law_hangs", .glo "_law_all_trees", .glo "_law_net", .glo "_law_all_tied", .glo "_law_ring", .glo "_law_house", .glo "_law_house_tree", .glo "_law_any_tree", .glo "_law_heard"]
def fa2 : List He.Fa := [.glo "_law_is_bush", .glo "_law_hand_right", .glo "_law_right", .glo "law", .free "ValueError", .free "abs", .free "all", .free "bool", .free "enumerate", .free "int", .free "isinstance", .free "len", .free "list", .free "max", .free "min", .free "range", .free "set", .free "sorted", .free "str", .free "tuple"]
def fa3 : List He.Fa := [.free "zip", .int "MOST" 2000, .glo "TooMany"]
def fa : List He.Fa := fa0 ++ fa1 ++ fa2 ++ fa3
def loose0 : List Str := ["TooMany", "Unfit", "MOST", "is_number", "is_from", "is_long", "tupled", "ascends", "are_numbers", "is_pair", "is_tie_of", "marked", "grown_from", "hangs_in", "is_web", "sure_web", "is_tree_in", "some_in", "table_in", "many_in"]
def loose1 : List Str := ["all_in", "is_tree", "some_tree", "many_trees", "all_trees", "_law_box", "_law_take", "_law_cells", "_law_of", "_law_pick", "_law_lists", "_law_same", "_law_spoil", "_law_marks", "_law_hangs", "_law_all_trees", "_law_net", "_law_all_tied", "_law_ring", "_law_house"]
def loose2 : List Str := ["_law_house_tree", "_law_any_tree", "_law_heard", "_law_is_bush", "_law_hand_right", "_law_right"]
def loose : List Str := loose0 ++ loose1 ++ loose2
def exB (K : PySem.W.Frag) : Bool := PySem.W.excIn K (He.ga K "TooMany") He.veBase "ValueError.__new__" && (PySem.W.keepIn K (.ref (He.ga K "TooMany")) && (decide (PySem.W.subIn K (.ref (He.ga K "TooMany")) (.type "BaseException") = some true) && (decide (PySem.W.typeIn K (.ref (He.ga K "TooMany")) = some (.type "type")) && (PySem.W.isClsIn K (He.ga K "TooMany") && (decide (PySem.W.subIn K (.ref (He.ga K "TooMany")) (.ref (He.ga K "TooMany")) = some true) && (decide (PySem.W.findIn K (.ref (He.ga K "TooMany")) "__getattribute__" = some (some (.builtin "BaseException.__getattribute__"))) && (decide (PySem.W.findIn K (.ref (He.ga K "TooMany")) "__getattr__" = some none) && (PySem.W.hasDictIn K (He.ga K "TooMany") && (decide (PySem.W.findIn K (.ref (He.ga K "TooMany")) "__class__" = some (some (.builtin "object.__class__"))) && (decide (PySem.W.specialIn K (.builtin "object.__class__") "__get__" = some (some (.builtin "getset_descriptor.__get__"))) && (decide (PySem.W.takesIn K (.builtin "object.__class__") = some true) && (decide (PySem.W.mroIn K (He.ga K "TooMany") (.type "object") = some true) && (decide (PySem.W.kitOne K (.ref (He.ga K "TooMany")) (.type "ValueError") = some true))))))))))))))
theorem tx_of {K : PySem.W.Frag} {h : Heap} {mg : Str → Option Value} (X : K.In h) (G : h.Ns mainGlobals mg) (c : He.SaysD fa fn K) (e : exB K = true) : Nonempty (Tx K mg) := by
  obtain ⟨d0, F0⟩ := c.def_ 0 (d := fnD "is_number" s_is_number) rfl
  obtain ⟨d1, F1⟩ := c.def_ 1 (d := fnD "is_from" s_is_from) rfl
  obtain ⟨d2, F2⟩ := c.def_ 2 (d := fnD "is_long" s_is_long) rfl
  obtain ⟨d3, F3⟩ := c.def_ 3 (d := fnD "tupled" s_tupled) rfl
  obtain ⟨d4, F4⟩ := c.def_ 4 (d := fnD "ascends" s_ascends) rfl
  obtain ⟨d5, F5⟩ := c.def_ 5 (d := fnD "are_numbers" s_are_numbers) rfl
  obtain ⟨d6, F6⟩ := c.def_ 6 (d := fnD "is_pair" s_is_pair) rfl
  obtain ⟨d7, F7⟩ := c.def_ 7 (d := fnD "is_tie_of" s_is_tie_of) rfl
  obtain ⟨d8, F8⟩ := c.def_ 8 (d := fnD "marked" s_marked) rfl
  obtain ⟨d9, F9⟩ := c.def_ 9 (d := fnD "grown_from" s_grown_from) rfl
  obtain ⟨d10, F10⟩ := c.def_ 10 (d := fnD "hangs_in" s_hangs_in) rfl
  obtain ⟨d11, F11⟩ := c.def_ 11 (d := fnD "is_web" s_is_web) rfl
  obtain ⟨d12, F12⟩ := c.def_ 12 (d := fnD "sure_web" s_sure_web) rfl
  obtain ⟨d13, F13⟩ := c.def_ 13 (d := fnD "is_tree_in" s_is_tree_in) rfl
  obtain ⟨d14, F14⟩ := c.def_ 14 (d := fnD "some_in" s_some_in) rfl
  obtain ⟨d15, F15⟩ := c.def_ 15 (d := fnD "table_in" s_table_in) rfl
  obtain ⟨d16, F16⟩ := c.def_ 16 (d := fnD "many_in" s_many_in) rfl
  obtain ⟨d17, F17⟩ := c.def_ 17 (d := fnD "all_in" s_all_in) rfl
  obtain ⟨d18, F18⟩ := c.def_ 18 (d := fnD "is_tree" s_is_tree) rfl
  obtain ⟨d19, F19⟩ := c.def_ 19 (d := fnD "some_tree" s_some_tree) rfl
  obtain ⟨d20, F20⟩ := c.def_ 20 (d := fnD "many_trees" s_many_trees) rfl
  obtain ⟨d21, F21⟩ := c.def_ 21 (d := fnD "all_trees" s_all_trees) rfl
  obtain ⟨d22, F22⟩ := c.def_ 22 (d := fnD "_law_box" s_l_box) rfl
  obtain ⟨d23, F23⟩ := c.def_ 23 (d := fnD "_law_take" s_l_take) rfl
  obtain ⟨d24, F24⟩ := c.def_ 24 (d := fnD "_law_cells" s_l_cells) rfl
  obtain ⟨d25, F25⟩ := c.def_ 25 (d := fnD "_law_of" s_l_of) rfl
  obtain ⟨d26, F26⟩ := c.def_ 26 (d := fnD "_law_pick" s_l_pick) rfl
  obtain ⟨d27, F27⟩ := c.def_ 27 (d := fnD "_law_lists" s_l_lists) rfl
  obtain ⟨d28, F28⟩ := c.def_ 28 (d := fnD "_law_same" s_l_same) rfl
  obtain ⟨d29, F29⟩ := c.def_ 29 (d := fnD "_law_spoil" s_l_spoil) rfl
  obtain ⟨d30, F30⟩ := c.def_ 30 (d := fnD "_law_marks" s_l_marks) rfl
  obtain ⟨d31, F31⟩ := c.def_ 31 (d := fnD "_law_hangs" s_l_hangs) rfl
  obtain ⟨d32, F32⟩ := c.def_ 32 (d := fnD "_law_all_trees" s_l_all_trees) rfl
  obtain ⟨d33, F33⟩ := c.def_ 33 (d := fnD "_law_net" s_l_net) rfl
  obtain ⟨d34, F34⟩ := c.def_ 34 (d := fnD "_law_all_tied" s_l_all_tied) rfl
  obtain ⟨d35, F35⟩ := c.def_ 35 (d := fnD "_law_ring" s_l_ring) rfl
  obtain ⟨d36, F36⟩ := c.def_ 36 (d := fnD "_law_house" s_l_house) rfl
  obtain ⟨d37, F37⟩ := c.def_ 37 (d := fnD "_law_house_tree" s_l_house_tree) rfl
  obtain ⟨d38, F38⟩ := c.def_ 38 (d := fnD "_law_any_tree" s_l_any_tree) rfl
  obtain ⟨d39, F39⟩ := c.def_ 39 (d := fnD "_law_heard" s_l_heard) rfl
  obtain ⟨d40, F40⟩ := c.def_ 40 (d := fnD "_law_is_bush" s_l_is_bush) rfl
  obtain ⟨d41, F41⟩ := c.def_ 41 (d := fnD "_law_hand_right" s_l_hand_right) rfl
  obtain ⟨d42, F42⟩ := c.def_ 42 (d := fnD "_law_right" s_l_right) rfl
  obtain ⟨d43, F43⟩ := c.def_ 43 (d := fnD "law" s_law_) rfl
  obtain ⟨tM, gM⟩ := He.int_ok X G (c.fact 61 (f := .int "MOST" 2000) rfl)
  obtain ⟨x0, e⟩ := He.ba e
  obtain ⟨x1, e⟩ := He.ba e
  obtain ⟨x2, e⟩ := He.ba e
  obtain ⟨x3, e⟩ := He.ba e
  obtain ⟨x4, e⟩ := He.ba e
  obtain ⟨x5, e⟩ := He.ba e
  obtain ⟨x6, e⟩ := He.ba e
  obtain ⟨x7, e⟩ := He.ba e
  obtain ⟨x8, e⟩ := He.ba e
  obtain ⟨x9, e⟩ := He.ba e
  obtain ⟨x10, e⟩ := He.ba e
  obtain ⟨x11, e⟩ := He.ba e
  obtain ⟨x12, e⟩ := He.ba e
  have x13 := e
  exact ⟨{ f_is_number := He.ga K "is_number", d_is_number := d0, F_is_number := F0, g_is_number := He.glo_ok X G (c.fact 0 (f := .glo "is_number") rfl), f_is_from := He.ga K "is_from", d_is_from := d1, F_is_from := F1, g_is_from := He.glo_ok X G (c.fact 1 (f := .glo "is_from") rfl), f_is_long := He.ga K "is_long", d_is_long := d2, F_is_long := F2, g_is_long := He.glo_ok X G (c.fact 2 (f := .glo "is_long") rfl), f_tupled := He.ga K "tupled", d_tupled := d3, F_tupled := F3, g_tupled := He.glo_ok X G (c.fact 3 (f := .glo "tupled") rfl), f_ascends := He.ga K "ascends", d_ascends := d4, F_ascends := F4, g_ascends := He.glo_ok X G (c.fact 4 (f := .glo "ascends") rfl), f_are_numbers := He.ga K "are_numbers", d_are_numbers := d5, F_are_numbers := F5, g_are_numbers := He.glo_ok X G (c.fact 5 (f := .glo "are_numbers") rfl), f_is_pair := He.ga K "is_pair", d_is_pair := d6, F_is_pair := F6, g_is_pair := He.glo_ok X G (c.fact 6 (f := .glo "is_pair") rfl), f_is_tie_of := He.ga K "is_tie_of", d_is_tie_of := d7, F_is_tie_of := F7, g_is_tie_of := He.glo_ok X G (c.fact 7 (f := .glo "is_tie_of") rfl), f_marked := He.ga K "marked", d_marked := d8, F_marked := F8, g_marked := He.glo_ok X G (c.fact 8 (f := .glo "marked") rfl), f_grown_from := He.ga K "grown_from", d_grown_from := d9, F_grown_from := F9, g_grown_from := He.glo_ok X G (c.fact 9 (f := .glo "grown_from") rfl), f_hangs_in := He.ga K "hangs_in", d_hangs_in := d10, F_hangs_in := F10, g_hangs_in := He.glo_ok X G (c.fact 10 (f := .glo "hangs_in") rfl), f_is_web := He.ga K "is_web", d_is_web := d11, F_is_web := F11, g_is_web := He.glo_ok X G (c.fact 11 (f := .glo "is_web") rfl), f_sure_web := He.ga K "sure_web", d_sure_web := d12, F_sure_web := F12, g_sure_web := He.glo_ok X G (c.fact 12 (f := .glo "sure_web") rfl), f_is_tree_in := He.ga K "is_tree_in", d_is_tree_in := d13, F_is_tree_in := F13, g_is_tree_in := He.glo_ok X G (c.fact 13 (f := .glo "is_tree_in") rfl), f_some_in := He.ga K "some_in", d_some_in := d14, F_some_in := F14, g_some_in := He.glo_ok X G (c.fact 14 (f := .glo "some_in") rfl), f_table_in := He.ga K "table_in", d_table_in := d15, F_table_in := F15, g_table_in := He.glo_ok X G (c.fact 15 (f := .glo "table_in") rfl), f_many_in := He.ga K "many_in", d_many_in := d16, F_many_in := F16, g_many_in := He.glo_ok X G (c.fact 16 (f := .glo "many_in") rfl), f_all_in := He.ga K "all_in", d_all_in := d17, F_all_in := F17, g_all_in := He.glo_ok X G (c.fact 17 (f := .glo "all_in") rfl), f_is_tree := He.ga K "is_tree", d_is_tree := d18, F_is_tree := F18, g_is_tree := He.glo_ok X G (c.fact 18 (f := .glo "is_tree") rfl), f_some_tree := He.ga K "some_tree", d_some_tree := d19, F_some_tree := F19, g_some_tree := He.glo_ok X G (c.fact 19 (f := .glo "some_tree") rfl), f_many_trees := He.ga K "many_trees", d_many_trees := d20, F_many_trees := F20, g_many_trees := He.glo_ok X G (c.fact 20 (f := .glo "many_trees") rfl), f_all_trees := He.ga K "all_trees", d_all_trees := d21, F_all_trees := F21, g_all_trees := He.glo_ok X G (c.fact 21 (f := .glo "all_trees") rfl), f_l_box := He.ga K "_law_box", d_l_box := d22, F_l_box := F22, g_l_box := He.glo_ok X G (c.fact 22 (f := .glo "_law_box") rfl), f_l_take := He.ga K "_law_take", d_l_take := d23, F_l_take := F23, g_l_take := He.glo_ok X G (c.fact 23 (f := .glo "_law_take") rfl), f_l_cells := He.ga K "_law_cells", d_l_cells := d24, F_l_cells := F24, g_l_cells := He.glo_ok X G (c.fact 24 (f := .glo "_law_cells") rfl), f_l_of := He.ga K "_law_of", d_l_of := d25, F_l_of := F25, g_l_of := He.glo_ok X G (c.fact 25 (f := .glo "_law_of") rfl), f_l_pick := He.ga K "_law_pick", d_l_pick := d26, F_l_pick := F26, g_l_pick := He.glo_ok X G (c.fact 26 (f := .glo "_law_pick") rfl), f_l_lists := He.ga K "_law_lists", d_l_lists := d27, F_l_lists := F27, g_l_lists := He.glo_ok X G (c.fact 27 (f := .glo "_law_lists") rfl), f_l_same := He.ga K "_law_same", d_l_same := d28, F_l_same := F28, g_l_same := He.glo_ok X G (c.fact 28 (f := .glo "_law_same") rfl), f_l_spoil := He.ga K "_law_spoil", d_l_spoil := d29, F_l_spoil := F29, g_l_spoil := He.glo_ok X G (c.fact 29 (f := .glo "_law_spoil") rfl), f_l_marks := He.ga K "_law_marks", d_l_marks := d30, F_l_marks := F30, g_l_marks := He.glo_ok X G (c.fact 30 (f := .glo "_law_marks") rfl), f_l_hangs := He.ga K "_law_hangs", d_l_hangs := d31, F_l_hangs := F31, g_l_hangs := He.glo_ok X G (c.fact 31 (f := .glo "_law_hangs") rfl), f_l_all_trees := He.ga K "_law_all_trees", d_l_all_trees := d32, F_l_all_trees := F32, g_l_all_trees := He.glo_ok X G (c.fact 32 (f := .glo "_law_all_trees") rfl), f_l_net := He.ga K "_law_net", d_l_net := d33, F_l_net := F33, g_l_net := He.glo_ok X G (c.fact 33 (f := .glo "_law_net") rfl), f_l_all_tied := He.ga K "_law_all_tied", d_l_all_tied := d34, F_l_all_tied := F34, g_l_all_tied := He.glo_ok X G (c.fact 34 (f := .glo "_law_all_tied") rfl), f_l_ring := He.ga K "_law_ring", d_l_ring := d35, F_l_ring := F35, g_l_ring := He.glo_ok X G (c.fact 35 (f := .glo "_law_ring") rfl), f_l_house := He.ga K "_law_house", d_l_house := d36, F_l_house := F36, g_l_house := He.glo_ok X G (c.fact 36 (f := .glo "_law_house") rfl), f_l_house_tree := He.ga K "_law_house_tree", d_l_house_tree := d37, F_l_house_tree := F37, g_l_house_tree := He.glo_ok X G (c.fact 37 (f := .glo "_law_house_tree") rfl), f_l_any_tree := He.ga K "_law_any_tree", d_l_any_tree := d38, F_l_any_tree := F38, g_l_any_tree := He.glo_ok X G (c.fact 38 (f := .glo "_law_any_tree") rfl), f_l_heard := He.ga K "_law_heard", d_l_heard := d39, F_l_heard := F39, g_l_heard := He.glo_ok X G (c.fact 39 (f := .glo "_law_heard") rfl), f_l_is_bush := He.ga K "_law_is_bush", d_l_is_bush := d40, F_l_is_bush := F40, g_l_is_bush := He.glo_ok X G (c.fact 40 (f := .glo "_law_is_bush") rfl), f_l_hand_right := He.ga K "_law_hand_right", d_l_hand_right := d41, F_l_hand_right := F41, g_l_hand_right := He.glo_ok X G (c.fact 41 (f := .glo "_law_hand_right") rfl), f_l_right := He.ga K "_law_right", d_l_right := d42, F_l_right := F42, g_l_right := He.glo_ok X G (c.fact 42 (f := .glo "_law_right") rfl), f_law_ := He.ga K "law", d_law_ := d43, F_law_ := F43, g_law_ := He.glo_ok X G (c.fact 43 (f := .glo "law") rfl), n_ValueError := He.free_ok X G (c.fact 44 (f := .free "ValueError") rfl), n_abs := He.free_ok X G (c.fact 45 (f := .free "abs") rfl), n_all := He.free_ok X G (c.fact 46 (f := .free "all") rfl), n_bool := He.free_ok X G (c.fact 47 (f := .free "bool") rfl), n_enumerate := He.free_ok X G (c.fact 48 (f := .free "enumerate") rfl), n_int := He.free_ok X G (c.fact 49 (f := .free "int") rfl), n_isinstance := He.free_ok X G (c.fact 50 (f := .free "isinstance") rfl), n_len := He.free_ok X G (c.fact 51 (f := .free "len") rfl), n_list := He.free_ok X G (c.fact 52 (f := .free "list") rfl), n_max := He.free_ok X G (c.fact 53 (f := .free "max") rfl), n_min := He.free_ok X G (c.fact 54 (f := .free "min") rfl), n_range := He.free_ok X G (c.fact 55 (f := .free "range") rfl), n_set := He.free_ok X G (c.fact 56 (f := .free "set") rfl), n_sorted := He.free_ok X G (c.fact 57 (f := .free "sorted") rfl), n_str := He.free_ok X G (c.fact 58 (f := .free "str") rfl), n_tuple := He.free_ok X G (c.fact 59 (f := .free "tuple") rfl), n_zip := He.free_ok X G (c.fact 60 (f := .free "zip") rfl), t_MOST := tM, g_MOST := gM, c_TooMany := (He.ga K "TooMany"), g_TooMany := He.glo_ok X G (c.fact 62 (f := .glo "TooMany") rfl), xP := x0, kP := x1, bP := of_decide_eq_true x2, tP := of_decide_eq_true x3, iP := x4, sP := of_decide_eq_true x5, eC := ⟨of_decide_eq_true x6, of_decide_eq_true x7, of_decide_eq_true x2, x8, of_decide_eq_true x9, of_decide_eq_true x10, of_decide_eq_true x11, of_decide_eq_true x12⟩, kE := of_decide_eq_true x13 }⟩
/-! ### the run of the top -/
abbrev R0 : PySem.W.OpenRow := PySem.W.OpenLaw.row PySem.Challenge.rw_eachhandtied_k04_whole_all_trees_and_how
abbrev hk : PySem.W.Hook := hookM 4 fa fn exB
def ob (s : PySem.W.SharedT) : AlM := obsMG 4 fa fn exB (HandSHeadRun.getT s)
theorem ob_eq (s : PySem.W.SharedT) : ob s = hk.obs s.abs := obsMG_eq (HandSHeadRun.getT_eq s)
theorem run (w : World) : HandSHeadRun.RunEq R0 (PySem.W.view R0.prog [51]) hk ob 4000 loose w := by
  intro os
  kernel_rfl
end K4P
end

section
set_option Elab.async false
set_option linter.all false
set_option maxRecDepth 100000
set_option maxHeartbeats 4000000
namespace K4P
open PySem PySem.Spec L2
theorem all_ok {P : Program} {w : World} {K : PySem.W.Frag} {mg : Str → Option Value} {base : Heap} (T : Tx K mg) : FnOk P w K mg base CX0 10 T.f_law_ T.d_law_ ["_law_script"] (sp_law K) := by
  have G_tupled := ok_tupled (P := P) (w := w) (base := base) T 4
  have G_l_lists := ok_lists (P := P) (w := w) (base := base) T 4
  have G_l_same := ok_same (P := P) (w := w) (base := base) T 7
  have G_is_number := ok_is_number (P := P) (w := w) (base := base) T
  have G_is_from := ok_is_from (P := P) (w := w) (base := base) T G_is_number
  have G_is_long := ok_is_long (P := P) (w := w) (base := base) T
  have G_are_numbers := ok_are_numbers (P := P) (w := w) (base := base) T G_is_number
  have G_is_pair := ok_is_pair (P := P) (w := w) (base := base) T G_is_long G_are_numbers
  have G_is_tie_of := ok_is_tie_of (P := P) (w := w) (base := base) T G_is_pair
  have G_marked := ok_marked (P := P) (w := w) (base := base) T
  have G_grown_from := ok_grown_from (P := P) (w := w) (base := base) T G_marked
  have G_hangs_in := ok_hangs_in (P := P) (w := w) (base := base) T G_grown_from
  have G_l_take := ok_take (P := P) (w := w) (base := base) T
  have G_l_of := ok_of (P := P) (w := w) (base := base) T G_l_take
  have G_l_pick := ok_pick (P := P) (w := w) (base := base) T G_l_take
  have G_l_any_tree := ok_any_tree (P := P) (w := w) (base := base) T G_l_pick
  have G_l_net := ok_net (P := P) (w := w) (base := base) T G_l_take G_l_of G_l_pick
  have G_l_box := ok_box (P := P) (w := w) (base := base) T
  have G_l_cells := ok_cellsS (P := P) (w := w) (base := base) T
  have G_ascends := ok_ascends (P := P) (w := w) (base := base) T
  have G_is_web := ok_is_web (P := P) (w := w) (base := base) T G_is_long G_is_from G_is_tie_of G_ascends G_hangs_in
  have G_sure_web := ok_sure_web (P := P) (w := w) (base := base) T G_is_web G_tupled
  have G_is_tree_in := ok_is_tree_in (P := P) (w := w) (base := base) T G_is_pair G_ascends G_hangs_in
  have G_some_in := ok_some_in (P := P) (w := w) (base := base) T G_marked
  have G_is_tree := ok_is_tree (P := P) (w := w) (base := base) T G_sure_web G_is_tree_in
  have G_some_tree := ok_some_tree (P := P) (w := w) (base := base) T G_sure_web G_some_in
  have G_table_in := ok_table_in (P := P) (w := w) (base := base) T
  have G_many_in := ok_many_in (P := P) (w := w) (base := base) T G_table_in
  have G_all_in := ok_all_in (P := P) (w := w) (base := base) T G_many_in G_marked G_grown_from
  have G_many_trees := ok_many_trees (P := P) (w := w) (base := base) T G_sure_web G_many_in
  have G_all_trees := ok_all_trees (P := P) (w := w) (base := base) T G_sure_web G_all_in
  have G_l_heard := ok_heard (P := P) (w := w) (base := base) T G_all_trees
  have G_l_spoil := ok_spoil (P := P) (w := w) (base := base) T
  have G_l_marks := ok_l_marks (P := P) (w := w) (base := base) T
  have G_l_hangs := ok_l_hangs (P := P) (w := w) (base := base) T G_l_marks
  have G_l_all_trees := ok_treesL (P := P) (w := w) (base := base) T
  have G_l_is_bush := ok_is_bush (P := P) (w := w) (base := base) T G_l_hangs
  have G_l_all_tied := ok_l_all_tied (P := P) (w := w) (base := base) T
  have G_l_right := ok_right (P := P) (w := w) (base := base) T G_l_net G_l_take G_l_any_tree G_l_lists G_l_all_trees G_l_heard G_l_same G_many_trees G_l_spoil G_l_is_bush G_some_tree G_l_all_tied
  have G_l_ring := ok_l_ring (P := P) (w := w) (base := base) T
  have G_l_house := ok_l_house (P := P) (w := w) (base := base) T
  have G_l_house_tree := ok_l_house_tree (P := P) (w := w) (base := base) T
  have G_l_hand_right := ok_hand_right (P := P) (w := w) (base := base) T G_l_house G_l_house_tree G_many_trees G_l_heard G_is_tree G_some_tree G_l_ring G_l_all_tied G_l_is_bush G_l_same
  exact ok_law (P := P) (w := w) (base := base) T G_l_cells G_l_box G_l_hand_right G_l_take G_l_right
theorem facts {P : Program} {w : World} {K : PySem.W.Frag} {h : Heap} {mg : Str → Option Value} {f : Addr} (X : K.In h) (G : h.Ns mainGlobals mg) (hfa : mg ("law" : Str) = some (.ref f)) (c : He.SaysD fa fn K) (e : exB K = true) :
    ∃ fd : FuncData, (∀ (s : Shared) (v : Value), BindsTo s fd ⟨[v], []⟩ [("_law_script", v)]) ∧ ∀ base : Heap, FnOk P w K mg base CX0 10 f fd ["_law_script"] (sp_law K) := by
  obtain ⟨T⟩ := tx_of X G c e
  have e := hfa.symm.trans T.g_law_
  have e2 : f = T.f_law_ := Value.ref.inj (Option.some.inj e)
  subst e2
  have b := FunD.bindsA (ps := ["_law_script"]) T.F_law_ fun _ _ _ _ _ _ us hl => match us, hl with | [_], _ => rfl
  exact ⟨T.d_law_, fun s v => b s [v] rfl, fun base => all_ok T⟩
end K4P
open PySem PySem.W PySem.Calls PyProof.Rows
theorem PySem.Challenge.cw_eachhandtied_k04_whole_all_trees_and_how_holds : PySem.Challenge.rw_eachhandtied_k04_whole_all_trees_and_how.Holds := by
  w_on; o_law
  refine HandSHeadRun.head_any (r := OpenLaw.row PySem.Challenge.rw_eachhandtied_k04_whole_all_trees_and_how) (q := view (OpenLaw.row PySem.Challenge.rw_eachhandtied_k04_whole_all_trees_and_how).prog [51]) (H := K4P.hk) (ob := K4P.ob) (M := 4000) (loose := K4P.loose) (d := HandSHeadRun.topDef (OpenLaw.row PySem.Challenge.rw_eachhandtied_k04_whole_all_trees_and_how).prog 51) (kwd := []) K4P.ob_eq
    (by kernel_rfl) (fun s => by kernel_rfl) K4P.run (by kernel_rfl) (by kernel_rfl) (by kernel_rfl) (by rfl) (by first | assumption | decide +kernel) (by decide +kernel) ⟨rfl, rfl, rfl, rfl, rfl, by decide +kernel⟩ ?hw ?hc
  case hw => w_witness2
  case hc =>
    refine L2.walk_ofE (l := PySem.Challenge.rw_eachhandtied_k04_whole_all_trees_and_how) (n := 63) (k := 10) (x := "_law_script") (CX := L2.CX0) rfl (by decide) (by kernel_rfl) ⟨rfl, by decide, by decide⟩ ?F (fun _ _ _ _ z => z)
    intro w mg fa h Y G hmg0
    obtain ⟨K, KX, c, e⟩ := Y
    have hmg : mg ("law" : PySem.Str) = some (.ref fa) := by
      have e : (HandSHeadRun.topDef (OpenLaw.row PySem.Challenge.rw_eachhandtied_k04_whole_all_trees_and_how).prog 51).name = ("law" : PySem.Str) := by kernel_rfl
      rw [← e]
      exact hmg0
    obtain ⟨fd, hb, hF⟩ := K4P.facts (P := (PySem.Challenge.rw_eachhandtied_k04_whole_all_trees_and_how).prog) (w := w) KX G hmg c e
    exact ⟨K, fd, K4P.sp_law K, KX, hb, fun H a ns hl _ hS => ⟨a, ns, rfl, hS, fun _ => rfl⟩, fun base _ _ => hF base⟩
end
