import PyProof.Rows.All
import Wide.All
import OpenK.AllK
import Wide.FinOn
import HandS.ForMost
import HandS.Walk
import HandS.Gcd
import HandS.Wide
import HandS.Deep
import HandS.IsInst
import HandS.TupAny
import HandS.Star
import HandS.Style
import HandS.Steps
import HandS.Conv
import HandS.Zip
import HandS.Defaults
import HandS.HeadEnd
import HandS.HeadHook2
import HandS.Head3
import KE.GoesEnum
import KE.DataFind
import KE.KDictZip
import PySem.Challenge.RW_ledlevels_k19_whole_sums_and_prices
set_option Elab.async false
set_option linter.all false
set_option maxRecDepth 100000
set_option maxHeartbeats 0
namespace Mx
/-! ### finite sums -/
section
variable {α : Type} [Lean.Grind.CommRing α]
def sm (n : Nat) (f : Nat → α) : α := match n with
  | 0 => 0
  | n + 1 => sm n f + f n
theorem sm_zero' {f : Nat → α} : sm 0 f = 0 := rfl
theorem sm_succ {n : Nat} {f : Nat → α} : sm (n + 1) f = sm n f + f n := rfl
theorem sm_congr {f g : Nat → α} : ∀ {n : Nat}, (∀ i, i < n → f i = g i) → sm n f = sm n g
  | 0, _ => rfl
  | n + 1, h => by rw [sm_succ, sm_succ, sm_congr fun i hi => h i (Nat.lt_succ_of_lt hi), h n (Nat.lt_succ_self n)]
theorem sm_add {f g : Nat → α} : ∀ {n : Nat}, sm n (fun i => f i + g i) = sm n f + sm n g
  | 0 => by simp only [sm]; grind
  | n + 1 => by rw [sm_succ, sm_succ, sm_succ, sm_add]; grind
theorem sm_mul {c : α} {f : Nat → α} : ∀ {n : Nat}, sm n (fun i => c * f i) = c * sm n f
  | 0 => by simp only [sm]; grind
  | n + 1 => by rw [sm_succ, sm_succ, sm_mul]; grind
theorem sm_mulR {c : α} {f : Nat → α} : ∀ {n : Nat}, sm n (fun i => f i * c) = sm n f * c
  | 0 => by simp only [sm]; grind
  | n + 1 => by rw [sm_succ, sm_succ, sm_mulR]; grind
theorem sm_neg {f : Nat → α} : ∀ {n : Nat}, sm n (fun i => - f i) = - sm n f
  | 0 => by simp only [sm]; grind
  | n + 1 => by rw [sm_succ, sm_succ, sm_neg]; grind
theorem sm_sub {f g : Nat → α} : ∀ {n : Nat}, sm n (fun i => f i - g i) = sm n f - sm n g
  | 0 => by simp only [sm]; grind
  | n + 1 => by rw [sm_succ, sm_succ, sm_succ, sm_sub]; grind
theorem sm_zero {f : Nat → α} : ∀ {n : Nat}, (∀ i, i < n → f i = 0) → sm n f = 0
  | 0, _ => rfl
  | n + 1, h => by rw [sm_succ, sm_zero fun i hi => h i (Nat.lt_succ_of_lt hi), h n (Nat.lt_succ_self n)]; grind
theorem sm_one {f : Nat → α} {k : Nat} : ∀ {n : Nat}, k < n → (∀ i, i < n → i ≠ k → f i = 0) → sm n f = f k
  | 0, h, _ => absurd h (Nat.not_lt_zero _)
  | n + 1, h, z => by
    rw [sm_succ]
    by_cases e : k = n
    · subst e
      rw [sm_zero fun i hi => z i (Nat.lt_succ_of_lt hi) (Nat.ne_of_lt hi)]; grind
    · rw [sm_one (by omega) fun i hi => z i (Nat.lt_succ_of_lt hi), z n (Nat.lt_succ_self n) (fun q => e q.symm)]; grind
theorem sm_two {f : Nat → α} {k l : Nat} : ∀ {n : Nat}, k < n → l < n → k ≠ l → (∀ i, i < n → i ≠ k → i ≠ l → f i = 0) → sm n f = f k + f l
  | 0, h, _, _, _ => absurd h (Nat.not_lt_zero _)
  | n + 1, h, h', hkl, z => by
    rw [sm_succ]
    by_cases e : k = n
    · subst e
      rw [sm_one (k := l) (by omega) fun i hi hl => z i (Nat.lt_succ_of_lt hi) (Nat.ne_of_lt hi) hl]; grind
    · by_cases e' : l = n
      · subst e'
        rw [sm_one (k := k) (by omega) fun i hi hl => z i (Nat.lt_succ_of_lt hi) hl (Nat.ne_of_lt hi)]
      · rw [sm_two (by omega) (by omega) hkl fun i hi => z i (Nat.lt_succ_of_lt hi), z n (Nat.lt_succ_self n) (fun q => e q.symm) (fun q => e' q.symm)]; grind
theorem sm_comm {f : Nat → Nat → α} {m : Nat} : ∀ {n : Nat}, sm n (fun i => sm m (fun j => f i j)) = sm m (fun j => sm n (fun i => f i j))
  | 0 => by
    show (0 : α) = sm m fun j => (0 : α)
    rw [sm_zero fun _ _ => rfl]
  | n + 1 => by
    rw [sm_succ, sm_comm, ← sm_add]
    rfl
theorem sm_split {f : Nat → α} {n : Nat} : ∀ {m : Nat}, sm (n + m) f = sm n f + sm m (fun i => f (n + i))
  | 0 => by simp only [Nat.add_zero, sm]; grind
  | m + 1 => by rw [← Nat.add_assoc, sm_succ, sm_split, sm_succ]; grind
end
/-! ### the determinant: Laplace by the last coordinate -/
def skip {α : Type} (k : Nat) (v : Nat → α) : Nat → α := fun j => if j < k then v j else v (j + 1)
def up {α : Type} (v : Nat → α) (p : Nat) (x : α) : Nat → α := fun j => if j = p then x else v j
def sg (k : Nat) : Int := if k % 2 = 0 then 1 else -1
theorem sg_succ (k : Nat) : sg (k + 1) = - sg k := by unfold sg; split <;> split <;> omega
def D : (n : Nat) → (Nat → Nat → Int) → Int
  | 0, _ => 1
  | n + 1, v => sm (n + 1) fun k => sg (k + n) * v k n * D n (skip k v)
theorem D_congr : ∀ {n : Nat} {v w : Nat → Nat → Int}, (∀ k, k < n → ∀ i, i < n → v k i = w k i) → D n v = D n w
  | 0, _, _, _ => rfl
  | n + 1, v, w, h => by
    unfold D
    refine sm_congr fun k hk => ?_
    rw [h k hk n (Nat.lt_succ_self n), D_congr (v := skip k v) (w := skip k w) fun j hj i hi => ?_]
    unfold skip
    split
    · exact h j (by omega) i (by omega)
    · exact h (j + 1) (by omega) i (by omega)
theorem up_same {α : Type} {v : Nat → α} {p : Nat} {x : α} : up v p x p = x := if_pos rfl
theorem up_ne {α : Type} {v : Nat → α} {p j : Nat} {x : α} (h : j ≠ p) : up v p x j = v j := if_neg h
theorem up_up {α : Type} {v : Nat → α} {p : Nat} {x y : α} : up (up v p x) p y = up v p y := by
  funext j; unfold up; split <;> rfl
theorem up_self {α : Type} {v : Nat → α} {p : Nat} : up v p (v p) = v := by
  funext j; unfold up; split
  · rename_i h; rw [h]
  · rfl
theorem up_comm {α : Type} {v : Nat → α} {p q : Nat} {x y : α} (h : p ≠ q) : up (up v p x) q y = up (up v q y) p x := by
  funext j; unfold up
  by_cases h1 : j = q
  · by_cases h2 : j = p
    · omega
    · simp [h1, h2]; omega
  · simp [h1]
theorem skip_up_same {α : Type} {v : Nat → α} {p : Nat} {x : α} : skip p (up v p x) = skip p v := by
  funext j; unfold skip up
  split
  · rw [if_neg (by omega)]
  · rw [if_neg (by omega)]
theorem skip_up_lt {α : Type} {v : Nat → α} {k p : Nat} {x : α} (h : p < k) : skip k (up v p x) = up (skip k v) p x := by
  funext j; unfold skip up
  by_cases h1 : j = p
  · subst h1; simp [h]
  · by_cases h2 : j < k
    · simp [h1, h2]
    · simp [h1, h2]; omega
theorem skip_up_gt {α : Type} {v : Nat → α} {k p : Nat} {x : α} (h : k < p) : skip k (up v p x) = up (skip k v) (p - 1) x := by
  funext j; unfold skip up
  by_cases h1 : j = p - 1
  · subst h1
    rw [if_neg (by omega), if_pos (by omega), if_pos rfl]
  · by_cases h2 : j < k
    · simp [h1, h2]; omega
    · simp [h1, h2]; omega
/-- linear in each place -/
theorem D_lin : ∀ {n : Nat} {v : Nat → Nat → Int} {p : Nat} {x y : Nat → Int} {a b : Int}, p < n → D n (up v p fun i => a * x i + b * y i) = a * D n (up v p x) + b * D n (up v p y)
  | 0, _, _, _, _, _, _, h => absurd h (Nat.not_lt_zero _)
  | n + 1, v, p, x, y, a, b, h => by
    unfold D
    rw [← sm_mul, ← sm_mul, ← sm_add]
    refine sm_congr fun k hk => ?_
    by_cases e : k = p
    · subst e
      rw [up_same, up_same, up_same, skip_up_same, skip_up_same, skip_up_same]
      grind
    · rw [up_ne e, up_ne e, up_ne e]
      by_cases e2 : p < k
      · rw [skip_up_lt e2, skip_up_lt e2, skip_up_lt e2, D_lin (by omega)]
        grind
      · have e3 : k < p := by omega
        rw [skip_up_gt e3, skip_up_gt e3, skip_up_gt e3, D_lin (by omega)]
        grind
/-- two neighbours alike: 0 -/
theorem D_adj : ∀ {n : Nat} {v : Nat → Nat → Int} {p : Nat}, p + 1 < n → v p = v (p + 1) → D n v = 0
  | 0, _, _, h, _ => absurd h (Nat.not_lt_zero _)
  | n + 1, v, p, h, e => by
    unfold D
    rw [sm_two (k := p) (l := p + 1) (by omega) (by omega) (by omega) fun k hk h1 h2 => ?_]
    · have es : skip p v = skip (p + 1) v := by
        funext j; unfold skip
        by_cases a : j < p
        · rw [if_pos a, if_pos (by omega)]
        · by_cases b : j = p
          · subst b; rw [if_neg a, if_pos (by omega), e]
          · rw [if_neg a, if_neg (by omega)]
      rw [es, e, show p + 1 + n = (p + n) + 1 by omega, sg_succ]
      grind
    · have z : D n (skip k v) = 0 := by
        by_cases a : p + 1 < k
        · refine D_adj (p := p) (by omega) ?_
          unfold skip
          rw [if_pos (by omega), if_pos (by omega), e]
        · refine D_adj (p := p - 1) (by omega) ?_
          unfold skip
          rw [if_neg (by omega), if_neg (by omega), show p - 1 + 1 = p by omega, e]
      rw [z]
      grind
/-- neighbours exchanged -/
theorem D_swap {n : Nat} {v : Nat → Nat → Int} {p : Nat} (h : p + 1 < n) {x y : Nat → Int} : D n (up (up v p x) (p + 1) y) = - D n (up (up v p y) (p + 1) x) := by
  have hne : p ≠ p + 1 := by omega
  have z : D n (up (up v p fun i => 1 * x i + 1 * y i) (p + 1) fun i => 1 * x i + 1 * y i) = 0 := by
    refine D_adj h ?_
    rw [up_same, up_ne hne, up_same]
  rw [D_lin (by omega), up_comm hne, up_comm hne, D_lin (by omega), D_lin (by omega), up_comm hne.symm, up_comm hne.symm, up_comm hne.symm, up_comm hne.symm] at z
  have z1 : D n (up (up v p x) (p + 1) x) = 0 := D_adj h (by rw [up_same, up_ne hne, up_same])
  have z2 : D n (up (up v p y) (p + 1) y) = 0 := D_adj h (by rw [up_same, up_ne hne, up_same])
  grind
/-- any two alike: 0 -/
theorem D_alt {n : Nat} : ∀ {g : Nat} {v : Nat → Nat → Int} {p q : Nat}, q = p + 1 + g → q < n → v p = v q → D n v = 0
  | 0, v, p, q, h, hq, e => D_adj (p := p) (by omega) (by rw [e, h])
  | g + 1, v, p, q, h, hq, e => by
    have e1 : v = up (up v (q - 1) (v (q - 1))) (q - 1 + 1) (v q) := by
      rw [up_self, show q - 1 + 1 = q by omega, up_self]
    rw [e1, D_swap (by omega)]
    have z : D n (up (up v (q - 1) (v q)) (q - 1 + 1) (v (q - 1))) = 0 := by
      refine D_alt (g := g) (p := p) (q := q - 1) (by omega) (by omega) ?_
      rw [up_ne (by omega), up_ne (by omega), up_ne (by omega), up_same, e]
    rw [z]; grind
theorem D_same {n : Nat} {v : Nat → Nat → Int} {p q : Nat} (hp : p < n) (hq : q < n) (h : p ≠ q) (e : v p = v q) : D n v = 0 := by
  by_cases a : p < q
  · exact D_alt (g := q - p - 1) (by omega) hq e
  · exact D_alt (g := p - q - 1) (p := q) (q := p) (by omega) hp e.symm
theorem D_one : ∀ {n : Nat}, D n (fun k i => if k = i then 1 else 0) = 1
  | 0 => rfl
  | n + 1 => by
    unfold D
    rw [sm_one (k := n) (Nat.lt_succ_self n) fun k hk hne => ?_]
    · have e : sg (n + n) = 1 := by unfold sg; rw [if_pos (by omega)]
      have e2 : D n (skip n fun k i => if k = i then (1 : Int) else 0) = 1 := by
        rw [D_congr (w := fun k i => if k = i then 1 else 0) fun k hk i hi => ?_, D_one]
        unfold skip
        rw [if_pos hk]
      rw [e, e2]
      simp
    · simp [hne]
theorem D_sum {n : Nat} {v : Nat → Nat → Int} {p : Nat} (hp : p < n) {c : Nat → Int} {u : Nat → Nat → Int} : ∀ {l : Nat}, D n (up v p fun i => sm l fun k => c k * u k i) = sm l fun k => c k * D n (up v p (u k))
  | 0 => by
    have := D_lin (n := n) (v := v) (p := p) (x := fun _ => 0) (y := fun _ => 0) (a := 0) (b := 0) hp
    have e : (fun i : Nat => (0 : Int) * 0 + 0 * 0) = fun _ => 0 := by funext i; rfl
    rw [e] at this
    show D n (up v p fun _ => 0) = 0
    rw [this]; grind
  | l + 1 => by
    have := D_lin (n := n) (v := v) (p := p) (x := fun i => sm l fun k => c k * u k i) (y := u l) (a := 1) (b := c l) hp
    have e : (fun i : Nat => 1 * (sm l fun k => c k * u k i) + c l * u l i) = fun i => sm (l + 1) fun k => c k * u k i := by
      funext i; rw [sm_succ]; grind
    rw [e] at this
    rw [this, D_sum hp, sm_succ]; grind
theorem D_mul {n : Nat} {v : Nat → Nat → Int} {p : Nat} (hp : p < n) {c : Int} {x : Nat → Int} : D n (up v p fun i => c * x i) = c * D n (up v p x) := by
  have := D_lin (n := n) (v := v) (p := p) (x := x) (y := x) (a := c) (b := 0) hp
  have e : (fun i : Nat => c * x i + 0 * x i) = fun i => c * x i := by funext i; grind
  rw [e] at this
  rw [this]; grind
/-- Cramer: what a vector's coefficients are -/
theorem D_slot {n : Nat} {b : Nat → Nat → Int} {k : Nat} (hk : k < n) {β : Int} {a : Nat → Int} {N : Nat → Int} (h : ∀ i, i < n → β * a i = sm n fun l => N l * b l i) : β * D n (up b k a) = N k * D n b := by
  rw [← D_mul hk]
  have e : D n (up b k fun i => β * a i) = D n (up b k fun i => sm n fun l => N l * b l i) := by
    refine D_congr fun j hj i hi => ?_
    by_cases q : j = k
    · subst q; rw [up_same, up_same]; exact h i hi
    · rw [up_ne q, up_ne q]
  rw [e, D_sum hk, sm_one (k := k) hk fun l hl hne => ?_, up_self]
  have z : D n (up b k (b l)) = 0 := D_same (p := l) (q := k) hl hk hne (by rw [up_same, up_ne hne])
  rw [z]; grind
def fac : Nat → Nat
  | 0 => 1
  | n + 1 => (n + 1) * fac n
theorem sm_abs {f : Nat → Int} {X : Nat} : ∀ {n : Nat}, (∀ i, i < n → (f i).natAbs ≤ X) → (sm n f).natAbs ≤ n * X
  | 0, _ => by simp [sm]
  | n + 1, h => by
    have h1 := sm_abs (f := f) fun i hi => h i (Nat.lt_succ_of_lt hi)
    have h2 := h n (Nat.lt_succ_self n)
    rw [sm_succ, Nat.succ_mul]
    omega
theorem D_abs {X : Nat} : ∀ {n : Nat} {v : Nat → Nat → Int}, (∀ k, k < n → ∀ i, i < n → (v k i).natAbs ≤ X) → (D n v).natAbs ≤ fac n * X ^ n
  | 0, _, _ => by simp [D, fac]
  | n + 1, v, h => by
    unfold D
    have e : fac (n + 1) * X ^ (n + 1) = (n + 1) * (X * (fac n * X ^ n)) := by
      show (n + 1) * fac n * X ^ (n + 1) = _
      rw [Nat.pow_succ]; grind
    rw [e]
    refine sm_abs fun k hk => ?_
    have h1 : (sg (k + n)).natAbs = 1 := by unfold sg; split <;> rfl
    rw [Int.natAbs_mul, Int.natAbs_mul, h1, Nat.one_mul]
    refine Nat.mul_le_mul (h k hk n (Nat.lt_succ_self n)) (D_abs fun j hj i hi => ?_)
    unfold skip
    split
    · exact h j (by omega) i (by omega)
    · exact h (j + 1) (by omega) i (by omega)
end Mx
namespace Mx
/-! ### the sum as integer columns: j < n the columns, n + i the units, n + m the target; coordinates i < m the levels, m the costs, m + 1 the gaps -/
structure Lp (n m : Nat) (A : Nat → Nat → Int) : Prop where
  hu : ∀ i, i < m → ∀ l, l < m + 2 → A (n + i) l = if l = i then 1 else 0
  hg : ∀ j, j < n ∨ j = n + m → A j (m + 1) = - sm m (fun i => A j i)
  hl : A (n + m) m = 0
  hb : ∀ i, i < m → 0 ≤ A (n + m) i
structure St where
  B : Nat → Nat
  d : Int
  R : Nat → Nat → Int
def bv (A : Nat → Nat → Int) (m : Nat) (B : Nat → Nat) (k : Nat) : Nat → Int := if k < m then A (B k) else fun i => if k = i then 1 else 0
structure Gd (n m : Nat) (A : Nat → Nat → Int) (S : St) : Prop where
  dpos : 0 < S.d
  det : D (m + 2) (bv A m S.B) = S.d ∨ D (m + 2) (bv A m S.B) = - S.d
  span : ∀ j, j ≤ n + m → ∀ i, i < m + 2 → sm (m + 2) (fun k => S.R k j * bv A m S.B k i) = S.d * A j i
  bB : ∀ k, k < m → S.B k < n + m
section
variable {n m : Nat} {A : Nat → Nat → Int} {S : St}
theorem Gd.eps (g : Gd n m A S) : ∃ e : Int, e * e = 1 ∧ D (m + 2) (bv A m S.B) = e * S.d := by
  rcases g.det with h | h
  · exact ⟨1, by decide, by rw [h]; grind⟩
  · exact ⟨-1, by decide, by rw [h]; grind⟩
/-- an entry is a determinant -/
theorem Gd.ent (g : Gd n m A S) {e : Int} (he : e * e = 1) (hd : D (m + 2) (bv A m S.B) = e * S.d) {k j : Nat} (hk : k < m + 2) (hj : j ≤ n + m) : S.R k j = e * D (m + 2) (up (bv A m S.B) k (A j)) := by
  have h := D_slot (n := m + 2) (b := bv A m S.B) (k := k) hk (β := S.d) (a := A j) (N := fun l => S.R l j) fun i hi => (g.span j hj i hi).symm
  rw [hd] at h
  have dp := g.dpos
  have h2 : S.d * (S.R k j - e * D (m + 2) (up (bv A m S.B) k (A j))) = 0 := by grind
  rcases Int.mul_eq_zero.mp h2 with h3 | h3
  · omega
  · omega
theorem Gd.basic (g : Gd n m A S) {k l : Nat} (hk : k < m + 2) (hl : l < m) : S.R k (S.B l) = if k = l then S.d else 0 := by
  obtain ⟨e, he, hd⟩ := g.eps
  have hB := g.bB l hl
  rw [g.ent he hd hk (Nat.le_of_lt hB)]
  have eb : A (S.B l) = bv A m S.B l := by unfold bv; rw [if_pos hl]
  rw [eb]
  by_cases q : k = l
  · subst q
    rw [up_self, hd, if_pos rfl]; grind
  · rw [if_neg q, D_same (p := k) (q := l) hk (by omega) q (by rw [up_same, up_ne (fun z => q z.symm)])]
    grind
theorem Gd.inj (g : Gd n m A S) {k l : Nat} (hk : k < m) (hl : l < m) (h : S.B k = S.B l) : k = l := by
  have h1 := g.basic (k := k) (l := k) (by omega) hk
  have h2 := g.basic (k := k) (l := l) (by omega) hl
  rw [if_pos rfl] at h1
  rw [← h, h1] at h2
  have dp := g.dpos
  by_cases q : k = l
  · exact q
  · rw [if_neg q] at h2; omega
/-- an entry by those of the units -/
theorem Gd.units (g : Gd n m A S) (L : Lp n m A) {k j : Nat} (hk : k < m + 2) (hj : j ≤ n + m) :
    S.R k j = sm m (fun i => A j i * S.R k (n + i)) + (if k = m then S.d * A j m else 0) + (if k = m + 1 then S.d * A j (m + 1) else 0) := by
  obtain ⟨e, he, hd⟩ := g.eps
  have key : ∀ l, l < m + 2 → (fun x : Nat => if l = x then (1 : Int) else 0) = (fun x => if l = x then (1 : Int) else 0) := fun _ _ => rfl
  have h0 : D (m + 2) (up (bv A m S.B) k (A j)) = sm (m + 2) fun l => A j l * D (m + 2) (up (bv A m S.B) k fun x => if l = x then 1 else 0) := by
    rw [← D_sum hk]
    refine D_congr fun p hp i hi => ?_
    by_cases q : p = k
    · subst q
      rw [up_same, up_same, sm_one (k := i) hi fun l hl hne => by rw [if_neg hne]; grind]
      simp
    · rw [up_ne q, up_ne q]
  have hi : ∀ i, i < m → e * D (m + 2) (up (bv A m S.B) k fun x => if i = x then 1 else 0) = S.R k (n + i) := fun i hi => by
    rw [g.ent he hd hk (show n + i ≤ n + m by omega)]
    congr 1
    refine D_congr fun p hp x hx => ?_
    by_cases q : p = k
    · subst q
      rw [up_same, up_same, L.hu i hi x hx]
      by_cases z : i = x
      · simp [z]
      · rw [if_neg z, if_neg (fun q => z q.symm)]
    · rw [up_ne q, up_ne q]
  have hx : ∀ l, m ≤ l → l < m + 2 → D (m + 2) (up (bv A m S.B) k fun x => if l = x then 1 else 0) = if k = l then e * S.d else 0 := fun l h1 h2 => by
    have eb : (fun x => if l = x then (1 : Int) else 0) = bv A m S.B l := by unfold bv; rw [if_neg (by omega)]
    rw [eb]
    by_cases q : k = l
    · subst q; rw [up_self, if_pos rfl, hd]
    · rw [if_neg q, D_same (p := k) (q := l) hk h2 q (by rw [up_same, up_ne (fun z => q z.symm)])]
  rw [g.ent he hd hk hj, h0, sm_succ, sm_succ, hx m (Nat.le_refl _) (by omega), hx (m + 1) (by omega) (by omega)]
  have h1 : sm m (fun i => A j i * S.R k (n + i)) = e * sm m (fun l => A j l * D (m + 2) (up (bv A m S.B) k fun x => if l = x then 1 else 0)) := by
    rw [← sm_mul]
    refine sm_congr fun i hi' => ?_
    rw [← hi i hi']; grind
  rw [h1]
  by_cases a : k = m
  · subst a
    rw [if_pos rfl, if_neg (by omega), if_pos rfl, if_neg (by omega)]; grind
  · by_cases b : k = m + 1
    · subst b
      rw [if_neg (by omega), if_pos rfl, if_neg (by omega), if_pos rfl]; grind
    · rw [if_neg a, if_neg b, if_neg a, if_neg b]; grind
/-! ### an exchange -/
def sn (x : Int) : Int := if x < 0 then -1 else 1
theorem sn_sq (x : Int) : sn x * sn x = 1 := by unfold sn; split <;> rfl
theorem sn_pos {x : Int} (h : x ≠ 0) : 0 < sn x * x := by unfold sn; split <;> omega
def exR (S : St) (r c : Nat) : Nat → Nat → Int := fun k j => if k = r then sn (S.R r c) * S.R r j else (S.R k j * (sn (S.R r c) * S.R r c) - S.R k c * (sn (S.R r c) * S.R r j)) / S.d
def exch (S : St) (r c : Nat) : St := ⟨up S.B r c, sn (S.R r c) * S.R r c, exR S r c⟩
theorem bv_up {B : Nat → Nat} {r c : Nat} (hr : r < m) : bv A m (up B r c) = up (bv A m B) r (A c) := by
  funext k
  by_cases q : k = r
  · subst q
    rw [up_same]; unfold bv; rw [if_pos hr, up_same]
  · rw [up_ne q]; unfold bv; rw [up_ne q]
theorem Gd.exact_ (g : Gd n m A S) {r c : Nat} (hr : r < m) (hc : c < n + m) (hp : S.R r c ≠ 0) {k j : Nat} (hk : k < m + 2) (hj : j ≤ n + m) (hkr : k ≠ r) :
    S.d * exR S r c k j = S.R k j * (sn (S.R r c) * S.R r c) - S.R k c * (sn (S.R r c) * S.R r j) ∧ ∃ e : Int, e * e = 1 ∧ exR S r c k j = e * D (m + 2) (up (bv A m (up S.B r c)) k (A j)) := by
  obtain ⟨e, he, hd⟩ := g.eps
  have dp := g.dpos
  have hcol := fun i hi => g.span c (Nat.le_of_lt hc) i hi
  have hjol := fun i hi => g.span j hj i hi
  have hb' : D (m + 2) (bv A m (up S.B r c)) = e * S.R r c := by
    rw [bv_up hr, g.ent he hd (show r < m + 2 by omega) (Nat.le_of_lt hc)]; grind
  have hN : ∀ i, i < m + 2 → (S.R r c * S.d) * A j i = sm (m + 2) fun l => (if l = r then S.d * S.R r j else S.R r c * S.R l j - S.R r j * S.R l c) * bv A m (up S.B r c) l i := fun i hi => by
    have e1 : sm (m + 2) (fun l => (if l = r then S.d * S.R r j else S.R r c * S.R l j - S.R r j * S.R l c) * bv A m (up S.B r c) l i)
        = sm (m + 2) fun l => (S.R r c * (S.R l j * bv A m S.B l i) - S.R r j * (S.R l c * bv A m S.B l i)) + (if l = r then S.d * S.R r j * A c i else 0) := by
      refine sm_congr fun l hl => ?_
      rw [bv_up hr]
      by_cases q : l = r
      · subst q; rw [if_pos rfl, if_pos rfl, up_same]; grind
      · rw [if_neg q, if_neg q, up_ne q]; grind
    rw [e1, sm_add, sm_sub, sm_mul, sm_mul, hcol i hi, hjol i hi, sm_one (k := r) (by omega) fun l _ hne => if_neg hne, if_pos rfl]
    grind
  have h := D_slot (n := m + 2) (b := bv A m (up S.B r c)) (k := k) hk hN
  rw [hb', if_neg hkr] at h
  have h2 : S.R r c * (S.d * D (m + 2) (up (bv A m (up S.B r c)) k (A j)) - e * (S.R r c * S.R k j - S.R r j * S.R k c)) = 0 := by grind
  have h3 : S.d * D (m + 2) (up (bv A m (up S.B r c)) k (A j)) = e * (S.R r c * S.R k j - S.R r j * S.R k c) := by
    rcases Int.mul_eq_zero.mp h2 with z | z
    · exact absurd z hp
    · omega
  have sq := sn_sq (S.R r c)
  have h4 : S.R k j * (sn (S.R r c) * S.R r c) - S.R k c * (sn (S.R r c) * S.R r j) = S.d * (e * sn (S.R r c) * D (m + 2) (up (bv A m (up S.B r c)) k (A j))) := by
    have : e * (S.d * D (m + 2) (up (bv A m (up S.B r c)) k (A j))) = S.R r c * S.R k j - S.R r j * S.R k c := by rw [h3]; grind
    grind
  have h5 : exR S r c k j = e * sn (S.R r c) * D (m + 2) (up (bv A m (up S.B r c)) k (A j)) := by
    unfold exR
    rw [if_neg hkr, h4, Int.mul_ediv_cancel_left _ (by omega)]
  exact ⟨by rw [h5, h4], e * sn (S.R r c), by grind, h5⟩
theorem Gd.exchd (g : Gd n m A S) {r c : Nat} (hr : r < m) (hc : c < n + m) (hp : S.R r c ≠ 0) : Gd n m A (exch S r c) := by
  obtain ⟨e, he, hd⟩ := g.eps
  have dp := g.dpos
  have hb' : D (m + 2) (bv A m (up S.B r c)) = e * S.R r c := by
    rw [bv_up hr, g.ent he hd (show r < m + 2 by omega) (Nat.le_of_lt hc)]; grind
  have sq := sn_sq (S.R r c)
  refine ⟨sn_pos hp, ?_, fun j hj i hi => ?_, fun k hk => ?_⟩
  · show D (m + 2) (bv A m (up S.B r c)) = sn (S.R r c) * S.R r c ∨ D (m + 2) (bv A m (up S.B r c)) = - (sn (S.R r c) * S.R r c)
    rw [hb']
    have e2 : e = 1 ∨ e = -1 := by
      have : (e - 1) * (e + 1) = 0 := by grind
      rcases Int.mul_eq_zero.mp this with z | z
      · exact .inl (by omega)
      · exact .inr (by omega)
    unfold sn
    rcases e2 with z | z <;> subst z <;> split <;> omega
  · show sm (m + 2) (fun k => exR S r c k j * bv A m (up S.B r c) k i) = sn (S.R r c) * S.R r c * A j i
    have h1 : S.d * sm (m + 2) (fun k => exR S r c k j * bv A m (up S.B r c) k i) = S.d * (sn (S.R r c) * S.R r c * A j i) := by
      rw [← sm_mul]
      have e1 : sm (m + 2) (fun k => S.d * (exR S r c k j * bv A m (up S.B r c) k i))
          = sm (m + 2) fun l => sn (S.R r c) * (S.R r c * (S.R l j * bv A m S.B l i) - S.R r j * (S.R l c * bv A m S.B l i)) + (if l = r then sn (S.R r c) * S.d * S.R r j * A c i else 0) := by
        refine sm_congr fun l hl => ?_
        rw [bv_up hr]
        by_cases q : l = r
        · subst q; rw [if_pos rfl, up_same]; unfold exR; rw [if_pos rfl]; grind
        · have z := (g.exact_ hr hc hp hl hj q).1
          rw [if_neg q, up_ne q]; grind
      rw [e1, sm_add, sm_mul, sm_sub, sm_mul, sm_mul, g.span j hj i hi, g.span c (Nat.le_of_lt hc) i hi, sm_one (k := r) (by omega) fun l _ hne => if_neg hne, if_pos rfl]
      grind
    exact Int.eq_of_mul_eq_mul_left (by omega) h1
  · show up S.B r c k < n + m
    by_cases q : k = r
    · subst q; rw [up_same]; exact hc
    · rw [up_ne q]; exact g.bB k hk
/-- how large entries are -/
theorem Gd.abs (g : Gd n m A S) {X : Nat} (hX : 1 ≤ X) (hA : ∀ j, j ≤ n + m → ∀ i, i < m + 2 → (A j i).natAbs ≤ X) {k j : Nat} (hk : k < m + 2) (hj : j ≤ n + m) : (S.R k j).natAbs ≤ fac (m + 2) * X ^ (m + 2) := by
  obtain ⟨e, he, hd⟩ := g.eps
  have e1 : e.natAbs = 1 := by
    have : e.natAbs * e.natAbs = 1 := by rw [← Int.natAbs_mul, he]; rfl
    exact Nat.eq_one_of_mul_eq_one_right this
  rw [g.ent he hd hk hj, Int.natAbs_mul, e1, Nat.one_mul]
  refine D_abs fun p hp i hi => ?_
  by_cases q : p = k
  · subst q; rw [up_same]; exact hA j hj i hi
  · rw [up_ne q]
    unfold bv
    split
    · rename_i h; exact hA _ (Nat.le_of_lt (g.bB p h)) i hi
    · show (if p = i then (1 : Int) else 0).natAbs ≤ X
      split
      · exact hX
      · exact Nat.zero_le _
theorem Gd.absd (g : Gd n m A S) {X : Nat} (hX : 1 ≤ X) (hA : ∀ j, j ≤ n + m → ∀ i, i < m + 2 → (A j i).natAbs ≤ X) : S.d.natAbs ≤ fac (m + 2) * X ^ (m + 2) := by
  have h : (D (m + 2) (bv A m S.B)).natAbs ≤ fac (m + 2) * X ^ (m + 2) := D_abs fun p hp i hi => by
    unfold bv
    split
    · rename_i h; exact hA _ (Nat.le_of_lt (g.bB p h)) i hi
    · show (if p = i then (1 : Int) else 0).natAbs ≤ X
      split
      · exact hX
      · exact Nat.zero_le _
  rcases g.det with z | z
  · rw [← z]; exact h
  · rw [z, Int.natAbs_neg] at h; exact h
/-- the same basis: the same table -/
theorem Gd.same {T : St} (g : Gd n m A S) (g' : Gd n m A T) (h : ∀ k, k < m → S.B k = T.B k) : S.d = T.d ∧ ∀ k, k < m + 2 → ∀ j, j ≤ n + m → S.R k j = T.R k j := by
  have eb : bv A m S.B = bv A m T.B := by
    funext k; unfold bv; split
    · rename_i hk; rw [h k hk]
    · rfl
  obtain ⟨e, he, hd⟩ := g.eps
  have dp := g.dpos
  have dp' := g'.dpos
  have ed : S.d = T.d := by
    rcases g.det with a | a <;> rcases g'.det with b | b <;> rw [eb] at a <;> omega
  refine ⟨ed, fun k hk j hj => ?_⟩
  rw [g.ent he hd hk hj, g'.ent he (by rw [← eb, hd, ed]) hk hj, eb]
theorem Gd.start (L : Lp n m A) : Gd n m A ⟨fun k => n + k, 1, fun k j => A j k⟩ := by
  have eb : ∀ k, k < m + 2 → ∀ i, i < m + 2 → bv A m (fun k => n + k) k i = if k = i then 1 else 0 := fun k hk i hi => by
    unfold bv
    by_cases q : k < m
    · rw [if_pos q, L.hu k q i hi]
      by_cases z : k = i
      · simp [z]
      · rw [if_neg z, if_neg (fun y => z y.symm)]
    · rw [if_neg q]
  refine ⟨by show (0 : Int) < 1; decide, .inl ?_, fun j hj i hi => ?_, fun k hk => ?_⟩
  · rw [D_congr eb]; exact D_one
  · show sm (m + 2) (fun k => A j k * bv A m (fun k => n + k) k i) = 1 * A j i
    rw [sm_one (k := i) hi fun k hk hne => by rw [eb k hk i hi, if_neg hne]; grind, eb i hi i hi, if_pos rfl]; grind
  · show n + k < n + m
    omega
end
end Mx
namespace Mx
theorem rat_le {a b c d : Int} (hb : 0 < b) (hd : 0 < d) : ((a : Rat) / b ≤ (c : Rat) / d) ↔ a * d ≤ c * b := by
  have hb' : (0 : Rat) < (b : Rat) := Rat.intCast_pos.mpr hb
  have hd' : (0 : Rat) < (d : Rat) := Rat.intCast_pos.mpr hd
  have hp := Rat.mul_pos hb' hd'
  have e1 : (a : Rat) / b * (b * d) = ((a * d : Int) : Rat) := by rw [Rat.intCast_mul]; grind
  have e2 : (c : Rat) / d * (b * d) = ((c * b : Int) : Rat) := by rw [Rat.intCast_mul]; grind
  rw [← Rat.intCast_le_intCast, ← e1, ← e2]
  exact ⟨fun h => Rat.mul_le_mul_of_nonneg_right h (Rat.le_of_lt hp), fun h => Rat.le_of_mul_le_mul_right h hp⟩
theorem rat_eq {a b c d : Int} (hb : 0 < b) (hd : 0 < d) : ((a : Rat) / b = (c : Rat) / d) ↔ a * d = c * b := by
  constructor
  · intro h
    have h1 := (rat_le hb hd).mp (by rw [h]; exact Rat.le_refl)
    have h2 := (rat_le hd hb).mp (by rw [h]; exact Rat.le_refl)
    omega
  · intro h
    exact Rat.le_antisymm ((rat_le hb hd).mpr (by omega)) ((rat_le hd hb).mpr (by omega))
/-! ### which column leaves -/
structure Leave (n m : Nat) (S : St) (c r : Nat) : Prop where
  lt : r < m
  pos : 0 < S.R r c
  least : ∀ k, k < m → 0 < S.R k c → S.R r (n + m) * S.R k c < S.R k (n + m) * S.R r c ∨ (S.R r (n + m) * S.R k c = S.R k (n + m) * S.R r c ∧ S.B r ≤ S.B k)
def Feas (n m : Nat) (S : St) : Prop := ∀ k, k < m → 0 ≤ S.R k (n + m)
section
variable {n m : Nat} {A : Nat → Nat → Int} {S : St}
theorem sn_of_pos {x : Int} (h : 0 < x) : sn x = 1 := by unfold sn; rw [if_neg (by omega)]
theorem Gd.exact1 (g : Gd n m A S) {r c : Nat} (hr : r < m) (hc : c < n + m) (hp : 0 < S.R r c) {k j : Nat} (hk : k < m + 2) (hj : j ≤ n + m) (hkr : k ≠ r) : S.d * (exch S r c).R k j = S.R k j * S.R r c - S.R k c * S.R r j := by
  have h := (g.exact_ hr hc (by omega) hk hj hkr).1
  rw [sn_of_pos hp] at h
  show S.d * exR S r c k j = _
  rw [h]; grind
theorem exch_row {r c j : Nat} (hp : 0 < S.R r c) : (exch S r c).R r j = S.R r j := by
  show exR S r c r j = _
  unfold exR
  rw [if_pos rfl, sn_of_pos hp]; grind
theorem exch_d {r c : Nat} (hp : 0 < S.R r c) : (exch S r c).d = S.R r c := by
  show sn (S.R r c) * S.R r c = _
  rw [sn_of_pos hp]; grind
theorem pos_of_mul {a b : Int} (ha : 0 < a) (h : 0 ≤ a * b) : 0 ≤ b := by
  rcases Int.lt_or_le b 0 with q | q
  · have : a * b < 0 := Int.mul_neg_of_pos_of_neg ha q
    omega
  · exact q
theorem feas_exch (g : Gd n m A S) (F : Feas n m S) {c r : Nat} (hc : c < n) (L : Leave n m S c r) : Feas n m (exch S r c) := by
  intro k hk
  by_cases q : k = r
  · subst q; rw [exch_row L.pos]; exact F k hk
  · have h := g.exact1 L.lt (show c < n + m by omega) L.pos (k := k) (j := n + m) (by omega) (Nat.le_refl _) q
    refine pos_of_mul g.dpos ?_
    rw [h]
    have h1 := F k hk
    have h2 := F r L.lt
    have hp := L.pos
    rcases Int.lt_or_le 0 (S.R k c) with a | a
    · have z : S.R r (n + m) * S.R k c ≤ S.R k (n + m) * S.R r c := by
        rcases L.least k hk a with y | y
        · omega
        · omega
      have e : S.R r (n + m) * S.R k c = S.R k c * S.R r (n + m) := Int.mul_comm _ _
      omega
    · have z1 : 0 ≤ S.R k (n + m) * S.R r c := Int.mul_nonneg h1 (Int.le_of_lt hp)
      have z2 : S.R k c * S.R r (n + m) ≤ 0 := Int.mul_nonpos_of_nonpos_of_nonneg a h2
      omega
end
/-! ### pigeons -/
theorem pigeon : ∀ (K : Nat) (g : Nat → Nat), (∀ t, g t < K) → ∃ i j, i < j ∧ g i = g j
  | 0, g, h => absurd (h 0) (Nat.not_lt_zero _)
  | K + 1, g, h => by
    by_cases e : ∃ t, g t = K
    · obtain ⟨t, ht⟩ := e
      by_cases e2 : ∃ s, g (t + 1 + s) = K
      · obtain ⟨s, hs⟩ := e2
        exact ⟨t, t + 1 + s, by omega, by rw [ht, hs]⟩
      · obtain ⟨i, j, hij, he⟩ := pigeon K (fun s => g (t + 1 + s)) fun s => by
          have h1 := h (t + 1 + s)
          have h2 : g (t + 1 + s) ≠ K := fun z => e2 ⟨s, z⟩
          omega
        exact ⟨t + 1 + i, t + 1 + j, by omega, he⟩
    · exact pigeon K g fun t => by
        have h1 := h t
        have h2 : g t ≠ K := fun z => e ⟨t, z⟩
        omega
def code (N : Nat) (B : Nat → Nat) : Nat → Nat
  | 0 => 0
  | m + 1 => code N B m * N + B m
theorem code_lt {N : Nat} {B : Nat → Nat} : ∀ {m : Nat}, (∀ k, k < m → B k < N) → code N B m < N ^ m
  | 0, _ => by simp [code]
  | m + 1, h => by
    have h1 := code_lt (m := m) fun k hk => h k (by omega)
    have h2 := h m (by omega)
    show code N B m * N + B m < N ^ (m + 1)
    rw [Nat.pow_succ]
    have h3 : (code N B m + 1) * N ≤ N ^ m * N := Nat.mul_le_mul_right _ h1
    rw [Nat.succ_mul] at h3
    omega
theorem code_inj {N : Nat} {B C : Nat → Nat} : ∀ {m : Nat}, (∀ k, k < m → B k < N) → (∀ k, k < m → C k < N) → code N B m = code N C m → ∀ k, k < m → B k = C k
  | 0, _, _, _, k, hk => absurd hk (Nat.not_lt_zero _)
  | m + 1, hB, hC, h, k, hk => by
    have b := hB m (by omega)
    have c := hC m (by omega)
    have h' : code N B m * N + B m = code N C m * N + C m := h
    have e1 : B m = C m := by
      have := congrArg (· % N) h'
      simp only [Nat.mul_add_mod_self_right, Nat.mod_eq_of_lt b, Nat.mod_eq_of_lt c] at this
      exact this
    have e2 : code N B m = code N C m := by
      have : code N B m * N = code N C m * N := by omega
      exact Nat.eq_of_mul_eq_mul_right (by omega) this
    by_cases q : k = m
    · subst q; exact e1
    · exact code_inj (fun k hk => hB k (by omega)) (fun k hk => hC k (by omega)) e2 k (by omega)
theorem most_at (c : Nat → Nat) (i : Nat) : ∀ l, ∃ a, i ≤ a ∧ a < i + (l + 1) ∧ ∀ t, i ≤ t → t < i + (l + 1) → c t ≤ c a
  | 0 => ⟨i, Nat.le_refl _, by omega, fun t h1 h2 => by have : t = i := by omega
                                                        subst this; exact Nat.le_refl _⟩
  | l + 1 => by
    obtain ⟨a, h1, h2, h3⟩ := most_at c i l
    by_cases q : c a ≤ c (i + (l + 1))
    · refine ⟨i + (l + 1), by omega, by omega, fun t t1 t2 => ?_⟩
      by_cases e : t = i + (l + 1)
      · subst e; exact Nat.le_refl _
      · exact Nat.le_trans (h3 t t1 (by omega)) q
    · refine ⟨a, h1, by omega, fun t t1 t2 => ?_⟩
      by_cases e : t = i + (l + 1)
      · subst e; omega
      · exact h3 t t1 (by omega)
theorem sm_pos_some {f : Nat → Int} : ∀ {n : Nat}, 0 < sm n f → ∃ k, k < n ∧ 0 < f k
  | 0, h => absurd h (by simp [sm])
  | n + 1, h => by
    rw [sm_succ] at h
    by_cases q : 0 < f n
    · exact ⟨n, by omega, q⟩
    · obtain ⟨k, h1, h2⟩ := sm_pos_some (f := f) (n := n) (by omega)
      exact ⟨k, by omega, h2⟩
/-! ### a run that does not end is not there -/
structure Bl (n m q : Nat) (S : St) (c r : Nat) (T : St) : Prop where
  hc : c < n
  neg : S.R q c < 0
  first : ∀ c', c' < c → 0 ≤ S.R q c'
  lv : Leave n m S c r
  eq : T = exch S r c
section
variable {n m : Nat} {A : Nat → Nat → Int}
/-- two tables over one sum -/
theorem Gd.cross {S T : St} (L : Lp n m A) (g : Gd n m A S) (h : Gd n m A T) {q : Nat} (hq : q = m ∨ q = m + 1) {s : Nat} (hs : s < n) :
    T.d * S.R q s - sm m (fun k => T.R k s * S.R q (T.B k)) = S.d * T.R q s := by
  have hq2 : q < m + 2 := by omega
  have key : ∀ j, j ≤ n + m → S.R q j = sm m (fun i => A j i * S.R q (n + i)) + S.d * A j q := fun j hj => by
    have z := g.units L hq2 hj
    rcases hq with e | e
    · subst e
      rw [if_pos rfl, if_neg (by omega)] at z; grind
    · subst e
      rw [if_neg (by omega), if_pos rfl] at z; grind
  have e1 : sm m (fun k => T.R k s * S.R q (T.B k)) = sm m (fun k => sm m (fun i => S.R q (n + i) * (T.R k s * A (T.B k) i)) + S.d * (T.R k s * A (T.B k) q)) := by
    refine sm_congr fun k hk => ?_
    rw [key (T.B k) (Nat.le_of_lt (h.bB k hk))]
    have : sm m (fun i => S.R q (n + i) * (T.R k s * A (T.B k) i)) = T.R k s * sm m (fun i => A (T.B k) i * S.R q (n + i)) := by
      rw [← sm_mul]
      exact sm_congr fun i hi => by grind
    rw [this]; grind
  have hspan : ∀ i, i < m + 2 → sm m (fun k => T.R k s * A (T.B k) i) + (if i = m then T.R m s else 0) + (if i = m + 1 then T.R (m + 1) s else 0) = T.d * A s i := fun i hi => by
    rw [← h.span s (by omega) i hi, sm_succ, sm_succ]
    have e2 : sm m (fun k => T.R k s * bv A m T.B k i) = sm m (fun k => T.R k s * A (T.B k) i) := sm_congr fun k hk => by unfold bv; rw [if_pos hk]
    have e3 : bv A m T.B m i = if i = m then 1 else 0 := by
      unfold bv; rw [if_neg (by omega)]
      by_cases z : i = m
      · simp [z]
      · rw [if_neg z, if_neg (fun y => z y.symm)]
    have e4 : bv A m T.B (m + 1) i = if i = m + 1 then 1 else 0 := by
      unfold bv; rw [if_neg (by omega)]
      by_cases z : i = m + 1
      · simp [z]
      · rw [if_neg z, if_neg (fun y => z y.symm)]
    rw [e2, e3, e4]
    split <;> split <;> grind
  rw [e1, sm_add, sm_comm, sm_mul]
  have e5 : sm m (fun i => sm m (fun k => S.R q (n + i) * (T.R k s * A (T.B k) i))) = sm m (fun i => T.d * (A s i * S.R q (n + i))) := by
    refine sm_congr fun i hi => ?_
    rw [sm_mul]
    have z := hspan i (by omega)
    rw [if_neg (by omega), if_neg (by omega)] at z
    have z2 : sm m (fun k => T.R k s * A (T.B k) i) = T.d * A s i := by omega
    rw [z2]; grind
  rw [e5, sm_mul, key s (by omega)]
  have z := hspan q hq2
  have z3 : sm m (fun k => T.R k s * A (T.B k) q) = T.d * A s q - T.R q s := by
    rcases hq with e | e
    · subst e
      rw [if_pos rfl, if_neg (by omega)] at z; omega
    · subst e
      rw [if_neg (by omega), if_pos rfl] at z; omega
  rw [z3]; grind
theorem bland (L : Lp n m A) {q : Nat} (hq : q = m ∨ q = m + 1) (f : Nat → St) (c r : Nat → Nat) (hG : ∀ t, Gd n m A (f t)) (hF : ∀ t, Feas n m (f t)) (hs : ∀ t, Bl n m q (f t) (c t) (r t) (f (t + 1))) : False := by
  have hq2 : q < m + 2 := by omega
  obtain ⟨i, j, hij, hcode⟩ := pigeon ((n + m) ^ m) (fun t => code (n + m) (f t).B m) fun t => code_lt (hG t).bB
  have hB : ∀ k, k < m → (f i).B k = (f j).B k := code_inj (hG i).bB (hG j).bB hcode
  obtain ⟨ed, eR⟩ := (hG i).same (hG j) hB
  -- the basis step by step
  have stepB : ∀ t k, (f (t + 1)).B k = if k = r t then c t else (f t).B k := fun t k => by
    rw [(hs t).eq]
    show up (f t).B (r t) (c t) k = _
    unfold up
    split <;> rfl
  have nonb : ∀ t k, k < m → (f t).B k ≠ c t := fun t k hk e => by
    have h1 := (hG t).basic (k := q) (l := k) hq2 hk
    rw [if_neg (by omega), e] at h1
    have := (hs t).neg
    omega
  -- the objective
  have zstep : ∀ t, (f (t + 1)).d = (f t).R (r t) (c t) ∧ (f t).d * (f (t + 1)).R q (n + m) = (f t).R q (n + m) * (f t).R (r t) (c t) - (f t).R q (c t) * (f t).R (r t) (n + m) := fun t => by
    have h := hs t
    have hc := h.hc
    refine ⟨by rw [h.eq]; exact exch_d h.lv.pos, ?_⟩
    rw [h.eq]
    exact (hG t).exact1 h.lv.lt (by omega) h.lv.pos hq2 (Nat.le_refl _) (by have := h.lv.lt; omega)
  have zle : ∀ t, ((f t).R q (n + m) : Rat) / (f t).d ≤ ((f (t + 1)).R q (n + m) : Rat) / (f (t + 1)).d := fun t => by
    obtain ⟨h1, h2⟩ := zstep t
    refine (rat_le (hG t).dpos (hG (t + 1)).dpos).mpr ?_
    have h3 : (f t).R q (c t) * (f t).R (r t) (n + m) ≤ 0 := Int.mul_nonpos_of_nonpos_of_nonneg (Int.le_of_lt (hs t).neg) (hF t _ (hs t).lv.lt)
    rw [h1]
    have e : (f (t + 1)).R q (n + m) * (f t).d = (f t).d * (f (t + 1)).R q (n + m) := Int.mul_comm _ _
    omega
  have zmono : ∀ x l, ((f x).R q (n + m) : Rat) / (f x).d ≤ ((f (x + l)).R q (n + m) : Rat) / (f (x + l)).d := fun x l => by
    induction l with
    | zero => exact Rat.le_refl
    | succ l ih => exact Rat.le_trans ih (zle (x + l))
  have zij : ((f i).R q (n + m) : Rat) / (f i).d = ((f j).R q (n + m) : Rat) / (f j).d := by
    rw [ed, eR q hq2 (n + m) (Nat.le_refl _)]
  have degen : ∀ t, i ≤ t → t < j → (f t).R (r t) (n + m) = 0 := fun t h1 h2 => by
    have a1 := zmono i (t - i)
    rw [show i + (t - i) = t by omega] at a1
    have a2 := zmono (t + 1) (j - (t + 1))
    rw [show t + 1 + (j - (t + 1)) = j by omega, ← zij] at a2
    have a3 := Rat.le_antisymm (zle t) (Rat.le_trans a2 a1)
    have a4 := (rat_eq (hG t).dpos (hG (t + 1)).dpos).mp a3
    obtain ⟨b1, b2⟩ := zstep t
    rw [b1] at a4
    have e : (f (t + 1)).R q (n + m) * (f t).d = (f t).d * (f (t + 1)).R q (n + m) := Int.mul_comm _ _
    have a5 : (f t).R q (c t) * (f t).R (r t) (n + m) = 0 := by omega
    rcases Int.mul_eq_zero.mp a5 with z | z
    · have := (hs t).neg; omega
    · exact z
  -- the rows' values
  have rho1 : ∀ t, i ≤ t → t < j → ∀ k, k < m → ((f (t + 1)).R k (n + m) = 0 ↔ (f t).R k (n + m) = 0) := fun t h1 h2 k hk => by
    have hz := degen t h1 h2
    have hst := hs t
    have hp := hst.lv.pos
    have hc := hst.hc
    by_cases e : k = r t
    · subst e
      rw [hst.eq, exch_row hp]
    · have h3 := (hG t).exact1 hst.lv.lt (show c t < n + m by omega) hp (k := k) (j := n + m) (by omega) (Nat.le_refl _) e
      rw [hz, Int.mul_zero, Int.sub_zero, ← hst.eq] at h3
      have dp := (hG t).dpos
      constructor
      · intro z
        rw [z, Int.mul_zero] at h3
        rcases Int.mul_eq_zero.mp h3.symm with y | y
        · exact y
        · omega
      · intro z
        rw [z, Int.zero_mul] at h3
        rcases Int.mul_eq_zero.mp h3 with y | y
        · omega
        · exact y
  have rho : ∀ k, k < m → ∀ l x, i ≤ x → x + l ≤ j → ((f (x + l)).R k (n + m) = 0 ↔ (f x).R k (n + m) = 0) := fun k hk l => by
    induction l with
    | zero => intro x _ _; exact Iff.rfl
    | succ l ih => intro x h1 h2; exact (rho1 (x + l) (by omega) (by omega) k hk).trans (ih x h1 (by omega))
  have rho2 : ∀ k, k < m → ∀ x y, i ≤ x → x ≤ j → i ≤ y → y ≤ j → (f x).R k (n + m) = 0 → (f y).R k (n + m) = 0 := fun k hk x y x1 x2 y1 y2 z => by
    by_cases e : x ≤ y
    · have := (rho k hk (y - x) x x1 (by omega)).mpr z
      rwa [show x + (y - x) = y by omega] at this
    · have := (rho k hk (x - y) y y1 (by omega)).mp (by rwa [show y + (x - y) = x by omega])
      exact this
  -- staying in, staying out
  have stay : ∀ l x k, (∀ t, x ≤ t → t < x + l → r t ≠ k) → (f (x + l)).B k = (f x).B k := fun l => by
    induction l with
    | zero => intro x k _; rfl
    | succ l ih =>
      intro x k h
      rw [← Nat.add_assoc, stepB, if_neg (fun z => h (x + l) (by omega) (by omega) z.symm)]
      exact ih x k fun t t1 t2 => h t t1 (by omega)
  have out : ∀ l x v, (∀ k, k < m → (f x).B k ≠ v) → (∀ t, x ≤ t → t < x + l → c t ≠ v) → ∀ k, k < m → (f (x + l)).B k ≠ v := fun l => by
    induction l with
    | zero => intro x v h _ k hk; exact h k hk
    | succ l ih =>
      intro x v h h2 k hk
      rw [← Nat.add_assoc, stepB]
      split
      · exact h2 (x + l) (by omega) (by omega)
      · exact ih x v h (fun t t1 t2 => h2 t t1 (by omega)) k hk
  -- in at x, out at y: it enters at some time, and its row has the value 0
  have fickle : ∀ x y k v, i ≤ x → x ≤ j → i ≤ y → y ≤ j → k < m → (f x).B k = v → (∀ l, l < m → (f y).B l ≠ v) → (∃ t, i ≤ t ∧ t < j ∧ c t = v) ∧ (f x).R k (n + m) = 0 := fun x y k v x1 x2 y1 y2 hk hx hy => by
    constructor
    · refine Classical.byContradiction fun hno => ?_
      have hno' : ∀ t, i ≤ t → t < j → c t ≠ v := fun t t1 t2 e => hno ⟨t, t1, t2, e⟩
      have o1 := out (j - y) y v hy fun t t1 t2 => hno' t (by omega) (by omega)
      rw [show y + (j - y) = j by omega] at o1
      have o2 := out (x - i) i v (fun l hl => by rw [hB l hl]; exact o1 l hl) fun t t1 t2 => hno' t t1 (by omega)
      rw [show i + (x - i) = x by omega] at o2
      exact o2 k hk hx
    · have piv : ∃ t, i ≤ t ∧ t < j ∧ r t = k := by
        refine Classical.byContradiction fun hno => ?_
        have hno' : ∀ t, i ≤ t → t < j → r t ≠ k := fun t t1 t2 e => hno ⟨t, t1, t2, e⟩
        by_cases e : x ≤ y
        · have z := stay (y - x) x k fun t t1 t2 => hno' t (by omega) (by omega)
          rw [show x + (y - x) = y by omega, hx] at z
          exact hy k hk z
        · have z := stay (x - y) y k fun t t1 t2 => hno' t (by omega) (by omega)
          rw [show y + (x - y) = x by omega, hx] at z
          exact hy k hk z.symm
      obtain ⟨t, t1, t2, rfl⟩ := piv
      exact rho2 (r t) hk t x t1 (by omega) x1 x2 (degen t t1 t2)
  -- the greatest that enters
  obtain ⟨a, a1, a2, amax⟩ := most_at c i (j - i - 1)
  rw [show i + (j - i - 1 + 1) = j by omega] at a2 amax
  have leaves : ∃ b, i ≤ b ∧ b < j ∧ (f b).B (r b) = c a := by
    refine Classical.byContradiction fun hno => ?_
    have keep : ∀ l x k, i ≤ x → x + l ≤ j → (f x).B k = c a → (f (x + l)).B k = c a := fun l => by
      induction l with
      | zero => intro x k _ _ h; exact h
      | succ l ih =>
        intro x k h1 h2 h
        have z := ih x k h1 (by omega) h
        rw [← Nat.add_assoc, stepB]
        split
        · rename_i e
          exact absurd ⟨x + l, by omega, by omega, by rw [← e]; exact z⟩ hno
        · exact z
    have h1 : (f (a + 1)).B (r a) = c a := by rw [stepB, if_pos rfl]
    have h2 := keep (j - (a + 1)) (a + 1) (r a) (by omega) (by omega) h1
    rw [show a + 1 + (j - (a + 1)) = j by omega, ← hB (r a) (hs a).lv.lt] at h2
    have h3 := keep (a - i) i (r a) (Nat.le_refl _) (by omega) h2
    rw [show i + (a - i) = a by omega] at h3
    exact nonb a (r a) (hs a).lv.lt h3
  obtain ⟨b, b1, b2, hb⟩ := leaves
  have Sa := hs a
  have Sb := hs b
  have s1 : c b ≤ c a := amax b b1 b2
  have s2 : c b ≠ c a := fun e => nonb b (r b) Sb.lv.lt (by rw [e]; exact hb)
  have s3 : 0 ≤ (f a).R q (c b) := Sa.first (c b) (by omega)
  have cr := (hG a).cross L (hG b) hq Sb.hc
  have d1 := (hG a).dpos
  have d2 := (hG b).dpos
  have c1 : (f a).d * (f b).R q (c b) < 0 := Int.mul_neg_of_pos_of_neg d1 Sb.neg
  have c2 : 0 ≤ (f b).d * (f a).R q (c b) := Int.mul_nonneg (Int.le_of_lt d2) s3
  obtain ⟨k, hk, hpos⟩ := sm_pos_some (f := fun k => (f b).R k (c b) * (f a).R q ((f b).B k)) (n := m) (by omega)
  have hne : (f a).R q ((f b).B k) ≠ 0 := fun z => by
    simp only [z, Int.mul_zero] at hpos
    omega
  have hout : ∀ l, l < m → (f a).B l ≠ (f b).B k := fun l hl e => by
    have z := (hG a).basic (k := q) (l := l) hq2 hl
    rw [if_neg (by omega), e] at z
    exact hne z
  obtain ⟨⟨t, t1, t2, ht⟩, hz⟩ := fickle b a k _ b1 (by omega) a1 (by omega) hk rfl hout
  have hle : (f b).B k ≤ c a := by rw [← ht]; exact amax t t1 t2
  by_cases e : (f b).B k = c a
  · have ek : k = r b := (hG b).inj hk Sb.lv.lt (by rw [e, hb])
    subst ek
    rw [e] at hpos
    have := Int.mul_neg_of_pos_of_neg Sb.lv.pos Sa.neg
    omega
  · have h4 : 0 ≤ (f a).R q ((f b).B k) := Sa.first _ (by omega)
    have h5 : 0 < (f b).R k (c b) := by
      rcases Int.lt_or_le 0 ((f b).R k (c b)) with z | z
      · exact z
      · have := Int.mul_nonpos_of_nonpos_of_nonneg z h4
        omega
    have h6 := degen b b1 b2
    have h7 := Sb.lv.least k hk h5
    rw [h6, hz, Int.zero_mul, Int.zero_mul] at h7
    rcases h7 with y | ⟨_, y⟩
    · omega
    · rw [hb] at y
      omega
end
end Mx
namespace Mx
section
variable {n m : Nat} {A : Nat → Nat → Int} {S : St}
/-- how far the target is: what the units still bear -/
theorem Gd.gap (g : Gd n m A S) (L : Lp n m A) {j : Nat} (hj : j < n ∨ j = n + m) : S.R (m + 1) j = - sm m (fun k => if n ≤ S.B k then S.R k j else 0) := by
  have hj2 : j ≤ n + m := by omega
  have z := g.span j hj2 (m + 1) (by omega)
  rw [sm_succ, sm_succ] at z
  have e3 : bv A m S.B m (m + 1) = 0 := by unfold bv; rw [if_neg (by omega)]; simp
  have e4 : bv A m S.B (m + 1) (m + 1) = 1 := by unfold bv; rw [if_neg (by omega)]; simp
  have e5 : ∀ k, k < m → A (S.B k) (m + 1) = (if n ≤ S.B k then 1 else 0) - sm m (fun i => A (S.B k) i) := fun k hk => by
    by_cases q : n ≤ S.B k
    · rw [if_pos q]
      have hb := g.bB k hk
      obtain ⟨i0, e⟩ : ∃ i0, S.B k = n + i0 := ⟨S.B k - n, by omega⟩
      have hi0 : i0 < m := by omega
      rw [e, L.hu i0 hi0 (m + 1) (by omega), if_neg (by omega), sm_one (k := i0) hi0 fun i hi hne => by rw [L.hu i0 hi0 i (by omega), if_neg hne], L.hu i0 hi0 i0 (by omega), if_pos rfl]
      rfl
    · rw [if_neg q, L.hg _ (.inl (by omega))]; omega
  have e6 : sm m (fun k => S.R k j * bv A m S.B k (m + 1)) = sm m (fun k => if n ≤ S.B k then S.R k j else 0) - sm m (fun i => S.d * A j i) := by
    have e7 : sm m (fun i => S.d * A j i) = sm m (fun i => sm m (fun k => S.R k j * A (S.B k) i)) := by
      refine sm_congr fun i hi => ?_
      rw [← g.span j hj2 i (by omega), sm_succ, sm_succ]
      have z1 : bv A m S.B m i = 0 := by unfold bv; rw [if_neg (by omega)]; simp; omega
      have z2 : bv A m S.B (m + 1) i = 0 := by unfold bv; rw [if_neg (by omega)]; simp; omega
      rw [z1, z2]
      have z3 : sm m (fun k => S.R k j * bv A m S.B k i) = sm m (fun k => S.R k j * A (S.B k) i) := sm_congr fun k hk => by unfold bv; rw [if_pos hk]
      rw [z3]; omega
    rw [e7, sm_comm, ← sm_sub]
    refine sm_congr fun k hk => ?_
    have e8 : bv A m S.B k (m + 1) = A (S.B k) (m + 1) := by unfold bv; rw [if_pos hk]
    rw [e8, e5 k hk, sm_mul]
    split <;> grind
  rw [e3, e4, e6, L.hg j hj, sm_mul] at z
  grind
theorem sm_nonneg {f : Nat → Int} : ∀ {n : Nat}, (∀ i, i < n → 0 ≤ f i) → 0 ≤ sm n f
  | 0, _ => Int.le_refl _
  | n + 1, h => by
    have h1 := sm_nonneg (f := f) (n := n) fun i hi => h i (by omega)
    have h2 := h n (by omega)
    rw [sm_succ]; omega
theorem sm_each {f : Nat → Int} : ∀ {n : Nat}, (∀ i, i < n → 0 ≤ f i) → sm n f = 0 → ∀ i, i < n → f i = 0
  | 0, _, _, i, hi => absurd hi (Nat.not_lt_zero _)
  | n + 1, h, e, i, hi => by
    rw [sm_succ] at e
    have h1 := sm_nonneg (f := f) (n := n) fun i hi => h i (by omega)
    have h2 := h n (by omega)
    by_cases q : i = n
    · subst q; omega
    · have e1 : sm n f = 0 := by omega
      exact sm_each (f := f) (n := n) (fun i hi => h i (by omega)) e1 i (by omega)
theorem gap_le (g : Gd n m A S) (L : Lp n m A) (F : Feas n m S) : S.R (m + 1) (n + m) ≤ 0 := by
  rw [g.gap L (.inr rfl)]
  have := sm_nonneg (f := fun k => if n ≤ S.B k then S.R k (n + m) else 0) (n := m) fun k hk => by
    show 0 ≤ (if n ≤ S.B k then S.R k (n + m) else 0)
    split
    · exact F k hk
    · omega
  omega
def Rea (n m : Nat) (S : St) : Prop := ∀ k, k < m → n ≤ S.B k → S.R k (n + m) = 0
theorem reached_of (g : Gd n m A S) (L : Lp n m A) (F : Feas n m S) (h : S.R (m + 1) (n + m) = 0) : Rea n m S := by
  intro k hk hb
  rw [g.gap L (.inr rfl)] at h
  have := sm_each (f := fun k => if n ≤ S.B k then S.R k (n + m) else 0) (n := m) (fun k hk => by
    show 0 ≤ (if n ≤ S.B k then S.R k (n + m) else 0)
    split
    · exact F k hk
    · omega) (by omega) k hk
  simpa [hb] using this
/-- a column that helps to come nearer finds one that leaves -/
theorem gap_leaves (g : Gd n m A S) (L : Lp n m A) {c : Nat} (hc : c < n) (h : S.R (m + 1) c < 0) : ∃ k, k < m ∧ 0 < S.R k c := by
  rw [g.gap L (.inl hc)] at h
  obtain ⟨k, hk, hp⟩ := sm_pos_some (f := fun k => if n ≤ S.B k then S.R k c else 0) (n := m) (by omega)
  refine ⟨k, hk, ?_⟩
  by_cases q : n ≤ S.B k
  · simpa [q] using hp
  · simp [q] at hp
/-! ### the units driven out -/
theorem drive (g : Gd n m A S) (F : Feas n m S) (Q : Rea n m S) {r c : Nat} (hr : r < m) (hb : n ≤ S.B r) (hc : c < n) (hp : S.R r c ≠ 0) : Feas n m (exch S r c) ∧ Rea n m (exch S r c) ∧ (∀ k, k < r → n ≤ S.B k → (∀ c', c' < n → S.R k c' = 0) → ∀ c', c' < n → (exch S r c).R k c' = 0) := by
  have dp := g.dpos
  have z := Q r hr hb
  have spos := sn_pos hp
  refine ⟨fun k hk => ?_, fun k hk hbk => ?_, fun k hk hbk h0 c' hc' => ?_⟩
  · show 0 ≤ exR S r c k (n + m)
    by_cases q : k = r
    · subst q; unfold exR; rw [if_pos rfl, z, Int.mul_zero]; exact Int.le_refl _
    · have h := (g.exact_ hr (show c < n + m by omega) hp (k := k) (j := n + m) (by omega) (Nat.le_refl _) q).1
      rw [z, Int.mul_zero, Int.mul_zero, Int.sub_zero] at h
      refine pos_of_mul dp ?_
      rw [h]
      exact Int.mul_nonneg (F k hk) (Int.le_of_lt spos)
  · show exR S r c k (n + m) = 0
    by_cases q : k = r
    · subst q
      have : n ≤ up S.B k c k := hbk
      rw [up_same] at this; omega
    · have hbk' : n ≤ S.B k := by
        have : n ≤ up S.B r c k := hbk
        rwa [up_ne q] at this
      have h := (g.exact_ hr (show c < n + m by omega) hp (k := k) (j := n + m) (by omega) (Nat.le_refl _) q).1
      rw [z, Int.mul_zero, Int.mul_zero, Int.sub_zero, Q k hk hbk', Int.zero_mul] at h
      rcases Int.mul_eq_zero.mp h with y | y
      · omega
      · exact y
  · have h := (g.exact_ hr (show c < n + m by omega) hp (k := k) (j := c') (by omega) (by omega) (by omega)).1
    rw [h0 c hc, h0 c' hc', Int.zero_mul, Int.zero_mul, Int.sub_zero] at h
    rcases Int.mul_eq_zero.mp h with y | y
    · omega
    · exact y
/-- the units that are left bear nothing -/
def Art (n m : Nat) (S : St) : Prop := ∀ k, k < m → n ≤ S.B k → (∀ c, c < n → S.R k c = 0) ∧ S.R k (n + m) = 0
theorem art_exch (g : Gd n m A S) (Q : Art n m S) {r c : Nat} (hc : c < n) (Lv : Leave n m S c r) : Art n m (exch S r c) := by
  have dp := g.dpos
  intro k hk hbk
  have q : k ≠ r := fun q => by
    subst q
    have : n ≤ up S.B k c k := hbk
    rw [up_same] at this; omega
  have hbk' : n ≤ S.B k := by
    have : n ≤ up S.B r c k := hbk
    rwa [up_ne q] at this
  obtain ⟨h0, h1⟩ := Q k hk hbk'
  constructor
  · intro c' hc'
    have h := g.exact1 Lv.lt (show c < n + m by omega) Lv.pos (k := k) (j := c') (by omega) (by omega) q
    rw [h0 c hc, h0 c' hc', Int.zero_mul, Int.zero_mul, Int.sub_zero] at h
    rcases Int.mul_eq_zero.mp h with y | y
    · omega
    · exact y
  · have h := g.exact1 Lv.lt (show c < n + m by omega) Lv.pos (k := k) (j := n + m) (by omega) (Nat.le_refl _) q
    rw [h0 c hc, h1, Int.zero_mul, Int.zero_mul, Int.sub_zero] at h
    rcases Int.mul_eq_zero.mp h with y | y
    · omega
    · exact y
/-! ### a run ends -/
def Fst (q : Nat) (S : St) (c : Nat) : Prop := S.R q c < 0 ∧ ∀ c', c' < c → 0 ≤ S.R q c'
theorem Leave.uniq (g : Gd n m A S) {c r r' : Nat} (h : Leave n m S c r) (h' : Leave n m S c r') : r = r' := by
  have h1 := h.least r' h'.lt h'.pos
  have h2 := h'.least r h.lt h.pos
  have e : S.B r = S.B r' := by omega
  exact g.inj h.lt h'.lt e
/-- every run by the costs in row q takes at most so many turns -/
def Ends (n m q : Nat) : Nat → St → Prop
  | 0, S => ∀ c r, c < n → Fst q S c → ¬ Leave n m S c r
  | k + 1, S => ∀ c r, c < n → Fst q S c → Leave n m S c r → Ends n m q k (exch S r c)
theorem ends (L : Lp n m A) {q : Nat} (hq : q = m ∨ q = m + 1) (g : Gd n m A S) (F : Feas n m S) : ∃ k, Ends n m q k S := by
  refine Classical.byContradiction fun hno => ?_
  let P : St → Prop := fun S => Gd n m A S ∧ Feas n m S ∧ ¬ ∃ k, Ends n m q k S
  have nxt : ∀ S, P S → ∃ c r, c < n ∧ Fst q S c ∧ Leave n m S c r ∧ P (exch S r c) := fun S ⟨g, F, hn⟩ => by
    have h0 : ¬ Ends n m q 0 S := fun z => hn ⟨0, z⟩
    obtain ⟨c, h1⟩ := Classical.not_forall.mp h0
    obtain ⟨r, h2⟩ := Classical.not_forall.mp h1
    have h3 := Classical.not_imp.mp h2
    obtain ⟨hc, h4⟩ := h3
    obtain ⟨hf, h5⟩ := Classical.not_imp.mp h4
    have hl := Classical.not_not.mp h5
    refine ⟨c, r, hc, hf, hl, g.exchd hl.lt (by omega) (by have := hl.pos; omega), feas_exch g F hc hl, fun ⟨k, hk⟩ => hn ⟨k + 1, fun c' r' hc' hf' hl' => ?_⟩⟩
    have ec : c' = c := by
      rcases Nat.lt_trichotomy c' c with y | y | y
      · have := hf.2 c' y; have := hf'.1; omega
      · exact y
      · have := hf'.2 c y; have := hf.1; omega
    subst ec
    rw [hl'.uniq g hl]
    exact hk
  let X := { S : St // P S }
  let C : X → Nat := fun x => Classical.choose (nxt x.1 x.2)
  let Rr : X → Nat := fun x => Classical.choose (Classical.choose_spec (nxt x.1 x.2))
  have spec : ∀ x : X, C x < n ∧ Fst q x.1 (C x) ∧ Leave n m x.1 (C x) (Rr x) ∧ P (exch x.1 (Rr x) (C x)) := fun x => Classical.choose_spec (Classical.choose_spec (nxt x.1 x.2))
  let nx : X → X := fun x => ⟨exch x.1 (Rr x) (C x), (spec x).2.2.2⟩
  let f : Nat → X := fun t => Nat.rec ⟨S, g, F, hno⟩ (fun _ x => nx x) t
  exact bland L hq (fun t => (f t).1) (fun t => C (f t)) (fun t => Rr (f t)) (fun t => (f t).2.1) (fun t => (f t).2.2.1) fun t =>
    ⟨(spec (f t)).1, (spec (f t)).2.1.1, (spec (f t)).2.1.2, (spec (f t)).2.2.1, rfl⟩
end
end Mx
namespace Mx
/-! ### sums of fractions -/
theorem sm_cast {f : Nat → Int} : ∀ {n : Nat}, ((sm n f : Int) : Rat) = sm n (fun i => (f i : Rat))
  | 0 => rfl
  | n + 1 => by
    rw [sm_succ, sm_succ, ← sm_cast]
    exact Rat.intCast_add _ _
theorem smQ_nonneg {f : Nat → Rat} : ∀ {n : Nat}, (∀ i, i < n → 0 ≤ f i) → 0 ≤ sm n f
  | 0, _ => Rat.le_refl
  | n + 1, h => by
    have h1 := smQ_nonneg (f := f) (n := n) fun i hi => h i (by omega)
    have h2 := h n (by omega)
    rw [sm_succ]; exact Rat.add_nonneg h1 h2
theorem smQ_le {f g : Nat → Rat} {n : Nat} (h : ∀ i, i < n → f i ≤ g i) : sm n f ≤ sm n g := by
  have z := smQ_nonneg (f := fun i => g i - f i) (n := n) fun i hi => by have := h i hi; grind
  rw [sm_sub] at z
  grind
theorem smQ_each {f : Nat → Rat} : ∀ {n : Nat}, (∀ i, i < n → 0 ≤ f i) → sm n f = 0 → ∀ i, i < n → f i = 0
  | 0, _, _, i, hi => absurd hi (Nat.not_lt_zero _)
  | n + 1, h, e, i, hi => by
    rw [sm_succ] at e
    have h1 := smQ_nonneg (f := f) (n := n) fun i hi => h i (by omega)
    have h2 := h n (by omega)
    have e1 : sm n f = 0 := by grind
    have e2 : f n = 0 := by grind
    by_cases q : i = n
    · subst q; exact e2
    · exact smQ_each (f := f) (n := n) (fun i hi => h i (by omega)) e1 i (by omega)
theorem smQ_neg_some {f : Nat → Rat} : ∀ {n : Nat}, sm n f < 0 → ∃ k, k < n ∧ f k < 0
  | 0, h => absurd h (by simp [sm])
  | n + 1, h => by
    rw [sm_succ] at h
    by_cases q : f n < 0
    · exact ⟨n, by omega, q⟩
    · obtain ⟨k, h1, h2⟩ := smQ_neg_some (f := f) (n := n) (by grind)
      exact ⟨k, by omega, h2⟩
theorem sm_pick {n m : Nat} {B : Nat → Nat} {w g : Nat → Rat} : sm n (fun j => (sm m fun k => if B k = j then w k else 0) * g j) = sm m (fun k => if B k < n then w k * g (B k) else 0) := by
  have e : sm n (fun j => (sm m fun k => if B k = j then w k else 0) * g j) = sm n (fun j => sm m fun k => (if B k = j then w k else 0) * g j) := sm_congr fun j hj => sm_mulR.symm
  rw [e, sm_comm]
  refine sm_congr fun k hk => ?_
  by_cases q : B k < n
  · rw [if_pos q, sm_one (k := B k) q fun j hj hne => by rw [if_neg (fun z => hne z.symm)]; grind, if_pos rfl]
  · rw [if_neg q, sm_zero fun j hj => by rw [if_neg (by omega)]; grind]
/-! ### a sum of columns, as fractions -/
def Nn (n : Nat) (x : Nat → Rat) : Prop := ∀ j, j < n → 0 ≤ x j
def Rc (n m : Nat) (a : Nat → Nat → Rat) (t : Nat → Rat) (x : Nat → Rat) : Prop := ∀ i, i < m → sm n (fun j => a j i * x j) = t i
def Pr (n m : Nat) (a : Nat → Nat → Rat) (c : Nat → Rat) (y : Nat → Rat) : Prop := ∀ j, j < n → sm m (fun i => y i * a j i) ≤ c j
theorem tr {n m : Nat} {a : Nat → Nat → Rat} {t x : Nat → Rat} (h : Rc n m a t x) (y : Nat → Rat) : sm m (fun i => y i * t i) = sm n (fun j => sm m (fun i => y i * a j i) * x j) := by
  have e : sm m (fun i => y i * t i) = sm m (fun i => sm n (fun j => y i * a j i * x j)) := sm_congr fun i hi => by
    rw [← h i hi, ← sm_mul]
    exact sm_congr fun j hj => by grind
  rw [e, sm_comm]
  exact sm_congr fun j hj => sm_mulR
theorem weak {n m : Nat} {a : Nat → Nat → Rat} {c t x y : Nat → Rat} (hx : Nn n x) (h : Rc n m a t x) (hy : Pr n m a c y) : sm m (fun i => y i * t i) ≤ sm n (fun j => c j * x j) := by
  rw [tr h y]
  exact smQ_le fun j hj => Rat.mul_le_mul_of_nonneg_right (hy j hj) (hx j hj)
theorem barred {n m : Nat} {a : Nat → Nat → Rat} {t x s : Nat → Rat} (hx : Nn n x) (h : Rc n m a t x) (hs : ∀ j, j < n → 0 ≤ sm m (fun i => s i * a j i)) (ht : sm m (fun i => s i * t i) < 0) : False := by
  rw [tr h s] at ht
  have := smQ_nonneg (f := fun j => sm m (fun i => s i * a j i) * x j) (n := n) fun j hj => Rat.mul_nonneg (hs j hj) (hx j hj)
  grind
/-! ### what the table tells -/
structure Sc (n m : Nat) (A : Nat → Nat → Int) (a : Nat → Nat → Rat) (c t : Nat → Rat) (s : Nat → Int) (cs : Int) : Prop where
  col : ∀ j, j < n → ∀ i, i < m → (A j i : Rat) = a j i * s i
  aim : ∀ i, i < m → (A (n + m) i : Rat) = t i * s i
  s0 : ∀ i, i < m → s i ≠ 0
  cost : ∀ j, j < n → (A j m : Rat) = c j * cs
  cs0 : 0 < cs
  unit : ∀ i, i < m → A (n + i) m = 0
section
variable {n m : Nat} {A : Nat → Nat → Int} {S : St} {a : Nat → Nat → Rat} {c t : Nat → Rat} {s : Nat → Int} {cs : Int}
/-- the amounts of the basis -/
def amt (m : Nat) (S : St) (w : Nat → Int) (j : Nat) : Rat := sm m fun k => if S.B k = j then (w k : Rat) / S.d else 0
theorem d_ne (g : Gd n m A S) : ((S.d : Int) : Rat) ≠ 0 := by
  have h : (0 : Rat) < (S.d : Rat) := Rat.intCast_pos.mpr g.dpos
  grind
theorem d_pos (g : Gd n m A S) : (0 : Rat) < ((S.d : Int) : Rat) := Rat.intCast_pos.mpr g.dpos
theorem div_nonneg {x : Int} {d : Int} (hd : 0 < d) (hx : 0 ≤ x) : (0 : Rat) ≤ (x : Rat) / d := by
  have h1 : (0 : Rat) < (d : Rat) := Rat.intCast_pos.mpr hd
  have h2 : (0 : Rat) ≤ (x : Rat) := Rat.intCast_nonneg.mpr hx
  rw [Rat.div_def]
  exact Rat.mul_nonneg h2 (Rat.le_of_lt (Rat.inv_pos.mpr h1))
theorem amt_nn (g : Gd n m A S) {w : Nat → Int} (h : ∀ k, k < m → S.B k < n → 0 ≤ w k) : Nn n (amt m S w) := fun j hj => smQ_nonneg fun k hk => by
  split
  · rename_i e; exact div_nonneg g.dpos (h k hk (by omega))
  · exact Rat.le_refl
/-- a column of the table, as a sum of the basis -/
theorem span_lvl (g : Gd n m A S) {j i : Nat} (hj : j ≤ n + m) (hi : i < m) (h : ∀ k, k < m → n ≤ S.B k → S.R k j = 0) : sm m (fun k => if S.B k < n then S.R k j * A (S.B k) i else 0) = S.d * A j i := by
  rw [← g.span j hj i (by omega), sm_succ, sm_succ]
  have z1 : bv A m S.B m i = 0 := by unfold bv; rw [if_neg (by omega)]; simp; omega
  have z2 : bv A m S.B (m + 1) i = 0 := by unfold bv; rw [if_neg (by omega)]; simp; omega
  rw [z1, z2]
  have z3 : sm m (fun k => if S.B k < n then S.R k j * A (S.B k) i else 0) = sm m (fun k => S.R k j * bv A m S.B k i) := sm_congr fun k hk => by
    unfold bv; rw [if_pos hk]
    split
    · rfl
    · rw [h k hk (by omega)]; grind
  rw [z3]; grind
theorem span_cost (g : Gd n m A S) (hu : ∀ i, i < m → A (n + i) m = 0) {j : Nat} (hj : j ≤ n + m) : sm m (fun k => if S.B k < n then S.R k j * A (S.B k) m else 0) + S.R m j = S.d * A j m := by
  rw [← g.span j hj m (by omega), sm_succ, sm_succ]
  have z1 : bv A m S.B m m = 1 := by unfold bv; rw [if_neg (by omega)]; simp
  have z2 : bv A m S.B (m + 1) m = 0 := by unfold bv; rw [if_neg (by omega)]; simp
  rw [z1, z2]
  have z3 : sm m (fun k => if S.B k < n then S.R k j * A (S.B k) m else 0) = sm m (fun k => S.R k j * bv A m S.B k m) := sm_congr fun k hk => by
    unfold bv; rw [if_pos hk]
    split
    · rfl
    · have hb := g.bB k hk
      have e := hu (S.B k - n) (by omega)
      rw [show n + (S.B k - n) = S.B k by omega] at e
      rw [e]; grind
  rw [z3]; grind
theorem amt_sum (g : Gd n m A S) {w : Nat → Int} {f : Nat → Rat} : sm n (fun j => f j * amt m S w j) = sm m (fun k => if S.B k < n then (w k : Rat) / S.d * f (S.B k) else 0) := by
  have e : sm n (fun j => f j * amt m S w j) = sm n (fun j => (sm m fun k => if S.B k = j then (w k : Rat) / S.d else 0) * f j) := sm_congr fun j hj => by unfold amt; grind
  rw [e]
  exact sm_pick
/-- the levels of the amounts -/
theorem amt_lvl (g : Gd n m A S) (hs : Sc n m A a c t s cs) {j i : Nat} (hj : j ≤ n + m) (hi : i < m) (h : ∀ k, k < m → n ≤ S.B k → S.R k j = 0) :
    sm n (fun l => a l i * amt m S (fun k => S.R k j) l) * (s i : Rat) = (A j i : Rat) := by
  rw [amt_sum g, ← sm_mulR]
  have e : sm m (fun k => (if S.B k < n then ((S.R k j : Int) : Rat) / S.d * a (S.B k) i else 0) * (s i : Rat)) = sm m (fun k => (((if S.B k < n then S.R k j * A (S.B k) i else 0 : Int)) : Rat) * ((S.d : Int) : Rat)⁻¹) := sm_congr fun k hk => by
    split
    · rename_i q
      rw [Rat.intCast_mul, hs.col _ q i hi, Rat.div_def]; grind
    · simp
  rw [e, sm_mulR, ← sm_cast, span_lvl g hj hi h, Rat.intCast_mul]
  have := d_ne g
  grind
theorem amt_cost (g : Gd n m A S) (hs : Sc n m A a c t s cs) {j : Nat} (hj : j ≤ n + m) :
    sm n (fun l => c l * amt m S (fun k => S.R k j) l) * (cs : Rat) = (A j m : Rat) - (S.R m j : Rat) / S.d := by
  rw [amt_sum g, ← sm_mulR]
  have e : sm m (fun k => (if S.B k < n then ((S.R k j : Int) : Rat) / S.d * c (S.B k) else 0) * (cs : Rat)) = sm m (fun k => (((if S.B k < n then S.R k j * A (S.B k) m else 0 : Int)) : Rat) * ((S.d : Int) : Rat)⁻¹) := sm_congr fun k hk => by
    split
    · rename_i q
      rw [Rat.intCast_mul, hs.cost _ q, Rat.div_def]; grind
    · simp
  have z := span_cost g hs.unit hj
  have z2 : ((sm m (fun k => if S.B k < n then S.R k j * A (S.B k) m else 0) : Int) : Rat) + (S.R m j : Rat) = S.d * (A j m : Rat) := by
    rw [← Rat.intCast_mul, ← z, Rat.intCast_add]
  rw [e, sm_mulR, ← sm_cast, Rat.div_def]
  have := d_ne g
  grind
theorem s_ne (hs : Sc n m A a c t s cs) {i : Nat} (hi : i < m) : ((s i : Int) : Rat) ≠ 0 := fun z => hs.s0 i hi (Rat.intCast_inj.mp (by rw [z]; rfl))
theorem cs_pos (hs : Sc n m A a c t s cs) : (0 : Rat) < ((cs : Int) : Rat) := Rat.intCast_pos.mpr hs.cs0
/-- the amounts reach the target -/
theorem amt_reach (g : Gd n m A S) (hs : Sc n m A a c t s cs) (h : ∀ k, k < m → n ≤ S.B k → S.R k (n + m) = 0) : Rc n m a t (amt m S fun k => S.R k (n + m)) := fun i hi => by
  have z := amt_lvl g hs (Nat.le_refl (n + m)) hi h
  rw [hs.aim i hi] at z
  have := s_ne hs hi
  grind
/-- the prices -/
def prc (n m : Nat) (S : St) (s : Nat → Int) (cs : Int) (i : Nat) : Rat := (((- S.R m (n + i)) * s i : Int) : Rat) / ((S.d * cs : Int) : Rat)
theorem prc_sum (g : Gd n m A S) (hs : Sc n m A a c t s cs) (L : Lp n m A) {f : Nat → Rat} {j : Nat} (hj : j ≤ n + m) (hf : ∀ i, i < m → (A j i : Rat) = f i * s i) :
    sm m (fun i => prc n m S s cs i * f i) * cs = (A j m : Rat) - (S.R m j : Rat) / S.d := by
  have z := g.units L (k := m) (by omega) hj
  rw [if_pos rfl, if_neg (by omega)] at z
  have z2 : ((S.R m j : Int) : Rat) = sm m (fun i => (A j i : Rat) * (S.R m (n + i) : Rat)) + S.d * (A j m : Rat) := by
    rw [z, Rat.intCast_add, Rat.intCast_add, Rat.intCast_mul, sm_cast]
    have : sm m (fun i => ((A j i * S.R m (n + i) : Int) : Rat)) = sm m (fun i => (A j i : Rat) * (S.R m (n + i) : Rat)) := sm_congr fun i hi => Rat.intCast_mul _ _
    rw [this]
    simp
    grind
  have dn := d_ne g
  have cp := cs_pos hs
  have cn : (cs : Rat) ≠ 0 := by grind
  have e : sm m (fun i => prc n m S s cs i * f i) = sm m (fun i => ((A j i : Rat) * (S.R m (n + i) : Rat)) * (-(((S.d : Int) : Rat)⁻¹ * (cs : Rat)⁻¹))) := sm_congr fun i hi => by
    unfold prc
    rw [hf i hi, Rat.div_def, Rat.intCast_mul, Rat.intCast_mul, Rat.intCast_neg, Rat.inv_mul_rev]
    grind
  rw [e, sm_mulR, Rat.div_def, z2]
  grind
/-- least: the prices are right -/
theorem prc_ok (g : Gd n m A S) (hs : Sc n m A a c t s cs) (L : Lp n m A) (h : ∀ j, j < n → 0 ≤ S.R m j) : Pr n m a c (prc n m S s cs) := fun j hj => by
  have z := prc_sum g hs L (show j ≤ n + m by omega) fun i hi => hs.col j hj i hi
  have z2 := div_nonneg g.dpos (h j hj)
  have cp := cs_pos hs
  rw [hs.cost j hj] at z
  refine Rat.le_of_mul_le_mul_right (c := (cs : Rat)) ?_ cp
  rw [z]
  grind
theorem prc_cost (g : Gd n m A S) (hs : Sc n m A a c t s cs) (L : Lp n m A) : sm m (fun i => prc n m S s cs i * t i) = sm n (fun j => c j * amt m S (fun k => S.R k (n + m)) j) := by
  have z := prc_sum g hs L (Nat.le_refl (n + m)) fun i hi => hs.aim i hi
  have z2 := amt_cost g hs (Nat.le_refl (n + m))
  have cp := cs_pos hs
  have cn : (cs : Rat) ≠ 0 := by grind
  have e : sm m (fun i => prc n m S s cs i * t i) * (cs : Rat) = sm n (fun j => c j * amt m S (fun k => S.R k (n + m)) j) * cs := by rw [z, z2]
  grind
/-- none: the slope bars -/
def slp (n m : Nat) (S : St) (s : Nat → Int) (i : Nat) : Rat := (((S.R (m + 1) (n + i) - S.d) * s i : Int) : Rat) / ((S.d : Int) : Rat)
theorem slp_sum (g : Gd n m A S) (L : Lp n m A) {f : Nat → Rat} {j : Nat} (hj : j < n ∨ j = n + m) (hf : ∀ i, i < m → (A j i : Rat) = f i * s i) :
    sm m (fun i => slp n m S s i * f i) = (S.R (m + 1) j : Rat) / S.d := by
  have hj2 : j ≤ n + m := by omega
  have z := g.units L (k := m + 1) (by omega) hj2
  rw [if_neg (by omega), if_pos rfl, L.hg j hj] at z
  have z2 : ((S.R (m + 1) j : Int) : Rat) = sm m (fun i => (A j i : Rat) * (S.R (m + 1) (n + i) : Rat)) - S.d * sm m (fun i => (A j i : Rat)) := by
    have e0 : S.R (m + 1) j = sm m (fun i => A j i * S.R (m + 1) (n + i)) - S.d * sm m (fun i => A j i) := by rw [z]; grind
    rw [e0, Rat.intCast_sub, Rat.intCast_mul, sm_cast, sm_cast]
    have : sm m (fun i => ((A j i * S.R (m + 1) (n + i) : Int) : Rat)) = sm m (fun i => (A j i : Rat) * (S.R (m + 1) (n + i) : Rat)) := sm_congr fun i hi => Rat.intCast_mul _ _
    rw [this]
  have dn := d_ne g
  have e : sm m (fun i => slp n m S s i * f i) = sm m (fun i => ((A j i : Rat) * (S.R (m + 1) (n + i) : Rat) - S.d * (A j i : Rat)) * ((S.d : Int) : Rat)⁻¹) := sm_congr fun i hi => by
    unfold slp
    rw [hf i hi, Rat.div_def, Rat.intCast_mul, Rat.intCast_sub]
    grind
  rw [e, sm_mulR, sm_sub, sm_mul, Rat.div_def, z2]
theorem slp_ok (g : Gd n m A S) (hs : Sc n m A a c t s cs) (L : Lp n m A) (F : Feas n m S) (h : ∀ j, j < n → 0 ≤ S.R (m + 1) j) (h0 : S.R (m + 1) (n + m) ≠ 0) :
    (∀ j, j < n → 0 ≤ sm m (fun i => slp n m S s i * a j i)) ∧ sm m (fun i => slp n m S s i * t i) < 0 := by
  constructor
  · intro j hj
    rw [slp_sum g L (.inl hj) fun i hi => hs.col j hj i hi]
    exact div_nonneg g.dpos (h j hj)
  · rw [slp_sum g L (.inr rfl) fun i hi => hs.aim i hi]
    have z := gap_le g L F
    have dp := d_pos g
    have : ((S.R (m + 1) (n + m) : Int) : Rat) < 0 := by
      have : S.R (m + 1) (n + m) < 0 := by omega
      exact Rat.intCast_lt_intCast.mpr this
    rw [Rat.div_lt_iff dp]
    grind
/-- endless: what helps for ever -/
def mor (m : Nat) (S : St) (e : Nat) (j : Nat) : Rat := if j = e then 1 else amt m S (fun k => - S.R k e) j
theorem mor_eq (g : Gd n m A S) {e : Nat} (he : e < n) (hb : ∀ k, k < m → S.B k ≠ e) {f : Nat → Rat} : sm n (fun j => f j * mor m S e j) = f e - sm n (fun j => f j * amt m S (fun k => S.R k e) j) := by
  have z0 : amt m S (fun k => S.R k e) e = 0 := sm_zero fun k hk => if_neg (hb k hk)
  have e1 : ∀ j, amt m S (fun k => - S.R k e) j = - amt m S (fun k => S.R k e) j := fun j => by
    unfold amt
    rw [← sm_neg]
    refine sm_congr fun k hk => ?_
    split
    · rw [Rat.intCast_neg, Rat.div_def, Rat.div_def]; grind
    · grind
  have e2 : sm n (fun j => f j * mor m S e j) = sm n (fun j => (if j = e then f e else 0) - f j * amt m S (fun k => S.R k e) j) := sm_congr fun j hj => by
    unfold mor
    by_cases q : j = e
    · subst q; rw [if_pos rfl, if_pos rfl, z0]; grind
    · rw [if_neg q, if_neg q, e1]; grind
  rw [e2, sm_sub, sm_one (k := e) he fun i hi hne => if_neg hne, if_pos rfl]
theorem mor_ok (g : Gd n m A S) (hs : Sc n m A a c t s cs) (Q : Art n m S) {e : Nat} (he : e < n) (hneg : S.R m e < 0) (h : ∀ k, k < m → S.R k e ≤ 0) :
    Nn n (mor m S e) ∧ Rc n m a (fun _ => 0) (mor m S e) ∧ sm n (fun j => c j * mor m S e j) < 0 := by
  have hb : ∀ k, k < m → S.B k ≠ e := fun k hk z => by
    have h1 := g.basic (k := m) (l := k) (by omega) hk
    rw [if_neg (by omega), z] at h1
    omega
  refine ⟨fun j hj => ?_, fun i hi => ?_, ?_⟩
  · unfold mor
    split
    · decide
    · exact amt_nn g (fun k hk _ => by have := h k hk; show 0 ≤ - S.R k e; omega) j hj
  · rw [mor_eq (f := fun j => a j i) g he hb]
    have z := amt_lvl g hs (show e ≤ n + m by omega) hi fun k hk hbk => (Q k hk hbk).1 e he
    rw [hs.col e he i hi] at z
    have := s_ne hs hi
    grind
  · rw [mor_eq (f := c) g he hb]
    have z := amt_cost g hs (show e ≤ n + m by omega)
    rw [hs.cost e he] at z
    have cp := cs_pos hs
    have dp := d_pos g
    have q : ((S.R m e : Int) : Rat) / S.d < 0 := by
      rw [Rat.div_lt_iff dp]
      have : ((S.R m e : Int) : Rat) < 0 := Rat.intCast_lt_intCast.mpr hneg
      grind
    refine Rat.lt_of_mul_lt_mul_right (c := (cs : Rat)) ?_ (Rat.le_of_lt cp)
    grind
end
end Mx
namespace Mx
/-! ### three answers -/
section
variable {n m : Nat} {a : Nat → Nat → Rat} {c t : Nat → Rat}
structure IsLeast (n m : Nat) (a : Nat → Nat → Rat) (c t : Nat → Rat) (x y : Nat → Rat) : Prop where
  nn : Nn n x
  rc : Rc n m a t x
  pr : Pr n m a c y
  eq : sm m (fun i => y i * t i) = sm n (fun j => c j * x j)
structure IsNone (n m : Nat) (a : Nat → Nat → Rat) (t : Nat → Rat) (s : Nat → Rat) : Prop where
  up : ∀ j, j < n → 0 ≤ sm m (fun i => s i * a j i)
  dn : sm m (fun i => s i * t i) < 0
structure IsEndless (n m : Nat) (a : Nat → Nat → Rat) (c t : Nat → Rat) (x z : Nat → Rat) : Prop where
  nn : Nn n x
  rc : Rc n m a t x
  nz : Nn n z
  rz : Rc n m a (fun _ => 0) z
  lt : sm n (fun j => c j * z j) < 0
theorem IsLeast.le {x y x' : Nat → Rat} (h : IsLeast n m a c t x y) (h1 : Nn n x') (h2 : Rc n m a t x') : sm n (fun j => c j * x j) ≤ sm n (fun j => c j * x' j) := by
  rw [← h.eq]; exact weak h1 h2 h.pr
theorem IsNone.no {s x : Nat → Rat} (h : IsNone n m a t s) (h1 : Nn n x) (h2 : Rc n m a t x) : False := barred h1 h2 h.up h.dn
/-! ### the sum turned about -/
def ta (m : Nat) (a : Nat → Nat → Rat) (l j : Nat) : Rat := if l < m then a j l else if l < m + m then - a j (l - m) else if l - (m + m) = j then 1 else 0
def tc (m : Nat) (t : Nat → Rat) (l : Nat) : Rat := if l < m then - t l else if l < m + m then t (l - m) else 0
theorem sm_turn {f : Nat → Rat} : sm (m + m + n) f = sm m f + sm m (fun i => f (m + i)) + sm n (fun k => f (m + m + k)) := by
  rw [sm_split, sm_split]
/-- what turned amounts are as prices -/
def dif (m : Nat) (w : Nat → Rat) (i : Nat) : Rat := w i - w (m + i)
theorem turn_lvl {w : Nat → Rat} {j : Nat} (hj : j < n) : sm (m + m + n) (fun l => ta m a l j * w l) = sm m (fun i => dif m w i * a j i) + w (m + m + j) := by
  rw [sm_turn]
  have e1 : sm m (fun i => ta m a i j * w i) = sm m (fun i => a j i * w i) := sm_congr fun i hi => by unfold ta; rw [if_pos hi]
  have e2 : sm m (fun i => ta m a (m + i) j * w (m + i)) = sm m (fun i => - (a j i * w (m + i))) := sm_congr fun i hi => by
    unfold ta; rw [if_neg (by omega), if_pos (by omega), show m + i - m = i by omega]; grind
  have e3 : sm n (fun k => ta m a (m + m + k) j * w (m + m + k)) = w (m + m + j) := by
    rw [sm_one (k := j) hj fun k hk hne => by
      unfold ta; rw [if_neg (by omega), if_neg (by omega), if_neg (by omega)]; grind]
    unfold ta; rw [if_neg (by omega), if_neg (by omega), if_pos (by omega)]; grind
  rw [e1, e2, e3, sm_neg]
  have e4 : sm m (fun i => dif m w i * a j i) = sm m (fun i => a j i * w i) - sm m (fun i => a j i * w (m + i)) := by
    rw [← sm_sub]; exact sm_congr fun i hi => by unfold dif; grind
  rw [e4]; grind
theorem turn_cost {w : Nat → Rat} : sm (m + m + n) (fun l => tc m t l * w l) = - sm m (fun i => dif m w i * t i) := by
  rw [sm_turn]
  have e1 : sm m (fun i => tc m t i * w i) = sm m (fun i => - (t i * w i)) := sm_congr fun i hi => by unfold tc; rw [if_pos hi]; grind
  have e2 : sm m (fun i => tc m t (m + i) * w (m + i)) = sm m (fun i => t i * w (m + i)) := sm_congr fun i hi => by
    unfold tc; rw [if_neg (by omega), if_pos (by omega), show m + i - m = i by omega]
  have e3 : sm n (fun k => tc m t (m + m + k) * w (m + m + k)) = 0 := sm_zero fun k hk => by
    unfold tc; rw [if_neg (by omega), if_neg (by omega)]; grind
  have e4 : sm m (fun i => dif m w i * t i) = sm m (fun i => t i * w i) - sm m (fun i => t i * w (m + i)) := by
    rw [← sm_sub]; exact sm_congr fun i hi => by unfold dif; grind
  rw [e1, e2, e3, e4, sm_neg]; grind
/-- turned amounts from 0 on that reach b: prices below b -/
theorem turn_pr {w b : Nat → Rat} (h1 : Nn (m + m + n) w) (h2 : Rc (m + m + n) n (ta m a) b w) : Pr n m a b (dif m w) := fun j hj => by
  have z := h2 j hj
  rw [turn_lvl hj] at z
  have := h1 (m + m + j) (by omega)
  grind
/-- prices as turned amounts -/
def spl (n m : Nat) (a : Nat → Nat → Rat) (c y : Nat → Rat) (l : Nat) : Rat := if l < m then (if y l < 0 then 0 else y l) else if l < m + m then (if y (l - m) < 0 then - y (l - m) else 0) else c (l - (m + m)) - sm m (fun i => y i * a (l - (m + m)) i)
theorem spl_dif {y : Nat → Rat} {i : Nat} (hi : i < m) : dif m (spl n m a c y) i = y i := by
  unfold dif spl
  rw [if_pos hi, if_neg (show ¬ m + i < m by omega), if_pos (show m + i < m + m by omega), show m + i - m = i by omega]
  split <;> grind
theorem spl_nn {y : Nat → Rat} (h : Pr n m a c y) : Nn (m + m + n) (spl n m a c y) := fun l hl => by
  unfold spl
  split
  · split
    · exact Rat.le_refl
    · grind
  · split
    · split
      · grind
      · exact Rat.le_refl
    · have := h (l - (m + m)) (by omega)
      grind
theorem spl_rc {y : Nat → Rat} : Rc (m + m + n) n (ta m a) c (spl n m a c y) := fun j hj => by
  rw [turn_lvl hj]
  have e : sm m (fun i => dif m (spl n m a c y) i * a j i) = sm m (fun i => y i * a j i) := sm_congr fun i hi => by rw [spl_dif hi]
  rw [e]
  unfold spl
  rw [if_neg (by omega), if_neg (by omega), show m + m + j - (m + m) = j by omega]
  grind
theorem spl_cost {y : Nat → Rat} : sm (m + m + n) (fun l => tc m t l * spl n m a c y l) = - sm m (fun i => y i * t i) := by
  rw [turn_cost]
  have e : sm m (fun i => dif m (spl n m a c y) i * t i) = sm m (fun i => y i * t i) := sm_congr fun i hi => by rw [spl_dif hi]
  rw [e]
theorem turned_least {x y w u : Nat → Rat} (h : IsLeast n m a c t x y) (o : IsLeast (m + m + n) n (ta m a) (tc m t) c w u) : sm (m + m + n) (fun l => tc m t l * w l) = - sm n (fun j => c j * x j) := by
  have h1 := o.le (spl_nn h.pr) spl_rc
  rw [spl_cost, h.eq] at h1
  have h2 := weak h.nn h.rc (turn_pr o.nn o.rc)
  rw [turn_cost] at h1 ⊢
  grind
theorem turned_not_none {x y s : Nat → Rat} (h : IsLeast n m a c t x y) (o : IsNone (m + m + n) n (ta m a) c s) : False := o.no (spl_nn h.pr) spl_rc
theorem turned_not_endless {x y w z : Nat → Rat} (h : IsLeast n m a c t x y) (o : IsEndless (m + m + n) n (ta m a) (tc m t) c w z) : False := by
  have h1 := weak h.nn h.rc (turn_pr (b := fun _ => 0) o.nz o.rz)
  have h2 := o.lt
  rw [turn_cost] at h2
  have e : sm n (fun j => (0 : Rat) * x j) = 0 := sm_zero fun j hj => by grind
  rw [e] at h1
  grind
/-- a least turned sum: amounts there are -/
theorem turned_back {w u : Nat → Rat} (o : IsLeast (m + m + n) n (ta m a) (tc m t) c w u) : Nn n (fun j => - u j) ∧ Rc n m a t (fun j => - u j) := by
  constructor
  · intro k hk
    have z := o.pr (m + m + k) (by omega)
    have e : sm n (fun j => u j * ta m a (m + m + k) j) = u k := by
      rw [sm_one (k := k) hk fun j hj hne => by
        unfold ta; rw [if_neg (by omega), if_neg (by omega), if_neg (by omega)]; grind]
      unfold ta; rw [if_neg (by omega), if_neg (by omega), if_pos (by omega)]; grind
    rw [e] at z
    unfold tc at z
    rw [if_neg (by omega), if_neg (by omega)] at z
    show 0 ≤ - u k
    grind
  · intro i hi
    have z1 := o.pr i (by omega)
    have z2 := o.pr (m + i) (by omega)
    have e1 : sm n (fun j => u j * ta m a i j) = sm n (fun j => u j * a j i) := sm_congr fun j hj => by unfold ta; rw [if_pos hi]
    have e2 : sm n (fun j => u j * ta m a (m + i) j) = sm n (fun j => - (u j * a j i)) := sm_congr fun j hj => by
      unfold ta; rw [if_neg (by omega), if_pos (by omega), show m + i - m = i by omega]; grind
    rw [e1] at z1
    rw [e2, sm_neg] at z2
    unfold tc at z1 z2
    rw [if_pos hi] at z1
    rw [if_neg (by omega), if_pos (by omega), show m + i - m = i by omega] at z2
    have e3 : sm n (fun j => a j i * - u j) = - sm n (fun j => u j * a j i) := by
      rw [← sm_neg]; exact sm_congr fun j hj => by grind
    rw [e3]; grind
theorem none_turned {s w u : Nat → Rat} (h : IsNone n m a t s) (o : IsLeast (m + m + n) n (ta m a) (tc m t) c w u) : False :=
  h.no (turned_back o).1 (turned_back o).2
/-- an endless sum bars its turned one -/
theorem endless_turned {x z w : Nat → Rat} (h : IsEndless n m a c t x z) (h1 : Nn (m + m + n) w) (h2 : Rc (m + m + n) n (ta m a) c w) : False := by
  have p := weak h.nz h.rz (turn_pr h1 h2)
  have e : sm m (fun i => dif m w i * (0 : Rat)) = 0 := sm_zero fun i hi => by grind
  rw [e] at p
  have := h.lt
  grind
end
end Mx
namespace Mx
/-! ### fewer columns -/
def cnt (x : Nat → Rat) : Nat → Nat
  | 0 => 0
  | n + 1 => cnt x n + if x n = 0 then 0 else 1
theorem cnt_le {x y : Nat → Rat} : ∀ {n : Nat}, (∀ j, j < n → x j = 0 → y j = 0) → cnt y n ≤ cnt x n
  | 0, _ => Nat.le_refl _
  | n + 1, h => by
    have h1 := cnt_le (x := x) (y := y) (n := n) fun j hj => h j (by omega)
    have h2 := h n (by omega)
    show cnt y n + _ ≤ cnt x n + _
    by_cases q : x n = 0
    · rw [if_pos q, if_pos (h2 q)]; exact h1
    · rw [if_neg q]
      split <;> omega
theorem cnt_lt {x y : Nat → Rat} {k : Nat} : ∀ {n : Nat}, (∀ j, j < n → x j = 0 → y j = 0) → k < n → x k ≠ 0 → y k = 0 → cnt y n < cnt x n
  | 0, _, h, _, _ => absurd h (Nat.not_lt_zero _)
  | n + 1, h, hk, h1, h2 => by
    have h3 := h n (by omega)
    show cnt y n + _ < cnt x n + _
    by_cases e : k = n
    · subst e
      have h4 := cnt_le (x := x) (y := y) (n := k) fun j hj => h j (by omega)
      rw [if_pos h2, if_neg h1]; omega
    · have h4 := cnt_lt (x := x) (y := y) (n := n) (fun j hj => h j (by omega)) (by omega) h1 h2
      by_cases q : x n = 0
      · rw [if_pos q, if_pos (h3 q)]; exact h4
      · rw [if_neg q]
        split <;> omega
theorem argmin {p : Nat → Prop} {f : Nat → Rat} : ∀ {n : Nat}, (∃ j, j < n ∧ p j) → ∃ j, j < n ∧ p j ∧ ∀ k, k < n → p k → f j ≤ f k
  | 0, ⟨j, h, _⟩ => absurd h (Nat.not_lt_zero _)
  | n + 1, ⟨j, hj, hp⟩ => by
    by_cases e : ∃ j, j < n ∧ p j
    · obtain ⟨j0, h1, h2, h3⟩ := argmin (f := f) e
      by_cases q : p n ∧ f n < f j0
      · refine ⟨n, by omega, q.1, fun k hk hpk => ?_⟩
        by_cases z : k = n
        · subst z; exact Rat.le_refl
        · have := h3 k (by omega) hpk
          have := q.2
          grind
      · refine ⟨j0, by omega, h2, fun k hk hpk => ?_⟩
        by_cases z : k = n
        · subst z
          have : ¬ f k < f j0 := fun w => q ⟨hpk, w⟩
          grind
        · exact h3 k (by omega) hpk
    · have ej : j = n := by
        refine Classical.byContradiction fun z => e ⟨j, by omega, hp⟩
      subst ej
      refine ⟨j, by omega, hp, fun k hk hpk => ?_⟩
      by_cases z : k = j
      · subst z; exact Rat.le_refl
      · exact absurd ⟨k, by omega, hpk⟩ e
section
variable {n m : Nat} {a : Nat → Nat → Rat} {t : Nat → Rat}
/-- the columns that x uses are not to be brought to nought otherwise than by noughts -/
def Uq (n m : Nat) (a : Nat → Nat → Rat) (x : Nat → Rat) : Prop := ∀ z : Nat → Rat, (∀ j, j < n → x j = 0 → z j = 0) → Rc n m a (fun _ => 0) z → ∀ j, j < n → z j = 0
/-- l: a level at which all columns have 1 -/
theorem fewer {l : Nat} (hl : l < m) (ha : ∀ j, j < n → a j l = 1) (c : Nat → Rat) : ∀ (N : Nat) (x : Nat → Rat), cnt x n ≤ N → Nn n x → Rc n m a t x →
    ∃ x', Nn n x' ∧ Rc n m a t x' ∧ Uq n m a x' ∧ sm n (fun j => c j * x' j) ≤ sm n (fun j => c j * x j) := by
  intro N
  induction N with
  | zero =>
    intro x hc h1 h2
    refine ⟨x, h1, h2, fun z hz _ j hj => hz j hj ?_, Rat.le_refl⟩
    refine Classical.byContradiction fun hx => ?_
    have := cnt_lt (x := x) (y := fun _ => 0) (n := n) (fun _ _ _ => rfl) hj hx rfl
    omega
  | succ N ih =>
    intro x hc h1 h2
    by_cases u : Uq n m a x
    · exact ⟨x, h1, h2, u, Rat.le_refl⟩
    · -- a z that is not nought, with a cost not above 0
      have hz : ∃ z : Nat → Rat, (∀ j, j < n → x j = 0 → z j = 0) ∧ Rc n m a (fun _ => 0) z ∧ (∃ j, j < n ∧ z j ≠ 0) ∧ sm n (fun j => c j * z j) ≤ 0 := by
        refine Classical.byContradiction fun hno => u fun z hz hr j hj => Classical.byContradiction fun hne => ?_
        by_cases q : sm n (fun j => c j * z j) ≤ 0
        · exact hno ⟨z, hz, hr, ⟨j, hj, hne⟩, q⟩
        · refine hno ⟨fun j => - z j, fun j hj h0 => by show - z j = 0; rw [hz j hj h0]; decide, fun i hi => ?_, ⟨j, hj, by grind⟩, ?_⟩
          · have e : sm n (fun j => a j i * - z j) = - sm n (fun j => a j i * z j) := by
              rw [← sm_neg]; exact sm_congr fun j hj => by grind
            show sm n (fun j => a j i * - z j) = 0
            have h5 : sm n (fun j => a j i * z j) = 0 := hr i hi
            rw [e, h5]; decide
          · have e : sm n (fun j => c j * - z j) = - sm n (fun j => c j * z j) := by
              rw [← sm_neg]; exact sm_congr fun j hj => by grind
            rw [e]; grind
      obtain ⟨z, hz0, hzr, ⟨j1, hj1, hne⟩, hzc⟩ := hz
      have hsum : sm n z = 0 := by
        have h5 : sm n (fun j => a j l * z j) = 0 := hzr l hl
        rw [← h5]
        exact sm_congr fun j hj => by rw [ha j hj]; grind
      have hneg : ∃ j, j < n ∧ z j < 0 := by
        refine Classical.byContradiction fun hno => hne ?_
        exact smQ_each (f := z) (n := n) (fun i hi => by
          have : ¬ z i < 0 := fun w => hno ⟨i, hi, w⟩
          grind) hsum j1 hj1
      obtain ⟨j0, hj0, hz1, hmin⟩ := argmin (p := fun j => z j < 0) (f := fun j => x j / - z j) hneg
      have hp0 : (0 : Rat) < - z j0 := by grind
      have hlam : 0 ≤ x j0 / - z j0 := by
        rw [Rat.div_def]
        exact Rat.mul_nonneg (h1 j0 hj0) (Rat.le_of_lt (Rat.inv_pos.mpr hp0))
      generalize hL : x j0 / - z j0 = lam at hmin hlam
      have hlz : lam * - z j0 = x j0 := by rw [← hL]; exact Rat.div_mul_cancel (by grind)
      have hx' : Nn n (fun j => x j + lam * z j) := fun j hj => by
        show 0 ≤ x j + lam * z j
        by_cases q : z j < 0
        · have h3 := hmin j hj q
          have hp : (0 : Rat) < - z j := by grind
          have h4 : lam * - z j ≤ x j / - z j * - z j := Rat.mul_le_mul_of_nonneg_right h3 (Rat.le_of_lt hp)
          rw [Rat.div_mul_cancel (show - z j ≠ 0 by grind)] at h4
          grind
        · have h3 := h1 j hj
          have h4 : 0 ≤ lam * z j := Rat.mul_nonneg hlam (by grind)
          grind
      have hr' : Rc n m a t (fun j => x j + lam * z j) := fun i hi => by
        have e : sm n (fun j => a j i * (x j + lam * z j)) = sm n (fun j => a j i * x j) + lam * sm n (fun j => a j i * z j) := by
          rw [← sm_mul, ← sm_add]; exact sm_congr fun j hj => by grind
        rw [e, h2 i hi, hzr i hi]; grind
      have hcst : sm n (fun j => c j * (x j + lam * z j)) ≤ sm n (fun j => c j * x j) := by
        have e : sm n (fun j => c j * (x j + lam * z j)) = sm n (fun j => c j * x j) + lam * sm n (fun j => c j * z j) := by
          rw [← sm_mul, ← sm_add]; exact sm_congr fun j hj => by grind
        have h3 : lam * sm n (fun j => c j * z j) ≤ lam * 0 := Rat.mul_le_mul_of_nonneg_left hzc hlam
        rw [e]; grind
      have hcnt : cnt (fun j => x j + lam * z j) n < cnt x n := by
        refine cnt_lt (k := j0) (fun j hj h0 => ?_) hj0 (fun h0 => ?_) ?_
        · show x j + lam * z j = 0
          rw [h0, hz0 j hj h0]; grind
        · have := hz0 j0 hj0 h0
          grind
        · show x j0 + lam * z j0 = 0
          grind
      obtain ⟨x', a1, a2, a3, a4⟩ := ih (fun j => x j + lam * z j) (by omega) hx' hr'
      exact ⟨x', a1, a2, a3, Rat.le_trans a4 hcst⟩
end
/-! ### the rank of rows of which one sum alone is nought -/
def vF (v : List Rat) (i : Nat) : Rat := v.getD i 0
def Dep (L : Nat) (us : List (List Rat)) (z : Nat → Rat) : Prop := ∀ i, i < L → sm us.length (fun p => z p * vF (us.getD p []) i) = 0
structure Ker1 (L : Nat) (us : List (List Rat)) : Prop where
  some_ : ∃ z, Dep L us z ∧ ∃ p, p < us.length ∧ z p ≠ 0
  one : ∀ z w, Dep L us z → Dep L us w → ∀ p q, p < us.length → q < us.length → z p * w q = z q * w p
theorem sm_skip {α : Type} [Lean.Grind.CommRing α] {f : Nat → α} {p : Nat} : ∀ {n : Nat}, p ≤ n → sm (n + 1) f = f p + sm n (skip p f)
  | 0, h => by
    have : p = 0 := by omega
    subst this
    simp only [sm]; grind
  | n + 1, h => by
    by_cases e : p = n + 1
    · subst e
      rw [sm_succ]
      have : sm (n + 1) (skip (n + 1) f) = sm (n + 1) f := sm_congr fun i hi => by unfold skip; rw [if_pos hi]
      rw [this]; grind
    · rw [sm_succ, sm_skip (p := p) (n := n) (by omega), sm_succ]
      have : skip p f n = f (n + 1) := by unfold skip; rw [if_neg (by omega)]
      rw [this]; grind
def without (k : Nat) (lead row : List Rat) : List Rat := List.zipWith (fun x y => x - vF row k / vF lead k * y) row lead
theorem vF_zip {f : Rat → Rat → Rat} (h0 : f 0 0 = 0) {xs ys : List Rat} {i L : Nat} (h1 : xs.length = L) (h2 : ys.length = L) : vF (List.zipWith f xs ys) i = if i < L then f (vF xs i) (vF ys i) else 0 := by
  unfold vF
  by_cases q : i < L
  · rw [if_pos q]
    simp [List.getD_eq_getElem?_getD, List.getElem?_zipWith, List.getElem?_eq_getElem (show i < xs.length by omega), List.getElem?_eq_getElem (show i < ys.length by omega)]
  · rw [if_neg q]
    simp [List.getD_eq_getElem?_getD, List.getElem?_zipWith, List.getElem?_eq_none (show xs.length ≤ i by omega)]
theorem without_at {k i L : Nat} {lead row : List Rat} (h1 : row.length = L) (h2 : lead.length = L) (hi : i < L) : vF (without k lead row) i = vF row i - vF row k / vF lead k * vF lead i := by
  unfold without
  rw [vF_zip (L := L) (by grind) h1 h2, if_pos hi]
theorem without_len {k L : Nat} {lead row : List Rat} (h1 : row.length = L) (h2 : lead.length = L) : (without k lead row).length = L := by
  unfold without; rw [List.length_zipWith]; omega
theorem getD_erase {us : List (List Rat)} {p0 p : Nat} : (us.eraseIdx p0).getD p [] = skip p0 (fun p => us.getD p []) p := by
  unfold skip
  simp only [List.getD_eq_getElem?_getD, List.getElem?_eraseIdx]
  split <;> rfl
theorem ker_step {L k p0 : Nat} {us : List (List Rat)} (K : Ker1 L us) (hlen : ∀ u ∈ us, u.length = L) (hk : k < L) (hp0 : p0 < us.length) (hlead : vF (us.getD p0 []) k ≠ 0) :
    Ker1 L ((us.eraseIdx p0).map (without k (us.getD p0 []))) := by
  have hll : (us.getD p0 []).length = L := by
    rw [List.getD_eq_getElem?_getD, List.getElem?_eq_getElem hp0]
    exact hlen _ (List.getElem_mem hp0)
  have le : (us.eraseIdx p0).length + 1 = us.length := by rw [List.length_eraseIdx_of_lt hp0]; omega
  generalize hlv : us.getD p0 [] = lead at hlead hll
  have hln : ((us.eraseIdx p0).map (without k lead)).length = (us.eraseIdx p0).length := List.length_map _
  have at_ : ∀ p, p < (us.eraseIdx p0).length → ∀ i, i < L → vF (((us.eraseIdx p0).map (without k lead)).getD p []) i = vF (skip p0 (fun p => us.getD p []) p) i - vF (skip p0 (fun p => us.getD p []) p) k / vF lead k * vF lead i := fun p hp i hi => by
    have e : ((us.eraseIdx p0).map (without k lead)).getD p [] = without k lead ((us.eraseIdx p0).getD p []) := by
      simp only [List.getD_eq_getElem?_getD, List.getElem?_map, List.getElem?_eq_getElem hp, Option.map_some, Option.getD_some]
    have hm : ((us.eraseIdx p0).getD p []).length = L := by
      rw [List.getD_eq_getElem?_getD, List.getElem?_eq_getElem hp]
      exact hlen _ (List.mem_of_mem_eraseIdx (List.getElem_mem hp))
    rw [e, without_at hm hll hi, getD_erase]
  -- sums over us and over the others
  have split : ∀ (z : Nat → Rat) (i : Nat), sm us.length (fun p => z p * vF (us.getD p []) i) = z p0 * vF lead i + sm (us.eraseIdx p0).length (fun p => skip p0 z p * vF (skip p0 (fun p => us.getD p []) p) i) := fun z i => by
    rw [← le, sm_skip (p := p0) (by omega), hlv]
    have : sm (us.eraseIdx p0).length (skip p0 fun p => z p * vF (us.getD p []) i) = sm (us.eraseIdx p0).length (fun p => skip p0 z p * vF (skip p0 (fun p => us.getD p []) p) i) := sm_congr fun p hp => by
      unfold skip; split <;> rfl
    rw [this]
  have down : ∀ (w : Nat → Rat) (i : Nat), i < L → sm (us.eraseIdx p0).length (fun p => w p * vF (((us.eraseIdx p0).map (without k lead)).getD p []) i)
      = sm (us.eraseIdx p0).length (fun p => w p * vF (skip p0 (fun p => us.getD p []) p) i) - vF lead i / vF lead k * sm (us.eraseIdx p0).length (fun p => w p * vF (skip p0 (fun p => us.getD p []) p) k) := fun w i hi => by
    rw [← sm_mul, ← sm_sub]
    exact sm_congr fun p hp => by rw [at_ p hp i hi, Rat.div_def, Rat.div_def]; grind
  have fwd : ∀ z, Dep L us z → Dep L ((us.eraseIdx p0).map (without k lead)) (skip p0 z) := fun z hz i hi => by
    rw [hln, down _ i hi]
    have h1 := hz i hi
    have h2 := hz k hk
    rw [split] at h1 h2
    have e : vF lead i / vF lead k * vF lead k = vF lead i := Rat.div_mul_cancel hlead
    grind
  have bwd : ∀ w, Dep L ((us.eraseIdx p0).map (without k lead)) w → ∃ z, Dep L us z ∧ skip p0 z = w := fun w hw => by
    let v : Rat := - (sm (us.eraseIdx p0).length (fun p => w p * vF (skip p0 (fun p => us.getD p []) p) k) / vF lead k)
    refine ⟨fun p => if p < p0 then w p else if p = p0 then v else w (p - 1), fun i hi => ?_, ?_⟩
    · have es : skip p0 (fun p => if p < p0 then w p else if p = p0 then v else w (p - 1)) = w := by
        funext p; unfold skip
        by_cases q : p < p0
        · simp only [if_pos q]
        · simp only [if_neg q, if_neg (show ¬ p + 1 < p0 by omega), if_neg (show ¬ p + 1 = p0 by omega)]; rfl
      rw [split, es, if_neg (by omega), if_pos rfl]
      have h1 := hw i hi
      rw [hln, down _ i hi] at h1
      have ev : v = - (sm (us.eraseIdx p0).length (fun p => w p * vF (skip p0 (fun p => us.getD p []) p) k) / vF lead k) := rfl
      rw [Rat.div_def] at ev h1
      grind
    · funext p; unfold skip
      by_cases q : p < p0
      · simp only [if_pos q]
      · simp only [if_neg q, if_neg (show ¬ p + 1 < p0 by omega), if_neg (show ¬ p + 1 = p0 by omega)]; rfl
  refine ⟨?_, fun z w hz hw p q hp hq => ?_⟩
  · obtain ⟨z, hz, p, hp, hne⟩ := K.some_
    refine ⟨skip p0 z, fwd z hz, Classical.byContradiction fun hno => ?_⟩
    have all : ∀ p, p < (us.eraseIdx p0).length → skip p0 z p = 0 := fun p hp => Classical.byContradiction fun h => hno ⟨p, by rw [hln]; exact hp, h⟩
    have h2 := hz k hk
    rw [split, sm_zero fun p hp => by rw [all p hp]; grind] at h2
    have z0 : z p0 = 0 := by
      have : z p0 * vF lead k = 0 := by grind
      rcases Rat.mul_eq_zero.mp this with y | y
      · exact y
      · exact absurd y hlead
    apply hne
    rcases Nat.lt_trichotomy p p0 with y | y | y
    · have := all p (by omega); unfold skip at this; rwa [if_pos y] at this
    · rw [y]; exact z0
    · have := all (p - 1) (by omega); unfold skip at this; rw [if_neg (by omega), show p - 1 + 1 = p by omega] at this; exact this
  · rw [hln] at hp hq
    obtain ⟨z', hz', rfl⟩ := bwd z hz
    obtain ⟨w', hw', rfl⟩ := bwd w hw
    have key : ∀ p, p < (us.eraseIdx p0).length → ∃ p', p' < us.length ∧ ∀ z : Nat → Rat, skip p0 z p = z p' := fun p hp => by
      by_cases q : p < p0
      · exact ⟨p, by omega, fun z => if_pos q⟩
      · exact ⟨p + 1, by omega, fun z => if_neg q⟩
    obtain ⟨p', hp', ep⟩ := key p hp
    obtain ⟨q', hq', eq⟩ := key q hq
    rw [ep, ep, eq, eq]
    exact K.one z' w' hz' hw' p' q' hp' hq'
theorem ker_end {L : Nat} {us : List (List Rat)} (K : Ker1 L us) (h : ∀ u ∈ us, ∀ i, i < L → vF u i = 0) : us.length = 1 := by
  have all : ∀ z, Dep L us z := fun z i hi => sm_zero fun p hp => by
    have : vF (us.getD p []) i = 0 := by
      rw [List.getD_eq_getElem?_getD, List.getElem?_eq_getElem hp]
      exact h _ (List.getElem_mem hp) i hi
    rw [this]; grind
  obtain ⟨z, _, p, hp, _⟩ := K.some_
  refine Classical.byContradiction fun hne => ?_
  have := K.one (fun p => if p = 0 then 1 else 0) (fun p => if p = 1 then 1 else 0) (all _) (all _) 0 1 (by omega) (by omega)
  simp at this
end Mx
namespace Mx
/-! ### the rank, step by step -/
def rkStep (k : Nat) (st : List (List Rat) × Nat) : List (List Rat) × Nat :=
  let p0 := st.1.findIdx (fun row => decide (vF row k ≠ 0))
  if p0 < st.1.length then ((st.1.eraseIdx p0).map (without k (st.1.getD p0 [])), st.2 + 1) else st
def rk (rows : List (List Rat)) : Nat → List (List Rat) × Nat
  | 0 => (rows, 0)
  | k + 1 => rkStep k (rk rows k)
structure RkI (L s k : Nat) (st : List (List Rat) × Nat) : Prop where
  len : ∀ u ∈ st.1, u.length = L
  low : ∀ u ∈ st.1, ∀ i, i < k → vF u i = 0
  cnt : st.2 + st.1.length = s
  le : st.2 ≤ k
theorem rk_step {L s k : Nat} {st : List (List Rat) × Nat} (hk : k < L) (h : RkI L s k st) : RkI L s (k + 1) (rkStep k st) ∧ (Ker1 L st.1 → Ker1 L (rkStep k st).1) := by
  unfold rkStep
  simp only
  by_cases q : st.1.findIdx (fun row => decide (vF row k ≠ 0)) < st.1.length
  · rw [if_pos q]
    generalize hp : st.1.findIdx (fun row => decide (vF row k ≠ 0)) = p0 at q
    have hlead : vF (st.1.getD p0 []) k ≠ 0 := by
      have := List.findIdx_getElem (xs := st.1) (p := fun row => decide (vF row k ≠ 0)) (w := by rw [hp]; exact q)
      simp only [hp] at this
      rw [List.getD_eq_getElem?_getD, List.getElem?_eq_getElem q]
      simpa using this
    have hmem : st.1.getD p0 [] ∈ st.1 := by
      rw [List.getD_eq_getElem?_getD, List.getElem?_eq_getElem q]
      exact List.getElem_mem q
    have hll := h.len _ hmem
    refine ⟨⟨?_, ?_, ?_, ?_⟩, fun K => ker_step K h.len hk q hlead⟩
    · intro u hu
      obtain ⟨r, hr, rfl⟩ := List.mem_map.mp hu
      exact without_len (h.len r (List.mem_of_mem_eraseIdx hr)) hll
    · intro u hu i hi
      obtain ⟨r, hr, rfl⟩ := List.mem_map.mp hu
      have hr2 := List.mem_of_mem_eraseIdx hr
      rw [without_at (h.len r hr2) hll (by omega)]
      by_cases e : i = k
      · subst e
        rw [Rat.div_mul_cancel hlead]; grind
      · rw [h.low r hr2 i (by omega), h.low _ hmem i (by omega)]; grind
    · show st.2 + 1 + ((st.1.eraseIdx p0).map _).length = s
      rw [List.length_map, List.length_eraseIdx_of_lt q]
      have := h.cnt
      omega
    · show st.2 + 1 ≤ k + 1
      have := h.le
      omega
  · rw [if_neg q]
    have hno : ∀ u ∈ st.1, vF u k = 0 := fun u hu => by
      refine Classical.byContradiction fun hne => q ?_
      exact List.findIdx_lt_length_of_exists ⟨u, hu, by simpa using hne⟩
    refine ⟨⟨h.len, fun u hu i hi => ?_, h.cnt, by have := h.le; omega⟩, fun K => K⟩
    by_cases e : i = k
    · subst e; exact hno u hu
    · exact h.low u hu i (by omega)
theorem rk_inv {L : Nat} {rows : List (List Rat)} (h : ∀ u ∈ rows, u.length = L) : ∀ k, k ≤ L → RkI L rows.length k (rk rows k) ∧ (Ker1 L rows → Ker1 L (rk rows k).1)
  | 0, _ => ⟨⟨h, fun _ _ i hi => absurd hi (Nat.not_lt_zero _), by simp [rk], Nat.le_refl _⟩, fun K => K⟩
  | k + 1, hk => by
    obtain ⟨h1, h2⟩ := rk_inv h k (by omega)
    obtain ⟨h3, h4⟩ := rk_step (by omega) h1
    exact ⟨h3, fun K => h4 (h2 K)⟩
theorem rk_ker {L : Nat} {rows : List (List Rat)} (h : ∀ u ∈ rows, u.length = L) (K : Ker1 L rows) : (rk rows L).2 + 1 = rows.length ∧ (rk rows L).2 ≤ L := by
  obtain ⟨h1, h2⟩ := rk_inv h L (Nat.le_refl _)
  have := ker_end (h2 K) h1.low
  have := h1.cnt
  exact ⟨by omega, h1.le⟩
/-! ### lots -/
def nextOf (lot : List Nat) : Nat := match lot.getLast? with
  | none => 0
  | some k => k + 1
def lotStep (N : Nat) (last : List (List Nat)) : List (List Nat) := last.flatMap fun lot => (List.range (N - nextOf lot)).map fun i => lot ++ [nextOf lot + i]
def lotLast (N : Nat) : Nat → List (List Nat)
  | 0 => [[]]
  | k + 1 => lotStep N (lotLast N k)
def lotsL (N : Nat) : Nat → List (List Nat)
  | 0 => []
  | k + 1 => lotsL N k ++ lotLast N (k + 1)
structure Lot (N : Nat) (S : List Nat) : Prop where
  up : S.Pairwise (· < ·)
  lt : ∀ k ∈ S, k < N
theorem lot_snoc {N : Nat} {S : List Nat} {k : Nat} : Lot N (S ++ [k]) ↔ Lot N S ∧ nextOf S ≤ k ∧ k < N := by
  have key : Lot N S → ((∀ x ∈ S, x < k) ↔ nextOf S ≤ k) := fun h => by
    unfold nextOf
    cases e : S.getLast? with
    | none =>
      have : S = [] := List.getLast?_eq_none_iff.mp e
      subst this
      simp
    | some l =>
      obtain ⟨T, rfl⟩ := List.getLast?_eq_some_iff.mp e
      simp only
      constructor
      · intro h2; have := h2 l (by simp); omega
      · intro h2 x hx
        rcases List.mem_append.mp hx with y | y
        · have := (List.pairwise_append.mp h.up).2.2 x y l (by simp)
          omega
        · simp at y; omega
  constructor
  · intro h
    have h1 := List.pairwise_append.mp h.up
    have hS : Lot N S := ⟨h1.1, fun x hx => h.lt x (by simp [hx])⟩
    exact ⟨hS, (key hS).mp fun x hx => h1.2.2 x hx k (by simp), h.lt k (by simp)⟩
  · rintro ⟨h1, h2, h3⟩
    refine ⟨List.pairwise_append.mpr ⟨h1.up, by simp, fun x hx y hy => ?_⟩, fun x hx => ?_⟩
    · simp at hy; subst hy; exact (key h1).mpr h2 x hx
    · rcases List.mem_append.mp hx with y | y
      · exact h1.lt x y
      · simp at y; omega
theorem lotLast_iff {N : Nat} : ∀ {k : Nat} {S : List Nat}, S ∈ lotLast N k ↔ Lot N S ∧ S.length = k
  | 0, S => by
    constructor
    · intro h
      have : S = [] := by simpa [lotLast] using h
      subst this
      exact ⟨⟨.nil, fun _ h => by simp at h⟩, rfl⟩
    · rintro ⟨_, h⟩
      have : S = [] := List.eq_nil_of_length_eq_zero h
      subst this
      simp [lotLast]
  | k + 1, S => by
    show S ∈ lotStep N (lotLast N k) ↔ _
    unfold lotStep
    rw [List.mem_flatMap]
    constructor
    · rintro ⟨T, hT, hS⟩
      obtain ⟨i, hi, rfl⟩ := List.mem_map.mp hS
      obtain ⟨h1, h2⟩ := lotLast_iff.mp hT
      have := List.mem_range.mp hi
      exact ⟨lot_snoc.mpr ⟨h1, by omega, by omega⟩, by simp [h2]⟩
    · rintro ⟨h1, h2⟩
      have hne : S ≠ [] := fun e => by subst e; simp at h2
      obtain ⟨T, l, rfl⟩ : ∃ T l, S = T ++ [l] := ⟨S.dropLast, S.getLast hne, (List.dropLast_concat_getLast hne).symm⟩
      obtain ⟨g1, g2, g3⟩ := lot_snoc.mp h1
      refine ⟨T, lotLast_iff.mpr ⟨g1, by simpa using h2⟩, List.mem_map.mpr ⟨l - nextOf T, List.mem_range.mpr (by omega), by rw [show nextOf T + (l - nextOf T) = l by omega]⟩⟩
theorem lotsL_iff {N : Nat} : ∀ {k : Nat} {S : List Nat}, S ∈ lotsL N k ↔ Lot N S ∧ 1 ≤ S.length ∧ S.length ≤ k
  | 0, S => by
    constructor
    · intro h; simp [lotsL] at h
    · rintro ⟨_, h1, h2⟩; omega
  | k + 1, S => by
    show S ∈ lotsL N k ++ lotLast N (k + 1) ↔ _
    rw [List.mem_append, lotsL_iff, lotLast_iff]
    constructor
    · rintro (⟨a, b, c⟩ | ⟨a, b⟩)
      · exact ⟨a, b, by omega⟩
      · exact ⟨a, by omega, by omega⟩
    · rintro ⟨a, b, c⟩
      by_cases e : S.length = k + 1
      · exact .inr ⟨a, e⟩
      · exact .inl ⟨a, b, by omega⟩
theorem lotLast_len {N : Nat} : ∀ k, (lotLast N k).length ≤ N ^ k
  | 0 => by simp [lotLast]
  | k + 1 => by
    show (lotStep N (lotLast N k)).length ≤ N ^ (k + 1)
    have h := lotLast_len (N := N) k
    unfold lotStep
    rw [List.length_flatMap]
    have : ∀ (l : List (List Nat)), (l.map fun lot => ((List.range (N - nextOf lot)).map fun i => lot ++ [nextOf lot + i]).length).sum ≤ l.length * N := fun l => by
      induction l with
      | nil => simp
      | cons x r ih =>
        simp only [List.map_cons, List.sum_cons, List.length_cons, List.length_map, List.length_range] at ih ⊢
        rw [Nat.succ_mul]
        omega
    rw [Nat.pow_succ]
    exact Nat.le_trans (this _) (Nat.mul_le_mul_right _ h)
/-! ### the order of rows, and a new one put in -/
def lexLt : List Rat → List Rat → Bool
  | x :: xs, y :: ys => if x ≠ y then decide (x < y) else lexLt xs ys
  | _, _ => false
theorem lex_irr : ∀ x : List Rat, lexLt x x = false
  | [] => rfl
  | x :: xs => by unfold lexLt; simp [lex_irr xs]
theorem lex_asym : ∀ {x y : List Rat}, lexLt x y = true → lexLt y x = false
  | [], _, h => by simp [lexLt] at h
  | _ :: _, [], h => by simp [lexLt] at h
  | x :: xs, y :: ys, h => by
    unfold lexLt at h ⊢
    by_cases e : x = y
    · subst e; simp at h ⊢; exact lex_asym h
    · rw [if_pos e] at h
      rw [if_pos (fun z => e z.symm)]
      have : x < y := by simpa using h
      simp; grind
theorem lex_down : ∀ {a b s : List Rat}, a.length = s.length → b.length = s.length → lexLt b a = false → lexLt b s = true → lexLt a s = true
  | [], [], s, _, _, _, h => h
  | [], _ :: _, [], _, h, _, _ => by simp at h
  | [], _ :: _, _ :: _, h, _, _, _ => by simp at h
  | _ :: _, _, [], h, _, _, _ => by simp at h
  | _ :: _, [], _ :: _, _, h, _, _ => by simp at h
  | x :: xs, y :: ys, z :: zs, h1, h2, h3, h4 => by
    unfold lexLt at h3 h4 ⊢
    have l1 : xs.length = zs.length := by simpa using h1
    have l2 : ys.length = zs.length := by simpa using h2
    by_cases e1 : y = x
    · subst e1
      simp only [ne_eq, not_true, if_false] at h3
      by_cases e2 : y = z
      · subst e2
        simp only [ne_eq, not_true, if_false] at h4 ⊢
        exact lex_down l1 l2 h3 h4
      · rw [if_pos e2] at h4 ⊢; exact h4
    · rw [if_pos e1] at h3
      have h5 : x < y := by
        have : ¬ y < x := by simpa using h3
        grind
      by_cases e2 : y = z
      · subst e2
        have : x ≠ y := fun z => e1 z.symm
        rw [if_pos this]
        simpa using h5
      · rw [if_pos e2] at h4
        have h6 : y < z := by simpa using h4
        have h7 : x < z := by grind
        rw [if_pos (by grind)]
        simpa using h7
def Ordered (l : List (List Rat)) : Prop := l.Pairwise fun a b => lexLt b a = false
theorem filter_first {p : List Rat → Bool} : ∀ {l : List (List Rat)}, l.Pairwise (fun a b => p b = true → p a = true) → l.filter p ++ l.drop (l.filter p).length = l ∧ ∀ x ∈ l.drop (l.filter p).length, p x = false
  | [], _ => by simp
  | a :: r, h => by
    obtain ⟨h1, h2⟩ := List.pairwise_cons.mp h
    by_cases e : p a = true
    · rw [List.filter_cons_of_pos e]
      obtain ⟨i1, i2⟩ := filter_first h2
      simp only [List.cons_append, List.length_cons, List.drop_succ_cons]
      exact ⟨by rw [i1], i2⟩
    · have hall : ∀ x ∈ r, p x = false := fun x hx => by
        cases q : p x with
        | false => rfl
        | true => exact absurd (h1 x hx q) e
      have : (a :: r).filter p = [] := by
        rw [List.filter_eq_nil_iff]
        intro x hx
        rcases List.mem_cons.mp hx with y | y
        · rw [y]; exact e
        · rw [hall x y]; simp
      rw [this]
      simp only [List.nil_append, List.length_nil, List.drop_zero, true_and]
      intro x hx
      rcases List.mem_cons.mp hx with y | y
      · rw [y]; simpa using e
      · exact hall x y
def putIn (s : List Rat) (l : List (List Rat)) : List (List Rat) := l.filter (fun o => lexLt o s) ++ [s] ++ l.drop (l.filter (fun o => lexLt o s)).length
theorem putIn_ok {s : List Rat} {l : List (List Rat)} (ho : Ordered l) (hl : ∀ x ∈ l, x.length = s.length) : Ordered (putIn s l) ∧ ∀ x, x ∈ putIn s l ↔ x = s ∨ x ∈ l := by
  have hd : l.Pairwise (fun a b => lexLt b s = true → lexLt a s = true) := by
    refine List.Pairwise.imp_of_mem (fun {a b} ha hb h => ?_) ho
    exact fun h2 => lex_down (hl a ha) (hl b hb) h h2
  obtain ⟨h1, h2⟩ := filter_first (p := fun o => lexLt o s) hd
  generalize hF : l.filter (fun o => lexLt o s) = F at h1 h2
  generalize hR : l.drop F.length = Rr at h1 h2
  have hF' : ∀ x ∈ F, lexLt x s = true := fun x hx => by rw [← hF] at hx; exact (List.mem_filter.mp hx).2
  unfold putIn
  rw [hF, hR]
  rw [← h1] at ho
  have ho := List.pairwise_append.mp ho
  constructor
  · refine List.pairwise_append.mpr ⟨List.pairwise_append.mpr ⟨ho.1, by simp, fun a ha b hb => ?_⟩, ho.2.1, fun a ha b hb => ?_⟩
    · simp at hb; subst hb; exact lex_asym (hF' a ha)
    · rcases List.mem_append.mp ha with y | y
      · exact ho.2.2 a y b hb
      · simp at y; subst y; exact h2 b hb
  · intro x
    rw [← h1]
    simp only [List.mem_append, List.mem_singleton]
    constructor
    · rintro ((h | h) | h)
      · exact .inr (.inl h)
      · exact .inl h
      · exact .inr (.inr h)
    · rintro (h | h | h)
      · exact .inl (.inr h)
      · exact .inl (.inl h)
      · exact .inr h
end Mx
namespace Mx
def colF (cols : List (List Rat)) (j i : Nat) : Rat := vF (cols.getD j []) i
theorem getD_map {α β : Type} {f : α → β} {l : List α} {i : Nat} {d : β} {e : α} (h : i < l.length) : (l.map f).getD i d = f (l.getD i e) := by
  simp [List.getD_eq_getElem?_getD, List.getElem?_eq_getElem h]
theorem vF_append {xs ys : List Rat} {i : Nat} : vF (xs ++ ys) i = if i < xs.length then vF xs i else vF ys (i - xs.length) := by
  unfold vF
  rw [List.getD_eq_getElem?_getD, List.getElem?_append]
  split <;> simp [List.getD_eq_getElem?_getD]
theorem vF_rep {L i : Nat} : vF (List.replicate L 0) i = 0 := by
  unfold vF
  rw [List.getD_eq_getElem?_getD, List.getElem?_replicate]
  split <;> rfl
/-! ### rows with a 1 more, the target of noughts and a 1 -/
def longer (rows : List (List Rat)) : List (List Rat) := rows.map (· ++ [1])
def tgt (L : Nat) : List Rat := List.replicate L 0 ++ [1]
structure Mx1 (L : Nat) (rows : List (List Rat)) : Prop where
  len : ∀ u ∈ rows, u.length = L
  ne : rows ≠ []
theorem longer_len {rows : List (List Rat)} : (longer rows).length = rows.length := List.length_map _
theorem longer_at {L : Nat} {rows : List (List Rat)} (h : ∀ u ∈ rows, u.length = L) {j i : Nat} (hj : j < rows.length) : colF (longer rows) j i = if i < L then colF rows j i else if i = L then 1 else 0 := by
  unfold colF longer
  rw [getD_map (e := []) hj, vF_append]
  have e : (rows.getD j []).length = L := by
    rw [List.getD_eq_getElem?_getD, List.getElem?_eq_getElem hj]
    exact h _ (List.getElem_mem hj)
  rw [e]
  split
  · rfl
  · rename_i q
    by_cases z : i = L
    · subst z; rw [if_pos rfl, Nat.sub_self]; rfl
    · rw [if_neg z]
      unfold vF
      rw [List.getD_eq_getElem?_getD, List.getElem?_eq_none (by simp; omega)]; rfl
theorem tgt_at {L i : Nat} : vF (tgt L) i = if i = L then 1 else 0 := by
  unfold tgt
  rw [vF_append, vF_rep, List.length_replicate]
  split
  · rw [if_neg (by omega)]
  · by_cases z : i = L
    · subst z; rw [if_pos rfl, Nat.sub_self]; rfl
    · rw [if_neg z]
      unfold vF
      rw [List.getD_eq_getElem?_getD, List.getElem?_eq_none (by simp; omega)]; rfl
/-- amounts that are a mixing -/
structure Mix (L : Nat) (rows : List (List Rat)) (x : Nat → Rat) : Prop where
  nn : Nn rows.length x
  rc : Rc rows.length (L + 1) (colF (longer rows)) (vF (tgt L)) x
section
variable {L : Nat} {rows : List (List Rat)} {x : Nat → Rat}
theorem Mix.one (h : Mix L rows x) (hl : ∀ u ∈ rows, u.length = L) : sm rows.length x = 1 := by
  have z := h.rc L (by omega)
  rw [tgt_at, if_pos rfl] at z
  rw [← z]
  exact sm_congr fun j hj => by rw [longer_at hl hj, if_neg (by omega), if_pos rfl]; grind
theorem Mix.lvl (h : Mix L rows x) (hl : ∀ u ∈ rows, u.length = L) {i : Nat} (hi : i < L) : sm rows.length (fun j => colF rows j i * x j) = 0 := by
  have z := h.rc i (by omega)
  rw [tgt_at, if_neg (by omega)] at z
  rw [← z]
  exact sm_congr fun j hj => by rw [longer_at hl hj, if_pos hi]
theorem Mix.of (hl : ∀ u ∈ rows, u.length = L) (h0 : Nn rows.length x) (h1 : sm rows.length x = 1) (h2 : ∀ i, i < L → sm rows.length (fun j => colF rows j i * x j) = 0) : Mix L rows x := by
  refine ⟨h0, fun i hi => ?_⟩
  rw [tgt_at]
  by_cases e : i = L
  · subst e
    rw [if_pos rfl, ← h1]
    exact sm_congr fun j hj => by rw [longer_at hl hj, if_neg (by omega), if_pos rfl]; grind
  · rw [if_neg e, ← h2 i (by omega)]
    exact sm_congr fun j hj => by rw [longer_at hl hj, if_pos (by omega)]
/-! ### a lot of rows -/
def someR (rows : List (List Rat)) (S : List Nat) : List (List Rat) := S.map fun k => rows.getD k []
def ext (S : List Nat) (f : Nat → Rat) (j : Nat) : Rat := sm S.length fun p => if S.getD p 0 = j then f p else 0
theorem lot_at {N : Nat} {S : List Nat} (h : Lot N S) {p : Nat} (hp : p < S.length) : S.getD p 0 < N := by
  rw [List.getD_eq_getElem?_getD, List.getElem?_eq_getElem hp]
  exact h.lt _ (List.getElem_mem hp)
theorem lot_inj {N : Nat} {S : List Nat} (h : Lot N S) {p q : Nat} (hp : p < S.length) (hq : q < S.length) (e : S.getD p 0 = S.getD q 0) : p = q := by
  rw [List.getD_eq_getElem?_getD, List.getElem?_eq_getElem hp, List.getD_eq_getElem?_getD, List.getElem?_eq_getElem hq] at e
  have e : S[p] = S[q] := e
  have hs := List.pairwise_iff_getElem.mp h.up
  rcases Nat.lt_trichotomy p q with y | y | y
  · have := hs p q hp hq y; omega
  · exact y
  · have := hs q p hq hp y; omega
theorem ext_sum {N : Nat} {S : List Nat} (h : Lot N S) {f g : Nat → Rat} : sm N (fun j => g j * ext S f j) = sm S.length (fun p => g (S.getD p 0) * f p) := by
  have e : sm N (fun j => g j * ext S f j) = sm N (fun j => (sm S.length fun p => if S.getD p 0 = j then f p else 0) * g j) := sm_congr fun j hj => by unfold ext; grind
  rw [e, sm_pick]
  exact sm_congr fun p hp => by rw [if_pos (lot_at h hp)]; grind
theorem ext_in {N : Nat} {S : List Nat} (h : Lot N S) {f : Nat → Rat} {p : Nat} (hp : p < S.length) : ext S f (S.getD p 0) = f p := by
  unfold ext
  rw [sm_one (k := p) hp fun q hq hne => if_neg fun e => hne (lot_inj h hq hp e), if_pos rfl]
theorem ext_out {S : List Nat} {f : Nat → Rat} {j : Nat} (h : j ∉ S) : ext S f j = 0 := sm_zero fun p hp => if_neg fun e => h (by
  rw [← e, List.getD_eq_getElem?_getD, List.getElem?_eq_getElem hp]
  exact List.getElem_mem hp)
theorem some_at {S : List Nat} {p i : Nat} (hp : p < S.length) : colF (someR rows S) p i = colF rows (S.getD p 0) i := by
  unfold colF someR
  rw [getD_map (e := 0) hp]
theorem some_len {S : List Nat} : (someR rows S).length = S.length := List.length_map _
theorem some_lens {S : List Nat} (hl : ∀ u ∈ rows, u.length = L) (h : Lot rows.length S) : ∀ u ∈ someR rows S, u.length = L := fun u hu => by
  obtain ⟨k, hk, rfl⟩ := List.mem_map.mp hu
  have := h.lt k hk
  rw [List.getD_eq_getElem?_getD, List.getElem?_eq_getElem this]
  exact hl _ (List.getElem_mem this)
/-- a mixing of the lot is one of all rows -/
theorem mix_ext {S : List Nat} (hl : ∀ u ∈ rows, u.length = L) (h : Lot rows.length S) {y : Nat → Rat} (hy : Mix L (someR rows S) y) : Mix L rows (ext S y) := by
  have hs := some_lens hl h
  refine Mix.of hl (fun j hj => smQ_nonneg fun p hp => ?_) ?_ fun i hi => ?_
  · split
    · exact hy.nn p (by rw [some_len]; exact hp)
    · exact Rat.le_refl
  · have z := hy.one hs
    rw [some_len] at z
    have e := ext_sum h (f := y) (g := fun _ => 1)
    have e1 : sm rows.length (fun j => (1 : Rat) * ext S y j) = sm rows.length (ext S y) := sm_congr fun j hj => by grind
    have e2 : sm S.length (fun p => (1 : Rat) * y p) = sm S.length y := sm_congr fun j hj => by grind
    rw [← e1, e, e2, z]
  · have z := hy.lvl hs hi
    rw [some_len] at z
    rw [ext_sum h (f := y) (g := fun j => colF rows j i), ← z]
    exact sm_congr fun p hp => by rw [some_at hp]
def supp (N : Nat) (x : Nat → Rat) : List Nat := (List.range N).filter fun j => decide (x j ≠ 0)
theorem supp_lot {N : Nat} : Lot N (supp N x) := ⟨List.Pairwise.sublist List.filter_sublist List.pairwise_lt_range, fun k hk => List.mem_range.mp (List.mem_filter.mp hk).1⟩
theorem supp_mem {N j : Nat} : j ∈ supp N x ↔ j < N ∧ x j ≠ 0 := by
  unfold supp
  rw [List.mem_filter, List.mem_range]
  simp
/-- the lot of x brings x back -/
theorem supp_ext {N : Nat} {j : Nat} (hj : j < N) : ext (supp N x) (fun p => x ((supp N x).getD p 0)) j = x j := by
  by_cases q : x j = 0
  · rw [ext_out (fun h => (supp_mem.mp h).2 q), q]
  · have hm : j ∈ supp N x := supp_mem.mpr ⟨hj, q⟩
    obtain ⟨p, hp, e⟩ := List.getElem_of_mem hm
    have e2 : (supp N x).getD p 0 = j := by rw [List.getD_eq_getElem?_getD, List.getElem?_eq_getElem hp]; exact e
    have z := ext_in (supp_lot (x := x) (N := N)) (f := fun p => x ((supp N x).getD p 0)) hp
    rw [e2] at z
    exact z
theorem supp_mix (hl : ∀ u ∈ rows, u.length = L) (h : Mix L rows x) : Mix L (someR rows (supp rows.length x)) (fun p => x ((supp rows.length x).getD p 0)) := by
  have hS := supp_lot (x := x) (N := rows.length)
  have hs := some_lens hl hS
  refine Mix.of hs (fun p hp => ?_) ?_ fun i hi => ?_
  · rw [some_len] at hp
    exact h.nn _ (lot_at hS hp)
  · have z := h.one hl
    have e := ext_sum hS (f := fun p => x ((supp rows.length x).getD p 0)) (g := fun _ => 1)
    have e1 : sm rows.length (fun j => (1 : Rat) * ext (supp rows.length x) (fun p => x ((supp rows.length x).getD p 0)) j) = sm rows.length x := sm_congr fun j hj => by rw [supp_ext hj]; grind
    rw [e1, z] at e
    rw [some_len, e]
    exact sm_congr fun p hp => by grind
  · have z := h.lvl hl hi
    have e := ext_sum hS (f := fun p => x ((supp rows.length x).getD p 0)) (g := fun j => colF rows j i)
    have e1 : sm rows.length (fun j => colF rows j i * ext (supp rows.length x) (fun p => x ((supp rows.length x).getD p 0)) j) = sm rows.length (fun j => colF rows j i * x j) := sm_congr fun j hj => by rw [supp_ext hj]
    rw [e1, z] at e
    rw [some_len, e]
    exact sm_congr fun p hp => by rw [some_at hp]
abbrev UqM (L : Nat) (rows : List (List Rat)) (x : Nat → Rat) : Prop := Uq rows.length (L + 1) (colF (longer rows)) x
/-- what the lot of x reaches, x alone reaches -/
theorem supp_only (hl : ∀ u ∈ rows, u.length = L) (h : Mix L rows x) (u : UqM L rows x) {y : Nat → Rat} (hy : Mix L (someR rows (supp rows.length x)) y) : ∀ p, p < (supp rows.length x).length → y p = x ((supp rows.length x).getD p 0) := by
  have hS := supp_lot (x := x) (N := rows.length)
  have hm := mix_ext hl hS hy
  have z := u (fun j => ext (supp rows.length x) y j - x j) (fun j hj h0 => by rw [h0, ext_out (fun h => (supp_mem.mp h).2 h0)]; grind) fun i hi => by
    have e : sm rows.length (fun j => colF (longer rows) j i * (ext (supp rows.length x) y j - x j)) = sm rows.length (fun j => colF (longer rows) j i * ext (supp rows.length x) y j) - sm rows.length (fun j => colF (longer rows) j i * x j) := by
      rw [← sm_sub]; exact sm_congr fun j hj => by grind
    rw [e, hm.rc i hi, h.rc i hi]; grind
  intro p hp
  have z2 := z _ (lot_at hS hp)
  rw [ext_in hS hp] at z2
  grind
theorem supp_ker (hl : ∀ u ∈ rows, u.length = L) (h : Mix L rows x) (u : UqM L rows x) : Ker1 L (someR rows (supp rows.length x)) := by
  have hS := supp_lot (x := x) (N := rows.length)
  have hm := supp_mix hl h
  have hs := some_lens hl hS
  generalize hSe : supp rows.length x = S at *
  have key : ∀ z, Dep L (someR rows S) z → ∀ p, p < S.length → z p = sm S.length z * x (S.getD p 0) := fun z hz p hp => by
    have v := u (fun j => ext S (fun p => z p - sm S.length z * x (S.getD p 0)) j) (fun j hj h0 => ext_out fun hj' => by rw [← hSe] at hj'; exact (supp_mem.mp hj').2 h0) fun i hi => by
      rw [ext_sum hS (f := fun p => z p - sm S.length z * x (S.getD p 0)) (g := fun j => colF (longer rows) j i)]
      have e : sm S.length (fun p => colF (longer rows) (S.getD p 0) i * (z p - sm S.length z * x (S.getD p 0))) = sm S.length (fun p => colF (longer rows) (S.getD p 0) i * z p) - sm S.length z * sm S.length (fun p => colF (longer rows) (S.getD p 0) i * x (S.getD p 0)) := by
        rw [← sm_mul, ← sm_sub]; exact sm_congr fun p hp => by grind
      rw [e]
      have hrc := hm.rc i hi
      rw [some_len] at hrc
      have e2 : sm S.length (fun p => colF (longer rows) (S.getD p 0) i * x (S.getD p 0)) = vF (tgt L) i := by
        rw [← hrc]
        exact sm_congr fun p hp => by rw [longer_at hs (by rw [some_len]; exact hp), longer_at hl (lot_at hS hp), some_at hp]
      rw [e2, tgt_at]
      by_cases q : i = L
      · subst q
        rw [if_pos rfl]
        have e3 : sm S.length (fun p => colF (longer rows) (S.getD p 0) i * z p) = sm S.length z := sm_congr fun p hp => by
          rw [longer_at hl (lot_at hS hp), if_neg (by omega), if_pos rfl]; grind
        rw [e3]; grind
      · rw [if_neg q]
        have hd := hz i (by omega)
        rw [some_len] at hd
        have e3 : sm S.length (fun p => colF (longer rows) (S.getD p 0) i * z p) = 0 := by
          rw [← hd]
          exact sm_congr fun p hp => by
            rw [longer_at hl (lot_at hS hp), if_pos (by omega)]
            have := some_at (rows := rows) (i := i) hp
            unfold colF at this ⊢
            rw [this]; grind
        rw [e3]; grind
    have v2 := v _ (lot_at hS hp)
    rw [ext_in hS hp] at v2
    grind
  refine ⟨⟨fun p => x (S.getD p 0), fun i hi => ?_, Classical.byContradiction fun hno => ?_⟩, fun z w hz hw p q hp hq => ?_⟩
  · have z := hm.lvl hs hi
    rw [← z]
    exact sm_congr fun p hp => by unfold colF; grind
  · have z := hm.one hs
    rw [sm_zero fun p hp => Classical.byContradiction fun h => hno ⟨p, hp, h⟩] at z
    revert z
    decide
  · rw [some_len] at hp hq
    rw [key z hz p hp, key z hz q hq, key w hw p hp, key w hw q hq]; grind
theorem supp_pos (hl : ∀ u ∈ rows, u.length = L) (h : Mix L rows x) : 1 ≤ (supp rows.length x).length := by
  refine Classical.byContradiction fun hno => ?_
  have e : supp rows.length x = [] := List.eq_nil_of_length_eq_zero (by omega)
  have z := h.one hl
  rw [sm_zero fun j hj => Classical.byContradiction fun hne => by
    have : j ∈ supp rows.length x := supp_mem.mpr ⟨hj, hne⟩
    rw [e] at this; simp at this] at z
  revert z
  decide
theorem supp_le {N : Nat} : (supp N x).length ≤ N := by
  have := List.length_filter_le (fun j => decide (x j ≠ 0)) (List.range N)
  rw [List.length_range] at this
  exact this
end
end Mx
namespace Mx
/-! ### answers as lists -/
inductive LRes where
  | least (x y : List Rat)
  | none (s : List Rat)
  | endless (x z : List Rat)
def Right (cols : List (List Rat)) (costs target : List Rat) : LRes → Prop
  | .least x y => x.length = cols.length ∧ y.length = target.length ∧ IsLeast cols.length target.length (colF cols) (vF costs) (vF target) (vF x) (vF y)
  | .none s => s.length = target.length ∧ IsNone cols.length target.length (colF cols) (vF target) (vF s)
  | .endless x z => x.length = cols.length ∧ z.length = cols.length ∧ IsEndless cols.length target.length (colF cols) (vF costs) (vF target) (vF x) (vF z)
theorem Rc.congr {n m : Nat} {a : Nat → Nat → Rat} {t x y : Nat → Rat} (h : Rc n m a t x) (e : ∀ j, j < n → x j = y j) : Rc n m a t y := fun i hi => by
  rw [← h i hi]; exact sm_congr fun j hj => by rw [e j hj]
theorem Nn.congr {n : Nat} {x y : Nat → Rat} (h : Nn n x) (e : ∀ j, j < n → x j = y j) : Nn n y := fun j hj => by rw [← e j hj]; exact h j hj
theorem Uq.congr {n m : Nat} {a : Nat → Nat → Rat} {x y : Nat → Rat} (h : Uq n m a x) (e : ∀ j, j < n → x j = y j) : Uq n m a y := fun z hz hr => h z (fun j hj h0 => hz j hj (by rw [← e j hj]; exact h0)) hr
theorem vF_map {n j : Nat} {x : Nat → Rat} (hj : j < n) : vF ((List.range n).map x) j = x j := by
  unfold vF
  rw [getD_map (e := 0) (by simpa using hj)]
  simp [List.getD_eq_getElem?_getD, hj]
structure Corners (L : Nat) (rows : List (List Rat)) (cs : List (List Rat)) : Prop where
  mix : ∀ v ∈ cs, v.length = rows.length ∧ Mix L rows (vF v)
  all : ∀ v : List Rat, v.length = rows.length → Mix L rows (vF v) → UqM L rows (vF v) → v ∈ cs
section
variable {L : Nat} {rows : List (List Rat)} {cs : List (List Rat)}
theorem corner_le (hl : ∀ u ∈ rows, u.length = L) (C : Corners L rows cs) (c : Nat → Rat) {x : Nat → Rat} (h : Mix L rows x) : ∃ v ∈ cs, sm rows.length (fun j => c j * vF v j) ≤ sm rows.length (fun j => c j * x j) := by
  obtain ⟨x', a1, a2, a3, a4⟩ := fewer (l := L) (show L < L + 1 by omega) (fun j hj => by rw [longer_at hl hj, if_neg (by omega), if_pos rfl]) c _ x (Nat.le_refl _) h.nn h.rc
  have e : ∀ j, j < rows.length → x' j = vF ((List.range rows.length).map x') j := fun j hj => (vF_map hj).symm
  refine ⟨(List.range rows.length).map x', C.all _ (by simp) ⟨a1.congr e, a2.congr e⟩ (a3.congr e), ?_⟩
  have e2 : sm rows.length (fun j => c j * vF ((List.range rows.length).map x') j) = sm rows.length (fun j => c j * x' j) := sm_congr fun j hj => by rw [← e j hj]
  rw [e2]; exact a4
theorem corners_ne (hl : ∀ u ∈ rows, u.length = L) (C : Corners L rows cs) : cs ≠ [] ↔ ∃ x, Mix L rows x := by
  constructor
  · intro h
    obtain ⟨v, r, rfl⟩ := List.exists_cons_of_ne_nil h
    exact ⟨_, (C.mix v (by simp)).2⟩
  · rintro ⟨x, h⟩ e
    obtain ⟨v, hv, _⟩ := corner_le hl C (fun _ => 0) h
    rw [e] at hv; simp at hv
theorem mix_bounded (hl : ∀ u ∈ rows, u.length = L) {c x z : Nat → Rat} (h : IsEndless rows.length (L + 1) (colF (longer rows)) c (vF (tgt L)) x z) : False := by
  have h1 := h.rz L (by omega)
  have e : sm rows.length (fun j => colF (longer rows) j L * z j) = sm rows.length z := sm_congr fun j hj => by rw [longer_at hl hj, if_neg (by omega), if_pos rfl]; grind
  rw [e] at h1
  have h2 := smQ_each h.nz h1
  have h3 := h.lt
  rw [sm_zero fun j hj => by rw [h2 j hj]; grind] at h3
  exact Rat.lt_irrefl h3
/-- the least cost of a mixing is that of a corner -/
theorem corner_least (hl : ∀ u ∈ rows, u.length = L) (C : Corners L rows cs) {c x y : Nat → Rat} (h : IsLeast rows.length (L + 1) (colF (longer rows)) c (vF (tgt L)) x y) :
    (∀ v ∈ cs, sm rows.length (fun j => c j * x j) ≤ sm rows.length (fun j => c j * vF v j)) ∧ ∃ v ∈ cs, sm rows.length (fun j => c j * vF v j) = sm rows.length (fun j => c j * x j) := by
  have h1 : ∀ v ∈ cs, sm rows.length (fun j => c j * x j) ≤ sm rows.length (fun j => c j * vF v j) := fun v hv => h.le (C.mix v hv).2.nn (C.mix v hv).2.rc
  obtain ⟨v, hv, hle⟩ := corner_le hl C c (x := x) ⟨h.nn, h.rc⟩
  exact ⟨h1, v, hv, Rat.le_antisymm hle (h1 v hv)⟩
/-! ### which columns are used -/
def gain (k j : Nat) : Rat := if j = k then -1 else 0
theorem gain_sum {n k : Nat} (hk : k < n) {x : Nat → Rat} : sm n (fun j => gain k j * x j) = - x k := by
  rw [sm_one (k := k) hk fun j hj hne => by unfold gain; rw [if_neg hne]; grind]
  unfold gain; rw [if_pos rfl]; grind
inductive URes where
  | used (y : List Rat)
  | barred (s : List Rat)
def UOk (n m : Nat) (a : Nat → Nat → Rat) (t : Nat → Rat) (k : Nat) : URes → Prop
  | .used y => y.length = n ∧ Nn n (vF y) ∧ Rc n m a t (vF y) ∧ 0 < vF y k
  | .barred _ => ∀ x, Nn n x → Rc n m a t x → x k = 0
theorem use_least {n m k : Nat} {a : Nat → Nat → Rat} {t x y : Nat → Rat} (hk : k < n) (h : IsLeast n m a (gain k) t x y) : (x k ≠ 0 → 0 < x k) ∧ (x k = 0 → ∀ x', Nn n x' → Rc n m a t x' → x' k = 0) := by
  constructor
  · intro h0
    have := h.nn k hk
    grind
  · intro h0 x' h1 h2
    have z := h.le h1 h2
    rw [gain_sum hk, gain_sum hk, h0] at z
    have := h1 k hk
    grind
theorem use_endless {n m k : Nat} {a : Nat → Nat → Rat} {t x z : Nat → Rat} (hk : k < n) (h : IsEndless n m a (gain k) t x z) : Nn n (fun j => x j + z j) ∧ Rc n m a t (fun j => x j + z j) ∧ 0 < x k + z k := by
  refine ⟨fun j hj => Rat.add_nonneg (h.nn j hj) (h.nz j hj), fun i hi => ?_, ?_⟩
  · have e : sm n (fun j => a j i * (x j + z j)) = sm n (fun j => a j i * x j) + sm n (fun j => a j i * z j) := by
      rw [← sm_add]; exact sm_congr fun j hj => by grind
    rw [e, h.rc i hi, h.rz i hi]; grind
  · have h1 := h.lt
    rw [gain_sum hk] at h1
    have := h.nn k hk
    grind
/-! ### used rows all together -/
def ysOf : List URes → List (List Rat)
  | [] => []
  | .used y :: r => y :: ysOf r
  | .barred _ :: r => ysOf r
theorem ysOf_mem : ∀ {us : List URes} {y : List Rat}, y ∈ ysOf us ↔ URes.used y ∈ us
  | [], y => by simp [ysOf]
  | .used z :: r, y => by simp [ysOf, ysOf_mem (us := r)]
  | .barred _ :: r, y => by simp [ysOf, ysOf_mem (us := r)]
/-- the sum of the lists' k-th numbers -/
def colSum (ys : List (List Rat)) (k : Nat) : Rat := sm ys.length fun p => colF ys p k
def avg (ys : List (List Rat)) (k : Nat) : Rat := colSum ys k / ys.length
theorem colSum_nn {ys : List (List Rat)} {n : Nat} (h : ∀ y ∈ ys, Nn n (vF y)) {k : Nat} (hk : k < n) : 0 ≤ colSum ys k := smQ_nonneg fun p hp => by
  unfold colF
  rw [List.getD_eq_getElem?_getD, List.getElem?_eq_getElem hp]
  exact h _ (List.getElem_mem hp) k hk
theorem avg_mix (hl : ∀ u ∈ rows, u.length = L) {ys : List (List Rat)} (hne : ys ≠ []) (h : ∀ y ∈ ys, Mix L rows (vF y)) : Mix L rows (avg ys) := by
  have hlen : (0 : Rat) < (ys.length : Rat) := by
    have : 0 < ys.length := List.length_pos_iff.mpr hne
    exact Rat.natCast_pos.mpr this
  have hat : ∀ p, p < ys.length → Mix L rows (fun k => colF ys p k) := fun p hp => by
    unfold colF
    rw [List.getD_eq_getElem?_getD, List.getElem?_eq_getElem hp]
    exact h _ (List.getElem_mem hp)
  have hs : ∀ (g : Nat → Rat) (v : Rat), (∀ p, p < ys.length → sm rows.length (fun k => g k * colF ys p k) = v) → sm rows.length (fun k => g k * avg ys k) = v := fun g v hv => by
    have e : sm rows.length (fun k => g k * avg ys k) = sm rows.length (fun k => sm ys.length (fun p => g k * colF ys p k)) * (ys.length : Rat)⁻¹ := by
      rw [← sm_mulR]
      exact sm_congr fun k hk => by
        unfold avg colSum
        rw [sm_mul, Rat.div_def]; grind
    rw [e, sm_comm]
    have e2 : sm ys.length (fun p => sm rows.length (fun k => g k * colF ys p k)) = ys.length * v := by
      have : sm ys.length (fun p => sm rows.length (fun k => g k * colF ys p k)) = sm ys.length (fun _ => v) := sm_congr hv
      rw [this]
      have gen : ∀ n : Nat, sm n (fun _ => v) = (n : Rat) * v := fun n => by
        induction n with
        | zero => simp [sm]
        | succ n ih => rw [sm_succ, ih]; rw [Rat.natCast_add]; grind
      exact gen _
    rw [e2]
    grind
  refine Mix.of hl (fun k hk => ?_) ?_ fun i hi => ?_
  · unfold avg
    rw [Rat.div_def]
    exact Rat.mul_nonneg (colSum_nn (fun y hy => (h y hy).nn) hk) (Rat.le_of_lt (Rat.inv_pos.mpr hlen))
  · have z := hs (fun _ => 1) 1 fun p hp => by
      have h1 := (hat p hp).one hl
      have e : sm rows.length (fun k => (1 : Rat) * colF ys p k) = sm rows.length (fun k => colF ys p k) := sm_congr fun k hk => by grind
      rw [e]; exact h1
    rw [← z]
    exact sm_congr fun k hk => by grind
  · exact hs (fun k => colF rows k i) 0 fun p hp => (hat p hp).lvl hl hi
/-- where the average is not 0 -/
theorem avg_ne {ys : List (List Rat)} {n k : Nat} (hk : k < n) (h : ∀ y ∈ ys, Nn n (vF y)) : avg ys k ≠ 0 ↔ ∃ y ∈ ys, 0 < vF y k := by
  constructor
  · intro h0
    refine Classical.byContradiction fun hno => h0 ?_
    unfold avg
    have : colSum ys k = 0 := sm_zero fun p hp => by
      unfold colF
      rw [List.getD_eq_getElem?_getD, List.getElem?_eq_getElem hp]
      have h1 := h _ (List.getElem_mem hp) k hk
      have h2 : ¬ 0 < vF ys[p] k := fun z => hno ⟨_, List.getElem_mem hp, z⟩
      show vF ys[p] k = 0
      grind
    rw [this, Rat.div_def]; grind
  · rintro ⟨y, hy, hp⟩ h0
    have hne : ys ≠ [] := fun e => by subst e; simp at hy
    have hlen : (0 : Rat) < (ys.length : Rat) := Rat.natCast_pos.mpr (List.length_pos_iff.mpr hne)
    unfold avg at h0
    have h1 : colSum ys k = 0 := by
      have : colSum ys k / ys.length * ys.length = colSum ys k := Rat.div_mul_cancel (by grind)
      rw [h0] at this
      grind
    obtain ⟨p, hpl, e⟩ := List.getElem_of_mem hy
    have h2 := smQ_each (f := fun p => colF ys p k) (n := ys.length) (fun p hp => by
      show 0 ≤ colF ys p k
      unfold colF
      rw [List.getD_eq_getElem?_getD, List.getElem?_eq_getElem hp]
      exact h _ (List.getElem_mem hp) k hk) h1 p hpl
    unfold colF at h2
    rw [List.getD_eq_getElem?_getD, List.getElem?_eq_getElem hpl] at h2
    have h3 : vF ys[p] k = 0 := h2
    rw [e] at h3
    grind
theorem used_corners (hl : ∀ u ∈ rows, u.length = L) (C : Corners L rows cs) {us : List URes} (hu : us.length = rows.length) (hok : ∀ k, k < rows.length → ∀ r, us[k]? = some r → UOk rows.length (L + 1) (colF (longer rows)) (vF (tgt L)) k r)
    {k : Nat} (hk : k < rows.length) : avg (ysOf us) k ≠ 0 ↔ ∃ v ∈ cs, vF v k ≠ 0 := by
  have hys : ∀ y ∈ ysOf us, Mix L rows (vF y) := fun y hy => by
    obtain ⟨p, hp, e⟩ := List.getElem_of_mem (ysOf_mem.mp hy)
    have := hok p (by omega) _ (List.getElem?_eq_getElem hp)
    rw [e] at this
    exact ⟨this.2.1, this.2.2.1⟩
  rw [avg_ne hk fun y hy => (hys y hy).nn]
  constructor
  · rintro ⟨y, hy, hp⟩
    obtain ⟨v, hv, hle⟩ := corner_le hl C (gain k) (hys y hy)
    rw [gain_sum hk, gain_sum hk] at hle
    exact ⟨v, hv, by grind⟩
  · rintro ⟨v, hv, hne⟩
    have hm := (C.mix v hv).2
    have hk2 : k < us.length := by omega
    have := hok k hk _ (List.getElem?_eq_getElem hk2)
    cases e : us[k] with
    | used y =>
      rw [e] at this
      exact ⟨y, ysOf_mem.mpr (by rw [← e]; exact List.getElem_mem hk2), this.2.2.2⟩
    | barred s =>
      rw [e] at this
      exact absurd (this _ hm.nn hm.rc) hne
theorem used_some (hl : ∀ u ∈ rows, u.length = L) {us : List URes} (hu : us.length = rows.length) (hok : ∀ k, k < rows.length → ∀ r, us[k]? = some r → UOk rows.length (L + 1) (colF (longer rows)) (vF (tgt L)) k r) {x : Nat → Rat} (h : Mix L rows x) : ysOf us ≠ [] := by
  intro e0
  have z := h.one hl
  rw [sm_zero fun k hk => ?_] at z
  · revert z; decide
  · have hk2 : k < us.length := by omega
    have := hok k hk _ (List.getElem?_eq_getElem hk2)
    cases e : us[k] with
    | used y =>
      have : y ∈ ysOf us := ysOf_mem.mpr (by rw [← e]; exact List.getElem_mem hk2)
      rw [e0] at this; simp at this
    | barred s =>
      rw [e] at this
      exact this _ h.nn h.rc
end
end Mx
namespace K19
open PySem PySem.Spec PyProof.Rows L2

/-! ### what a value stands for, in a heap -/
abbrev Rp (α : Type) := Hp → V → α → Prop
section
variable (K : PySem.W.Frag)
def iI : Rp Int := fun _ v n => v = .int n
def iB : Rp Bool := fun _ v b => v = .bl b
def iQ : Rp Rat := fun H v q => ∃ a, v = .ref a ∧ SqT K H a [.int q.num, .int (q.den : Int)]
def iT {α : Type} (R : Rp α) : Rp (List α) := fun H v xs => ∃ a vs, v = .ref a ∧ SqT K H a vs ∧ Paired (R H) vs xs
def iL {α : Type} (R : Rp α) : Rp (List α) := fun H v xs => ∃ a vs, v = .ref a ∧ SqL K H a vs ∧ Paired (R H) vs xs
def iP {α β : Type} (R : Rp α) (S : Rp β) : Rp (α × β) := fun H v p => ∃ a x y, v = .ref a ∧ SqT K H a [x, y] ∧ R H x p.1 ∧ S H y p.2
/-- a list that is new and may be changed -/
def nL {α : Type} (R : Rp α) (H : Hp) (p : Addr) (xs : List α) : Prop := ∃ vs, H p = some (.lst vs) ∧ Paired (R H) vs xs
abbrev iRow : Rp (List Rat) := iT K (iQ K)
end
section
variable {K : PySem.W.Frag} {α β : Type} {R : Rp α} {S : Rp β} {H H' : Hp}
theorem nL.iL {p : Addr} {xs : List α} (h : nL R H p xs) : iL K R H (.ref p) xs := let ⟨vs, e, q⟩ := h; ⟨p, vs, rfl, SqL.of e, q⟩
theorem sameT {a : Addr} {xs : List V} (e : Same H H') (h : SqT K H a xs) : SqT K H' a xs := by
  rcases h with (h | ⟨o, h⟩) | h
  · exact .inl (.inl (e _ _ h))
  · exact .inl (.inr ⟨o, e _ _ h⟩)
  · exact .inr h
structure Mon (R : Rp α) : Prop where
  to : ∀ {H H' : Hp} {v : V} {x : α}, Same H H' → R H v x → R H' v x
theorem paired_mono (m : Mon R) (e : Same H H') {vs : List V} {xs : List α} (h : Paired (R H) vs xs) : Paired (R H') vs xs := Paired.mapP h fun _ _ q => m.to e q
theorem mI : Mon iI := ⟨fun _ h => h⟩
theorem mB : Mon iB := ⟨fun _ h => h⟩
theorem mQ : Mon (iQ K) := ⟨fun e ⟨a, h1, h2⟩ => ⟨a, h1, sameT e h2⟩⟩
theorem mT (m : Mon R) : Mon (iT K R) := ⟨fun e ⟨a, vs, h1, h2, h3⟩ => ⟨a, vs, h1, sameT e h2, paired_mono m e h3⟩⟩
theorem mL (m : Mon R) : Mon (iL K R) := ⟨fun e ⟨a, vs, h1, h2, h3⟩ => ⟨a, vs, h1, e.seq h2, paired_mono m e h3⟩⟩
theorem mP (m : Mon R) (n : Mon S) : Mon (iP K R S) := ⟨fun e ⟨a, x, y, h1, h2, h3, h4⟩ => ⟨a, x, y, h1, sameT e h2, m.to e h3, n.to e h4⟩⟩
theorem mRow : Mon (iRow K) := mT mQ
/-! ### a list elsewhere is changed -/
/-- NE: what is asked of the value against the changed list's address -/
structure Rob (NE : V → Addr → Prop) (R : Rp α) : Prop where
  to : ∀ {H : Hp} {D : Addr} {l l' : List V} {v : V} {x : α}, H D = some (.lst l) → NE v D → R H v x → R (upd H D (.lst l')) v x
abbrev noNE : V → Addr → Prop := fun _ _ => True
abbrev listNE : V → Addr → Prop := fun v D => v ≠ .ref D
theorem robT {D a : Addr} {l l' xs : List V} (hD : H D = some (.lst l)) (h : SqT K H a xs) : SqT K (upd H D (.lst l')) a xs := by
  rcases h with (h | ⟨o, h⟩) | h
  · exact .inl (.inl (by rw [upd_ne (ne_of h hD (by intro z; cases z))]; exact h))
  · exact .inl (.inr ⟨o, by rw [upd_ne (ne_of h hD (by intro z; cases z))]; exact h⟩)
  · exact .inr h
theorem robL {D a : Addr} {l l' xs : List V} (hD : H D = some (.lst l)) (hne : a ≠ D) (h : SqL K H a xs) : SqL K (upd H D (.lst l')) a xs := by
  rcases h with (h | ⟨o, h⟩) | h
  · exact .inl (.inl (by rw [upd_ne hne]; exact h))
  · exact .inl (.inr ⟨o, by rw [upd_ne hne]; exact h⟩)
  · exact .inr h
theorem robI : Rob noNE iI := ⟨fun _ _ h => h⟩
theorem robB : Rob noNE iB := ⟨fun _ _ h => h⟩
theorem robQ : Rob noNE (iQ K) := ⟨fun hD _ ⟨a, h1, h2⟩ => ⟨a, h1, robT hD h2⟩⟩
theorem robTT (r : Rob noNE R) : Rob noNE (iT K R) := ⟨fun hD _ ⟨a, vs, h1, h2, h3⟩ => ⟨a, vs, h1, robT hD h2, Paired.mapP h3 fun _ _ q => r.to hD trivial q⟩⟩
theorem robP (r : Rob noNE R) (s : Rob noNE S) : Rob noNE (iP K R S) := ⟨fun hD _ ⟨a, x, y, h1, h2, h3, h4⟩ => ⟨a, x, y, h1, robT hD h2, r.to hD trivial h3, s.to hD trivial h4⟩⟩
theorem robLL (r : Rob noNE R) : Rob listNE (iL K R) := ⟨fun hD hne ⟨a, vs, h1, h2, h3⟩ => ⟨a, vs, h1, robL hD (fun e => hne (by rw [h1, e])) h2, Paired.mapP h3 fun _ _ q => r.to hD trivial q⟩⟩
theorem robRow : Rob noNE (iRow K) := robTT robQ
/-- a new list leaves all as it was -/
theorem same_new {p : Addr} {o : HO} (hp : H p = none) : Same H (upd H p o) := fun b u e => by rw [upd_ne (ne_of_none e hp)]; exact e
/-- a list made since H is changed -/
theorem same_put {H1 : Hp} {D : Addr} {o : HO} (h : Same H H1) (hD : H D = none) : Same H (upd H1 D o) := fun b u e => by rw [upd_ne (ne_of_none e hD)]; exact h b u e

theorem pget {vs : List V} {xs : List α} : ∀ {vs : List V} {xs : List α} {i : Nat} {v : V}, Paired (R H) vs xs → vs[i]? = some v → ∃ x, xs[i]? = some x ∧ R H v x
  | _, _, _, _, .nil, e => by simp at e
  | _, _, 0, _, .cons r _, e => by simp at e; subst e; exact ⟨_, rfl, r⟩
  | _, _, i + 1, v, .cons _ t, e => by
    obtain ⟨u, h1, h2⟩ := pget (vs := []) (xs := []) (i := i) (v := v) t (by simpa using e)
    exact ⟨u, by simpa using h1, h2⟩
theorem pgetR : ∀ {vs : List V} {xs : List α} {i : Nat} {x : α}, Paired (R H) vs xs → xs[i]? = some x → ∃ v, vs[i]? = some v ∧ R H v x
  | _, _, _, _, .nil, e => by simp at e
  | _, _, 0, _, .cons r _, e => by simp at e; subst e; exact ⟨_, rfl, r⟩
  | _, _, i + 1, v, .cons _ t, e => by
    obtain ⟨u, h1, h2⟩ := pgetR (i := i) (x := v) t (by simpa using e)
    exact ⟨u, by simpa using h1, h2⟩
theorem papp : ∀ {vs ws : List V} {xs ys : List α}, Paired (R H) vs xs → Paired (R H) ws ys → Paired (R H) (vs ++ ws) (xs ++ ys)
  | _, _, _, _, .nil, s => s
  | _, _, _, _, .cons r t, s => .cons r (papp t s)
theorem plen {vs : List V} {xs : List α} (h : Paired (R H) vs xs) : vs.length = xs.length := Paired.length h
theorem pset {v : V} {x : α} (r : R H v x) : ∀ {vs : List V} {xs : List α} (i : Nat), Paired (R H) vs xs → Paired (R H) (vs.set i v) (xs.set i x)
  | _, _, _, .nil => .nil
  | _, _, 0, .cons _ t => .cons r t
  | _, _, i + 1, .cons q t => .cons q (pset r i t)
theorem ptake : ∀ {vs : List V} {xs : List α} (i : Nat), Paired (R H) vs xs → Paired (R H) (vs.take i) (xs.take i)
  | _, _, _, .nil => by simp; exact .nil
  | _, _, 0, _ => .nil
  | _, _, i + 1, .cons q t => .cons q (ptake i t)
theorem pdrop : ∀ {vs : List V} {xs : List α} (i : Nat), Paired (R H) vs xs → Paired (R H) (vs.drop i) (xs.drop i)
  | _, _, _, .nil => by simp; exact .nil
  | _, _, 0, t => t
  | _, _, i + 1, .cons q t => pdrop i t
theorem perase : ∀ {vs : List V} {xs : List α} (i : Nat), Paired (R H) vs xs → Paired (R H) (vs.eraseIdx i) (xs.eraseIdx i)
  | _, _, _, .nil => .nil
  | _, _, 0, .cons _ t => t
  | _, _, i + 1, .cons q t => .cons q (perase i t)
theorem pint : ∀ {vs : List V} {xs : List Int}, Paired (iI H) vs xs → vs = xs.map V.int
  | _, _, .nil => rfl
  | _, _, .cons r t => by rw [show _ = V.int _ from r, pint t]; rfl
theorem pintR : ∀ (xs : List Int), Paired (iI H) (xs.map V.int) xs
  | [] => .nil
  | _ :: r => .cons rfl (pintR r)
theorem pbool : ∀ {vs : List V} {xs : List Bool}, Paired (iB H) vs xs → vs = xs.map V.bl
  | _, _, .nil => rfl
  | _, _, .cons r t => by rw [show _ = V.bl _ from r, pbool t]; rfl
end
end K19
namespace K19
open PySem PySem.Spec PyProof.Rows L2
/-! ### walks with what they yield -/
section
variable {K : PySem.W.Frag} {α β : Type} {R : Rp α} {S : Rp β} {H H' : Hp}
def YR (R : Rp α) (xs : List α) : Nat → Hp → V → Hp → Prop := fun i H v H' => Same H H' ∧ ∃ x, xs[i]? = some x ∧ R H' v x
abbrev TW (J : It) (H0 : Hp) (R : Rp α) (xs : List α) : Prop := Walk J xs.length (Same H0) (YR R xs)
theorem tw_list (mR : Mon R) {a : Addr} {vs : List V} {xs : List α} (h : SqL K H a vs) (q : Paired (R H) vs xs) : TW (Itl K a) H R xs := by
  have z := walk_list (K := K) (a := a) (xs := vs)
  rw [plen q] at z
  refine z.mono (fun H1 s => s.seq h) fun i H1 v H2 hi s y => ?_
  obtain ⟨rfl, e⟩ := y
  obtain ⟨x, ex, r⟩ := pget (vs := []) (xs := ([] : List α)) q e
  exact ⟨Same.refl _, x, ex, mR.to s r⟩
theorem tw_tup (mR : Mon R) {a : Addr} {vs : List V} {xs : List α} (h : SqT K H a vs) (q : Paired (R H) vs xs) : TW (Itt K a) H R xs := by
  have z := walk_tup (K := K) (a := a) (xs := vs)
  rw [plen q] at z
  refine z.mono (fun H1 s => sameT s h) fun i H1 v H2 hi s y => ?_
  obtain ⟨rfl, e⟩ := y
  obtain ⟨x, ex, r⟩ := pget (vs := []) (xs := ([] : List α)) q e
  exact ⟨Same.refl _, x, ex, mR.to s r⟩
/-- the ups from lo on, n of them -/
def ups (lo : Int) (n : Nat) : List Int := (List.range n).map fun i => lo + ((i : Nat) : Int)
theorem ups_len {lo : Int} {n : Nat} : (ups lo n).length = n := by unfold ups; simp
theorem ups_get {lo : Int} {n i : Nat} (h : i < n) : (ups lo n)[i]? = some (lo + (i : Int)) := by unfold ups; simp [h]
theorem tw_range {lo : Int} {n : Nat} : TW (Itr lo n) H iI (ups lo n) := by
  have z := walk_range (lo := lo) (n := n)
  have e : (ups lo n).length = n := ups_len
  unfold TW
  rw [e]
  refine z.mono (fun _ _ => trivial) fun i H1 v H2 hi s y => ?_
  obtain ⟨rfl, e⟩ := y
  exact ⟨Same.refl _, _, ups_get hi, e⟩
/-- a comprehension, with tests -/
theorem lc_gen {J : It} {H1 : Hp} {xs : List α} (w : TW J H1 R xs) {NE : V → Addr → Prop} (rb : Rob NE S) (mS : Mon S) (f : α → β) (p : α → Bool) {g : TG} {tt : TT} {te : TE} {vs : List Nat} {σ : L2.St} {Q : VK}
    (hlen : xs.length ≤ sizeLine)
    (hs : ∀ (x : α) (v : V) (H : Hp) (C : VK) (C' : Hp → Prop), x ∈ xs → Same H1 H → R H v x → (p x = true → ∀ y H4, Same H H4 → S H4 y (f x) → (∀ D acc, H1 D = none → H D = some (.lst acc) → NE y D) → C y H4) → (p x = false → ∀ H3, Same H H3 → C' H3) →
      g v (wipe σ vs) H fun σ2 H2 => wipe σ2 vs = wipe σ vs ∧ tt σ2 H2 fun b H3 => if b = true then te σ2 H3 C else C' H3)
    (hq : ∀ D H', Same H1 H' → H1 D = none → nL S H' D ((xs.filter p).map f) → Q (.ref D) H') :
    ∀ D, H1 D = none → ∃ W : Nat → Nat → Hp → Prop, (∃ m, W 0 m (upd H1 D (.lst []))) ∧ ∀ i m H, W i m H →
      (J.stop i H ∧ Q (.ref D) H) ∨ (J.go i H ∧ ∃ Nx : Hp → Prop, (∀ H', Nx H' → ∃ m', m' < m ∧ W (i + 1) m' H') ∧ ∀ x H', J.yld i H x H' → g x (wipe σ vs) H' fun σ2 H2 => wipe σ2 vs = wipe σ vs ∧ tt σ2 H2 fun b H3 =>
        if b = true then te σ2 H3 fun y H4 => ∃ acc, H4 D = some (.lst acc) ∧ acc.length < sizeLine ∧ Nx (upd H4 D (.lst (acc ++ [y]))) else Nx H3) := by
  intro D hD
  refine lc_it w (fun i H => Same H1 H ∧ ∃ acc, H D = some (.lst acc) ∧ Paired (S H) acc (((xs.take i).filter p).map f) ∧ ∀ y ∈ acc, NE y D) ?_ (fun i H _ h => h.1) ?_ ?_
  · exact ⟨same_new hD, [], upd_same, .nil, by simp⟩
  · rintro i v H H' hi ⟨s, acc, hacc, hp, hne⟩ ⟨s', x, hx, hr⟩
    have hm : x ∈ xs := List.mem_of_getElem? hx
    have hacc' : H' D = some (.lst acc) := s' _ _ hacc
    have lacc : acc.length ≤ i := by
      have := plen hp
      rw [List.length_map] at this
      have h2 := List.length_filter_le p (xs.take i)
      have h3 : (xs.take i).length ≤ i := by simp; omega
      omega
    have tk : xs.take (i + 1) = xs.take i ++ [x] := by rw [List.take_add_one, hx]; rfl
    refine hs x v H' _ _ hm (s.trans s') hr ?_ ?_
    · intro hp1 y H4 s4 hy hny
      refine ⟨acc, s4 _ _ hacc', by omega, same_put (s.trans (s'.trans s4)) hD, acc ++ [y], upd_same, ?_, ?_⟩
      · rw [tk, List.filter_append, List.map_append]
        have e1 : [x].filter p = [x] := by simp [hp1]
        rw [e1]
        have q4 : Paired (S H4) acc (((xs.take i).filter p).map f) := paired_mono mS (s'.trans s4) hp
        have rb1 : ∀ {l : List V} {zs : List β}, (∀ y ∈ l, NE y D) → Paired (S H4) l zs → Paired (S (upd H4 D (.lst (acc ++ [y])))) l zs := by
          intro l zs hl h
          induction h with
          | nil => exact .nil
          | cons r t ih => exact .cons (rb.to (s4 _ _ hacc') (hl _ (by simp)) r) (ih fun y hy => hl y (by simp [hy]))
        exact papp (rb1 hne q4) (.cons (rb.to (s4 _ _ hacc') (hny D acc hD hacc') hy) .nil)
      · intro z hz
        rcases List.mem_append.mp hz with h | h
        · exact hne z h
        · rw [List.mem_singleton] at h; subst h; exact hny D acc hD hacc'
    · intro hp0 H3 s3
      refine ⟨s.trans (s'.trans s3), acc, s3 _ _ hacc', ?_, hne⟩
      rw [tk, List.filter_append, List.map_append]
      have e1 : [x].filter p = [] := by simp [hp0]
      rw [e1]
      simpa using paired_mono mS (s'.trans s3) hp
  · rintro H ⟨s, acc, hacc, hp, _⟩
    rw [List.take_length] at hp
    exact hq D H s hD ⟨acc, hacc, hp⟩
/-- a comprehension without tests -/
theorem lc_map {J : It} {H1 : Hp} {xs : List α} (w : TW J H1 R xs) {NE : V → Addr → Prop} (rb : Rob NE S) (mS : Mon S) (f : α → β) {g : TG} {te : TE} {vs : List Nat} {σ : L2.St} {Q : VK}
    (hlen : xs.length ≤ sizeLine)
    (hs : ∀ (x : α) (v : V) (H : Hp) (C : VK), x ∈ xs → Same H1 H → R H v x → (∀ y H4, Same H H4 → S H4 y (f x) → (∀ D acc, H1 D = none → H D = some (.lst acc) → NE y D) → C y H4) →
      g v (wipe σ vs) H fun σ2 H2 => wipe σ2 vs = wipe σ vs ∧ te σ2 H2 C)
    (hq : ∀ D H', Same H1 H' → H1 D = none → nL S H' D (xs.map f) → Q (.ref D) H') :
    ∀ D, H1 D = none → ∃ W : Nat → Nat → Hp → Prop, (∃ m, W 0 m (upd H1 D (.lst []))) ∧ ∀ i m H, W i m H →
      (J.stop i H ∧ Q (.ref D) H) ∨ (J.go i H ∧ ∃ Nx : Hp → Prop, (∀ H', Nx H' → ∃ m', m' < m ∧ W (i + 1) m' H') ∧ ∀ x H', J.yld i H x H' → g x (wipe σ vs) H' fun σ2 H2 => wipe σ2 vs = wipe σ vs ∧ tYes σ2 H2 fun b H3 =>
        if b = true then te σ2 H3 fun y H4 => ∃ acc, H4 D = some (.lst acc) ∧ acc.length < sizeLine ∧ Nx (upd H4 D (.lst (acc ++ [y]))) else Nx H3) := by
  refine lc_gen (tt := tYes) w rb mS f (fun _ => true) hlen (fun x v H C C' hm s r h1 h2 => ?_) (fun D H' s hD h => hq D H' s hD ?_)
  · have z := hs x v H C hm s r (h1 rfl)
    exact z
  · have e : xs.filter (fun _ => true) = xs := by simp
    rw [e] at h
    exact h
end
end K19
namespace K19
open PySem PySem.Spec L2
/-! ### a list or a tuple, by a flag -/
def SqB (K : PySem.W.Frag) (k : Bool) (H : Hp) (a : Addr) (xs : List V) : Prop := if k = true then SqT K H a xs else SqL K H a xs
def IsB (k : Bool) (h : Heap) (it a : Addr) (i : Nat) : Prop := if k = true then h.IsTupleIter it a i else h.IsListIter it a i
def ArB (k : Bool) (h : Heap) (a : Addr) (its : Array Value) : Prop := if k = true then h.IsTuple a its else h.IsList a its
def obB (k : Bool) (a : Addr) : Obj := { cls := .type (if k = true then "tuple_iterator" else "list_iterator"), data := .fields #[.ref a, .int 0 0] }
section
variable {K : PySem.W.Frag} {α β : Type} {R : Rp α} {S : Rp β} {H H' : Hp}
theorem SqB.same {k : Bool} {a : Addr} {xs : List V} (e : Same H H') (h : SqB K k H a xs) : SqB K k H' a xs := by
  cases k
  · exact e.seq h
  · exact sameT e h
end
theorem SqB.arr {X : Cx} {pins : List (Addr × Obj)} {σ : L2.St} {H : Hp} {s : Shared} {k : Bool} {a : Addr} {xs : List V} (I : Inv X pins σ H s) (h : SqB X.K k H a xs) : ∃ its : List Value, Vals xs its ∧ ArB k s.heap a its.toArray ∧ a < s.heap.objs.size := by
  cases k
  · obtain ⟨its, r, p, _⟩ := I.list h
    exact ⟨its, r, p.isList, p.lt⟩
  · obtain ⟨its, r, p, _⟩ := I.tuple h
    exact ⟨its, r, (show s.heap.IsTuple a its.toArray from p), p.lt⟩
theorem SqB.inj {X : Cx} {pins : List (Addr × Obj)} {σ : L2.St} {H : Hp} {s : Shared} {k : Bool} {a : Addr} {xs ys : List V} (I : Inv X pins σ H s) (h : SqB X.K k H a xs) (h' : SqB X.K k H a ys) : xs = ys := by
  cases k
  · exact I.list_inj h h'
  · exact I.tuple_inj h h'
theorem drawsB {prog : Program} {w : World} {A : Around} (hh : A.handled = none) (k : Bool) (it a : Addr) (hne : a ≠ it) (items : Array Value) :
    Draws prog w A it [it, a] items.size (fun i v => items[i]? = some v) (fun i h => IsB k h it a i ∧ ArB k h a items) := by
  cases k
  · exact Draws.list hh it a hne items
  · exact Draws.tuple hh it a hne items
theorem IsB.obj {k : Bool} {h : Heap} {it a : Addr} {i : Nat} (x : IsB k h it a i) : ∃ o, h.get? it = some o ∧ ∀ v, o.data ≠ .cell v := by
  cases k
  · obtain ⟨o, e, _, d⟩ := (show h.IsListIter it a i from x)
    exact ⟨o, e, fun v q => by rw [d] at q; cases q⟩
  · obtain ⟨o, e, _, d⟩ := (show h.IsTupleIter it a i from x)
    exact ⟨o, e, fun v q => by rw [d] at q; cases q⟩
theorem IsB.kept {k : Bool} {h h' : Heap} {it a : Addr} {i : Nat} (x : IsB k h it a i) (e : ∀ o, h.get? it = some o → h'.get? it = some o) : IsB k h' it a i := by
  cases k
  · exact Heap.IsListIter.at (show h.IsListIter it a i from x) e
  · exact Heap.IsTupleIter.at (show h.IsTupleIter it a i from x) e
theorem beginsB (k : Bool) (a : Addr) (items : Array Value) : Begins (.ref a) (obB k a) fun h => ArB k h a items := by
  cases k
  · exact begins_list a items
  · exact begins_tuple a items
theorem IsB.first {k : Bool} {h : Heap} {it a : Addr} (e : h.get? it = some (obB k a)) : IsB k h it a 0 := by
  cases k
  · exact ⟨_, e, rfl, rfl⟩
  · exact ⟨_, e, rfl, rfl⟩
/-! ### zip of two sequences of any kind -/
def ItM (K : PySem.W.Frag) (k1 k2 : Bool) (a b : Addr) : It where
  go := fun i H => ∃ (xs ys : List V) (x y : V), SqB K k1 H a xs ∧ SqB K k2 H b ys ∧ xs[i]? = some x ∧ ys[i]? = some y
  yld := fun i H v H' => ∃ T x y, v = .ref T ∧ H T = none ∧ H' = upd H T (.tup [x, y]) ∧ (∀ xs, SqB K k1 H a xs → xs[i]? = some x) ∧ ∀ ys, SqB K k2 H b ys → ys[i]? = some y
  stop := fun i H => ∃ xs ys : List V, SqB K k1 H a xs ∧ SqB K k2 H b ys ∧ i ≤ xs.length ∧ i ≤ ys.length ∧ (i = xs.length ∨ i = ys.length)
theorem turn_zipM {P : Program} {w : World} {K : PySem.W.Frag} {elts : List Expr} {kk : Nat} {tpos : Pos} {a b z TI TO i1 i2 : Addr} (k1 k2 : Bool) (D : ZipSep2 z TI TO i1 i2 [i1, a] [i2, b]) (ha : a ≠ i1) (hb : b ≠ i2) :
    Turn P w K (.Tuple elts kk tpos) (ItM K k1 k2 a b) [z, TI, TO, i1, i2] z (fun i h => IsZip h z TI TO .none ∧ IsTupOf2 h TI (.ref i1) (.ref i2) ∧ (∃ x y, IsTupOf2 h TO x y) ∧ IsB k1 h i1 a i ∧ IsB k2 h i2 b i) where
  mem := by simp
  obj := fun i h st c hc => by
    obtain ⟨hz, hTI, ⟨x, y, hTO⟩, h1, h2⟩ := st
    simp only [List.mem_cons, List.not_mem_nil, or_false] at hc
    rcases hc with rfl | rfl | rfl | rfl | rfl
    · exact ⟨_, hz, fun v q => nomatch q⟩
    · exact ⟨_, hTI, fun v q => nomatch q⟩
    · exact ⟨_, hTO, fun v q => nomatch q⟩
    · exact h1.obj
    · exact h2.obj
  keep := fun i h h' st k => by
    obtain ⟨hz, hTI, ⟨x, y, hTO⟩, h1, h2⟩ := st
    exact ⟨k z (by simp) _ hz, k TI (by simp) _ hTI, ⟨x, y, k TO (by simp) _ hTO⟩, h1.kept fun o q => k i1 (by simp) o q, h2.kept fun o q => k i2 (by simp) o q⟩
  item := by
    intro X hP hw hK hc i pins s σ H E I hf st hg
    subst hP hw hK
    obtain ⟨hz, hTI, ⟨x0, y0, hTO⟩, h1, h2⟩ := st
    obtain ⟨xs, ys, x, y, hqx, hqy, hx, hy⟩ := hg
    obtain ⟨its, rv, p, la⟩ := hqx.arr I
    obtain ⟨its2, rv2, p2, lb⟩ := hqy.arr I
    have hd := I.ok.hd hc
    have l1 : i < its.toArray.size := by
      have := rv.length
      have q := (List.getElem?_eq_some_iff.mp hx).1
      simp; omega
    have l2 : i < its2.toArray.size := by
      have := rv2.length
      have q := (List.getElem?_eq_some_iff.mp hy).1
      simp; omega
    have hzl : z < s.heap.objs.size := Heap.lt_size hz
    refine wpAny_pyNext_zipD2_item D (drawsB (A := X.A.in1) (show X.A.in1.handled = none from hd) k1 i1 a ha its.toArray) (drawsB (A := X.A.in1) (show X.A.in1.handled = none from hd) k2 i2 b hb its2.toArray) hz hTI hTO ⟨h1, p⟩ ⟨h2, p2⟩ l1 l2 fun u u2 h' tk hu hu2 z' TO' st1 st2 hT hsz hk => ?_
    obtain ⟨v1, e1, ru⟩ := rv.get hx
    obtain ⟨v2, e2, ru2⟩ := rv2.get hy
    have eu : u = v1 := by
      have q : its[i]? = some u := by simpa using hu
      rw [e1] at q; exact (Option.some.inj q).symm
    have eu2 : u2 = v2 := by
      have q : its2[i]? = some u2 := by simpa using hu2
      rw [e2] at q; exact (Option.some.inj q).symm
    subst eu eu2
    refine ⟨_, rfl, wpAny_letOwnedTupleGo_zip (s := { s with heap := h', toks := tk }) z' fun h'' z'' sb => ?_⟩
    have hT2 : h''.get? s.heap.objs.size = some { cls := .type "tuple", data := .seq #[u, u2] } := (sb.2 _ (Nat.ne_of_gt hzl)).trans hT
    have new : ObjOk X.prog X.w (upd H s.heap.objs.size (.tup [x, y])) h'' s.heap.objs.size (.tup [x, y]) :=
      ⟨by show 2 ≤ sizeLine; decide, [u, u2], .cons ru (.cons ru2 .nil), ⟨_, hT2, rfl, _, rfl⟩⟩
    have I1 : Inv X pins σ (upd H s.heap.objs.size (.tup [x, y])) { s with heap := h'', toks := tk } :=
      I.turnedNew (t' := tk) (ch := [z, TI, TO, i1, i2]) (fun c o hb q => (sb.2 c (fun q' => hb (by simp [q']))).trans (hk c o (fun q' => hb (by simp [q'])) (fun q' => hb (by simp [q'])) (fun q' => hb (by simp [q'])) (fun q' => hb (by simp [q'])) q)) hf (Nat.le_refl _) new
    refine ⟨.ref s.heap.objs.size, _, I1, rfl, ⟨_, x, y, rfl, I.hok.fresh (Nat.le_refl _), rfl, fun l hl => by rw [hl.inj I hqx]; exact hx, fun l hl => by rw [hl.inj I hqy]; exact hy⟩, ⟨z'', ?_, ⟨u, u2, ?_⟩, ?_, ?_⟩, fun c hcm => ?_⟩
    · exact (sb.2 _ D.TIz).trans (hk _ _ D.TIz D.TITO D.TIi1 D.TIi2 hTI)
    · exact (sb.2 _ D.TOz).trans TO'
    · exact st1.1.kept fun o q => (sb.2 _ D.zi1.symm).trans q
    · exact st2.1.kept fun o q => (sb.2 _ D.zi2.symm).trans q
    · have hlt : c < s.heap.objs.size := by
        simp only [List.mem_cons, List.not_mem_nil, or_false] at hcm
        rcases hcm with rfl | rfl | rfl | rfl | rfl
        · exact hzl
        · exact Heap.lt_size hTI
        · exact Heap.lt_size hTO
        · obtain ⟨_, e1, _⟩ := h1.obj; exact Heap.lt_size e1
        · obtain ⟨_, e2, _⟩ := h2.obj; exact Heap.lt_size e2
      rw [upd_ne (Nat.ne_of_lt hlt)]
      exact (hf c hcm).1
  done := by
    intro X hP hw hK hc i pins s σ H E I hf st hg
    subst hP hw hK
    obtain ⟨hz, hTI, ⟨x0, y0, hTO⟩, h1, h2⟩ := st
    obtain ⟨xs, ys, hqx, hqy, g1, g2, g3⟩ := hg
    obtain ⟨its, rv, p, _⟩ := hqx.arr I
    obtain ⟨its2, rv2, p2, _⟩ := hqy.arr I
    have l1 := rv.length
    have l2 := rv2.length
    have hd := I.ok.hd hc
    refine wpAny_pyNext_zipD2_end D (drawsB (A := X.A.in1) (show X.A.in1.handled = none from hd) k1 i1 a ha its.toArray) (drawsB (A := X.A.in1) (show X.A.in1.handled = none from hd) k2 i2 b hb its2.toArray) hz hTI hTO ⟨h1, p⟩ ⟨h2, p2⟩ (by simp; omega) (by simp; omega) (by simp; omega) fun h' tk hk => ⟨rfl, ?_⟩
    exact I.turnedL (t' := tk) (ch := [z, TI, TO, i1, i2]) (fun c o hb q => hk c o (fun q' => hb (by simp [q'])) (fun q' => hb (by simp [q'])) (fun q' => hb (by simp [q'])) (fun q' => hb (by simp [q'])) q) hf
  self := fun A i s Q E st h => wpAny_pyIter_zip st.1 h
def iZipM (K : PySem.W.Frag) (k1 k2 : Bool) (ta : TA) : TI := fun σ H R => ta σ H fun vs H1 => ∃ a b xs ys, vs = [.ref a, .ref b] ∧ SqB K k1 H1 a xs ∧ SqB K k2 H1 b ys ∧ R (ItM K k1 k2 a b) H1
theorem pi_zipM {X : Cx} (k1 k2 : Bool) {e e2 : Expr} {ta : TA} {p pos tpos : Pos} {elts : List Expr} {kk : Nat} (hg : Gl X "zip") (hm : X.mg "zip" = none) (ha : PA X [e, e2] ta)
    (hs : starEach [e, e2] X.env = (false, eval e X.env) :: starEach [e2] X.env := by rfl) (hpl : (backTo pos (starEach [e2] X.env)).any (·.1) = false := by rfl) :
    PI X (.Tuple elts kk tpos) (.Call (.Name "zip" p) [e, e2] [] pos) (iZipM X.K k1 k2 ta) := by
  refine ⟨fun pins s σ H R I h => ?_⟩
  refine PyProof.Rows.Call_ (ld_blt I hg hm PyProof.Rows.boot_zip (PyProof.Rows.callWith_type1 (thn (ha.run pos pins s σ H _ I h) fun us s1 ⟨vs, H1, I1, r1, q1⟩ => ?_) hs hpl))
  obtain ⟨a, b, xs, ys, rfl, hqx, hqy, q⟩ := q1
  cases r1 with
  | cons r rr =>
    cases rr with
    | cons r' rr =>
      cases rr
      cases r
      cases r'
      obtain ⟨its, rv, p1, la⟩ := hqx.arr I1
      obtain ⟨its2, rv2, p2, lb⟩ := hqy.arr I1
      refine zip_begins2 (beginsB k1 a its.toArray) (beginsB k2 b its2.toArray) p1 p2 fun h' hz hTI hTO h1 h2 hsz hk => wpAny_pyIter_zip hz ?_
      have I2 : Inv X pins σ H1 { s1 with heap := h' } := I1.kept (t' := s1.toks) hk
      have sep := zip_sep2 (N := s1.heap.objs.size) (fp1 := [a]) (fp2 := [b]) (by simpa using la) (by simpa using lb)
      refine ⟨s1.heap.objs.size + 4, [s1.heap.objs.size + 4, s1.heap.objs.size + 2, s1.heap.objs.size + 3, s1.heap.objs.size, s1.heap.objs.size + 1], _, _, H1, rfl, I2, turn_zipM k1 k2 sep (Nat.ne_of_lt la) (Nat.ne_of_lt (Nat.lt_succ_of_lt lb)), ⟨hz, hTI, ⟨_, _, hTO⟩, IsB.first h1, IsB.first h2⟩, fun c hcm => ?_, q⟩
      have hle : s1.heap.objs.size ≤ c := by
        simp only [List.mem_cons, List.not_mem_nil, or_false] at hcm
        rcases hcm with rfl | rfl | rfl | rfl | rfl
        · exact Nat.le_add_right _ _
        · exact Nat.le_add_right _ _
        · exact Nat.le_add_right _ _
        · exact Nat.le_refl _
        · exact Nat.le_add_right _ _
      exact I1.fpOk hle (I1.hok.fresh hle)
end K19
namespace K19
open PySem PySem.Spec L2
open AutoSeq1 (wpAny_loadPart')
/-! ### enumerate(v), v a list or a tuple -/
theorem made_enumT (l : Addr) (items : Array Value) (ob : Obj) (hcls : ob.cls = .type "tuple") (n : Nat) (hdat : ob.data = .seq items n) :
    Meets (Builtin.«enumerate.__new__» ⟨[.type "enumerate", .ref l], []⟩) (fun _ R s => s.heap.get? l = some ob ∧
      R (.ok (.ret (.ref (s.heap.push (obB true l)).objs.size)))
        { s with heap := (s.heap.push (obB true l)).push { cls := .type "enumerate", data := .fields #[.none, .bool false, .ref s.heap.objs.size, rawInt 0, .none, .none] } }) :=
  .of_wp fun prog w A R s h => by
    obtain ⟨hp, g, d, tk, os⟩ := s; obtain ⟨hl, h⟩ := h
    obtain ⟨oc, od, odt, osl⟩ := ob
    replace hcls : oc = .type "tuple" := hcls
    replace hdat : odt = .seq items n := hdat
    subst hcls hdat
    have hsub := sub_enumerate
    have hT : Heap.IsTuple (Shared.heap ⟨hp, g, d, tk, os⟩) l items := ⟨_, hl, rfl, n, rfl⟩
    wp_walk using wpAny_loadPart' hl
    refine wpAny_stack_any fun st => wpAny_pure ?_
    split
    · rename_i c _ _ _ _ _
      cases (c == Value.type "enumerate")
      · wp_walk using wpAny_loadPart' hl, wpAny_pyIter_tuple hT
        exact ⟨_, rfl, h⟩
      · wp_walk using wpAny_loadPart' hl, wpAny_pyIter_tuple hT
        exact ⟨_, rfl, h⟩
    · wp_walk using wpAny_loadPart' hl, wpAny_pyIter_tuple hT
      exact ⟨_, rfl, h⟩
section
variable {prog : Program} {w : World} {A : Around} {E : Value → Shared → Prop} {s : Shared}
theorem enumB (k : Bool) {l : Addr} {items : Array Value} {Q : Value → Shared → Prop} (hL : ArB k s.heap l items)
    (h : ∀ h', IsEnum h' (s.heap.objs.size + 1) s.heap.objs.size 0 .none → IsB k h' s.heap.objs.size l 0 → h'.objs.size = s.heap.objs.size + 2 →
      (∀ b o, s.heap.get? b = some o → h'.get? b = some o) → Q (.ref (s.heap.objs.size + 1)) { s with heap := h' }) :
    wpAny (model prog w) A (call (.type "enumerate") [.ref l]) Q E s := by
  cases k
  · exact call_enumerate_list (show s.heap.IsList l items from hL) fun h' h1 h2 h3 h4 => h h' h1 h2 h3 h4
  · obtain ⟨ob, hl, hc, n, hd⟩ := (show s.heap.IsTuple l items from hL)
    refine callType_new F.called_enumerate (by decide) (F.typeCall_enumerate_1 _) (F.newCall_enumerate_1 _) (fun obj => F.args_object_init_2 obj _) F.entry_enumerate_new
      (made_enumT l items ob hc n hd) ⟨hl, ?_⟩
    have hz : (s.heap.push (obB true l)).objs.size = s.heap.objs.size + 1 := Heap.size_push ..
    show _ ∧ _
    rw [hz]
    have he := Heap.get?_push_size (s.heap.push (obB true l)) (o := { cls := .type "enumerate", data := .fields #[.none, .bool false, .ref s.heap.objs.size, rawInt 0, .none, .none] }) rfl
    rw [hz] at he
    refine ⟨⟨_, he, rfl⟩, h _ he (IsB.first (Heap.get?_push_of_some _ (Heap.get?_push_size _ rfl))) (by rw [Heap.size_push, hz]) fun b o x => Heap.get?_push_of_some _ (Heap.get?_push_of_some _ x)⟩
end
def ItE (K : PySem.W.Frag) (k : Bool) (a : Addr) : It where
  go := fun i H => ∃ (xs : List V) (x : V), SqB K k H a xs ∧ xs[i]? = some x
  yld := fun i H v H' => ∃ T x, v = .ref T ∧ H T = none ∧ H' = upd H T (.tup [.int (i : Nat), x]) ∧ ∀ xs, SqB K k H a xs → xs[i]? = some x
  stop := fun i H => ∃ xs : List V, SqB K k H a xs ∧ i = xs.length
theorem turn_enumB {P : Program} {w : World} {K : PySem.W.Frag} {elts : List Expr} {kk : Nat} {tpos : Pos} (k : Bool) {a e it : Addr} (hei : e ≠ it) (hea : e ≠ a) (hia : a ≠ it) :
    Turn P w K (.Tuple elts kk tpos) (ItE K k a) [e, it] e (fun i h => (∃ old, IsEnum h e it ((i : Nat) : Int) old) ∧ IsB k h it a i) where
  mem := by simp
  obj := fun i h st b hb => by
    obtain ⟨⟨old, he⟩, hi⟩ := st
    simp only [List.mem_cons, List.not_mem_nil, or_false] at hb
    rcases hb with rfl | rfl
    · exact ⟨_, he, fun v q => nomatch q⟩
    · exact hi.obj
  keep := fun i h h' st k => by
    obtain ⟨⟨old, he⟩, hi⟩ := st
    exact ⟨⟨old, k e (by simp) _ he⟩, hi.kept fun o q => k it (by simp) o q⟩
  item := by
    intro X hP hw hK hc i pins s σ H E I hf st hg
    subst hP hw hK
    obtain ⟨⟨old, he⟩, hi⟩ := st
    obtain ⟨xs, x, hq, hx⟩ := hg
    obtain ⟨its, rv, p, la⟩ := hq.arr I
    have hd := I.ok.hd hc
    have l1 : i < its.toArray.size := by
      have := rv.length
      have q := (List.getElem?_eq_some_iff.mp hx).1
      simp; omega
    have hel : e < s.heap.objs.size := Heap.lt_size he
    refine wpAny_pyNext_enum_itemD (drawsB (A := X.A.in1) (show X.A.in1.handled = none from hd) k it a hia its.toArray) he ⟨hi, p⟩ l1 hei (by simp [hei, hea]) fun u h' tk hu ho hst hT hsz hk => ?_
    obtain ⟨v1, e1, ru⟩ := rv.get hx
    have eu : u = v1 := by
      have q : its[i]? = some u := by simpa using hu
      rw [e1] at q; exact (Option.some.inj q).symm
    subst eu
    refine ⟨_, rfl, wpAny_letOwnedTupleGo_enum (s := { s with heap := h', toks := tk + 1 }) ho fun h'' he' sb => ?_⟩
    have hT2 : h''.get? s.heap.objs.size = some { cls := .type "tuple", data := .seq #[.int i tk, u] } := (sb.2 _ (Nat.ne_of_gt hel)).trans hT
    have new : ObjOk X.prog X.w (upd H s.heap.objs.size (.tup [.int (i : Nat), x])) h'' s.heap.objs.size (.tup [.int (i : Nat), x]) :=
      ⟨by show 2 ≤ sizeLine; decide, [.int i tk, u], .cons ⟨_, rfl⟩ (.cons ru .nil), ⟨_, hT2, rfl, _, rfl⟩⟩
    have I1 : Inv X pins σ (upd H s.heap.objs.size (.tup [.int (i : Nat), x])) { s with heap := h'', toks := tk + 1 } :=
      I.turnedNew (ch := [e, it]) (fun b ob hb q => (sb.2 b (fun z => hb (by simp [z]))).trans (hk b ob (fun z => hb (by simp [z])) (fun z => hb (by simp [z])) q)) hf (Nat.le_refl _) new
    refine ⟨.ref s.heap.objs.size, _, I1, rfl, ⟨_, x, rfl, I.hok.fresh (Nat.le_refl _), rfl, fun ys hy => by rw [hy.inj I hq]; exact hx⟩, ⟨⟨u, ?_⟩, hst.1.kept fun o q => (sb.2 it (Ne.symm hei)).trans q⟩, fun b hb => ?_⟩
    · have e1 : ((i + 1 : Nat) : Int) = (i : Int) + 1 := by omega
      rw [e1]; exact he'
    · have hb' : b < s.heap.objs.size := by
        simp only [List.mem_cons, List.not_mem_nil, or_false] at hb
        rcases hb with rfl | rfl
        · exact hel
        · obtain ⟨_, q, _⟩ := hi.obj; exact Heap.lt_size q
      rw [upd_ne (Nat.ne_of_lt hb')]
      exact (hf b hb).1
  done := by
    intro X hP hw hK hc i pins s σ H E I hf st hg
    subst hP hw hK
    obtain ⟨⟨old, he⟩, hi⟩ := st
    obtain ⟨xs, hq, rfl⟩ := hg
    obtain ⟨its, rv, p, la⟩ := hq.arr I
    have hd := I.ok.hd hc
    obtain ⟨f0, f1, f2, f3, f4, f5⟩ := hf it (by simp)
    have hl : its.toArray.size = xs.length := by simp [rv.length]
    have D := drawsB (prog := X.prog) (w := X.w) (A := X.A.in1) (show X.A.in1.handled = none from hd) k it a hia its.toArray
    rw [hl] at D
    exact wpAny_pyNext_enum_endD D he ⟨hi, p⟩ fun h' eb => ⟨rfl, I.turned (t' := s.toks) (fun b o hb q => eb b o hb q) f0 f1 f3 f4 f5⟩
  self := fun A i s Q E st h => let ⟨⟨_, he⟩, _⟩ := st; wpAny_pyIter_enum he h
def iEnumB (K : PySem.W.Frag) (k : Bool) (ta : TA) : TI := fun σ H R => ta σ H fun vs H1 => ∃ a xs, vs = [.ref a] ∧ SqB K k H1 a xs ∧ R (ItE K k a) H1
theorem pi_enumB {X : Cx} (k : Bool) {e : Expr} {ta : TA} {p pos tpos : Pos} {elts : List Expr} {kk : Nat} (hg : Gl X "enumerate") (hm : X.mg "enumerate" = none) (ha : PA X [e] ta) (hs : starEach [e] X.env = [(false, eval e X.env)] := by rfl) :
    PI X (.Tuple elts kk tpos) (.Call (.Name "enumerate" p) [e] [] pos) (iEnumB X.K k ta) := by
  refine ⟨fun pins s σ H R I h => ?_⟩
  refine PyProof.Rows.Call_ (ld_blt I hg hm PyProof.Rows.boot_enumerate (PyProof.Rows.callWith_type1 (thn (ha.run pos pins s σ H _ I h) fun us s1 ⟨vs, H1, I1, r1, q1⟩ => ?_) hs rfl))
  obtain ⟨a, xs, rfl, hq, q⟩ := q1
  cases r1 with
  | cons r rr =>
    cases rr
    cases r
    obtain ⟨its, rv, p', la⟩ := hq.arr I1
    refine enumB k p' fun h' he hit hsz hk => wpAny_pyIter_enum he ?_
    have I2 : Inv X pins σ H1 { s1 with heap := h' } := I1.kept (t' := s1.toks) hk
    refine ⟨s1.heap.objs.size + 1, [s1.heap.objs.size + 1, s1.heap.objs.size], _, _, H1, rfl, I2, turn_enumB k (e := s1.heap.objs.size + 1) (it := s1.heap.objs.size) (Nat.succ_ne_self _) (Nat.ne_of_gt (Nat.lt_succ_of_lt la)) (Nat.ne_of_lt la), ⟨⟨.none, he⟩, hit⟩, fun b hb => ?_, q⟩
    have hle : s1.heap.objs.size ≤ b := by
      simp only [List.mem_cons, List.not_mem_nil, or_false] at hb
      rcases hb with rfl | rfl
      · exact Nat.le_add_right _ _
      · exact Nat.le_refl _
    exact I1.fpOk hle (I1.hok.fresh hle)
/-! ### as typed walks -/
section
variable {K : PySem.W.Frag} {α β : Type} {R : Rp α} {S : Rp β} {H H' : Hp}
def iSq (K : PySem.W.Frag) (k : Bool) (R : Rp α) : Rp (List α) := if k = true then iT K R else iL K R
theorem iSq.out {k : Bool} {v : V} {xs : List α} (h : iSq K k R H v xs) : ∃ a vs, v = .ref a ∧ SqB K k H a vs ∧ Paired (R H) vs xs := by cases k <;> exact h
theorem mSq {k : Bool} (m : Mon R) : Mon (iSq K k R) := by
  cases k
  · exact mL m
  · exact mT m
theorem tw_zip (mR : Mon R) (mS : Mon S) {k1 k2 : Bool} {a b : Addr} {vs ws : List V} {xs : List α} {ys : List β} (h1 : SqB K k1 H a vs) (h2 : SqB K k2 H b ws) (q1 : Paired (R H) vs xs) (q2 : Paired (S H) ws ys) :
    TW (ItM K k1 k2 a b) H (iP K R S) (xs.zip ys) := by
  have l1 := plen q1
  have l2 := plen q2
  have lz : (xs.zip ys).length = min vs.length ws.length := by rw [List.length_zip, l1, l2]
  refine ⟨fun i H1 hi s => ?_, fun H1 s => ?_, fun i H1 v H2 hi s y => ?_⟩
  · rw [lz] at hi
    have i1 : i < vs.length := by omega
    have i2 : i < ws.length := by omega
    exact ⟨vs, ws, vs[i], ws[i], h1.same s, h2.same s, by simp [i1], by simp [i2]⟩
  · rw [lz]
    exact ⟨vs, ws, h1.same s, h2.same s, by omega, by omega, by omega⟩
  · obtain ⟨T, x, y, rfl, hT, rfl, f1, f2⟩ := y
    obtain ⟨x', ex, rx⟩ := pget (vs := []) (xs := ([] : List α)) q1 (f1 vs (h1.same s))
    obtain ⟨y', ey, ry⟩ := pget (vs := []) (xs := ([] : List β)) q2 (f2 ws (h2.same s))
    refine ⟨same_new hT, (x', y'), List.getElem?_zip_eq_some.mpr ⟨ex, ey⟩, T, x, y, rfl, SqT.of upd_same, mR.to (s.trans (same_new hT)) rx, mS.to (s.trans (same_new hT)) ry⟩
/-- numbered -/
def numd (xs : List α) : List (Int × α) := (ups 0 xs.length).zip xs
theorem numd_len {xs : List α} : (numd xs).length = xs.length := by unfold numd; rw [List.length_zip, ups_len]; omega
theorem numd_get {xs : List α} {i : Nat} {x : α} (h : xs[i]? = some x) : (numd xs)[i]? = some ((i : Int), x) := by
  have hi : i < xs.length := (List.getElem?_eq_some_iff.mp h).1
  unfold numd
  refine List.getElem?_zip_eq_some.mpr ⟨?_, h⟩
  have := ups_get (lo := 0) hi
  simpa using this
theorem tw_enum (mR : Mon R) {k : Bool} {a : Addr} {vs : List V} {xs : List α} (h : SqB K k H a vs) (q : Paired (R H) vs xs) : TW (ItE K k a) H (iP K iI R) (numd xs) := by
  have l1 := plen q
  refine ⟨fun i H1 hi s => ?_, fun H1 s => ?_, fun i H1 v H2 hi s y => ?_⟩
  · rw [numd_len, ← l1] at hi
    exact ⟨vs, vs[i], h.same s, by simp [hi]⟩
  · rw [numd_len, ← l1]
    exact ⟨vs, h.same s, rfl⟩
  · obtain ⟨T, x, rfl, hT, rfl, f⟩ := y
    obtain ⟨x', ex, rx⟩ := pget (vs := []) (xs := ([] : List α)) q (f vs (h.same s))
    exact ⟨same_new hT, (_, x'), numd_get ex, T, _, x, rfl, SqT.of upd_same, rfl, mR.to (s.trans (same_new hT)) rx⟩
/-- a pair's target: two names -/
theorem g_pair {i j : Nat} {v : V} {p : α × β} {σ : L2.St} {Q : L2.St → Hp → Prop} (h : iP K R S H v p) (q : ∀ x y, R H x p.1 → S H y p.2 → Q ((σ.set i (some x)).set j (some y)) H) :
    gTup K 2 (gCons (gName i) (gCons (gName j) gNil)) v σ H Q := by
  obtain ⟨a, x, y, rfl, hs, hx, hy⟩ := h
  exact ⟨a, [x, y], rfl, hs, rfl, x, [y], rfl, y, [], rfl, rfl, q x y hx hy⟩
end
end K19
namespace K19
open PySem PySem.Spec L2
/-! ### // by any int that is not 0 -/
def CDivX (_ j : Int) : Prop := j ≠ 0 ∧ j.natAbs.log2 < 9000
theorem op_fdivX {X : Cx} : OpR X (binaryOp .FloorDiv) (L2.rI (fun i j => CDivX i j) fun i j => .int (i.fdiv j)) :=
  opI fun i j _ _ _ _ _ hc q => PyProof.Rows.floordiv_int hc.1 q (.inl (PyProof.noPylong_of_log2 hc.2))
theorem divX {i j : Int} {b : Nat} (h : j ≠ 0) (hb : j.natAbs < 2 ^ b) (h0 : 0 < b) (h9 : b ≤ 9000) : CDivX i j := ⟨h, Nat.lt_of_lt_of_le (PySem.Flt.log2_lt_of h0 hb) h9⟩
/-! ### data: values that may be compared -/
section
variable {K : PySem.W.Frag} {α β : Type} {R : Rp α} {S : Rp β} {H H' : Hp}
structure Dat (K : PySem.W.Frag) (R : Rp α) (d : α → PyData) (n : Nat) : Prop where
  rd : ∀ {H : Hp} {v : V} {x : α}, R H v x → Dp K H v (d x)
  lay : ∀ x, (d x).canLay0 = true
  plain : ∀ x, (d x).plain = true
  dep : ∀ x, (d x).depth ≤ n
theorem Dat.shaped {d : α → PyData} {n : Nat} (h : Dat K R d n) (hn : n ≤ 64) (x : α) : SeqAt.shaped (d x) = true := by
  unfold SeqAt.shaped
  rw [h.lay x]
  simpa using Nat.le_trans (h.dep x) hn
def dQ (q : Rat) : PyData := .tuple [.int q.num, .int (q.den : Int)]
theorem dat_Q : Dat K (iQ K) dQ 1 where
  rd := fun ⟨a, e, h⟩ => by subst e; exact .tup h (.cons (.int _) (.cons (.int _) .nil))
  lay := fun _ => rfl
  plain := fun _ => rfl
  dep := fun _ => by simp [dQ, PyData.depth, PyData.depthAll]
theorem dp_all {d : α → PyData} (hd : ∀ {v : V} {x : α}, R H v x → Dp K H v (d x)) : ∀ {vs : List V} {xs : List α}, Paired (R H) vs xs → DpAll K H vs (xs.map d)
  | _, _, .nil => .nil
  | _, _, .cons r t => .cons (hd r) (dp_all hd t)
theorem lay_all {d : α → PyData} (h : ∀ x, (d x).canLay0 = true) : ∀ xs : List α, PyData.canLayAll0 (xs.map d) = true
  | [] => rfl
  | x :: r => by simp [PyData.canLayAll0, h x, lay_all h r]
theorem plain_all {d : α → PyData} (h : ∀ x, (d x).plain = true) : ∀ xs : List α, PyData.plainAll (xs.map d) = true
  | [] => rfl
  | x :: r => by simp [PyData.plainAll, h x, plain_all h r]
theorem dep_all {d : α → PyData} {n : Nat} (h : ∀ x, (d x).depth ≤ n) : ∀ xs : List α, PyData.depthAll (xs.map d) ≤ n
  | [] => Nat.zero_le _
  | x :: r => by
    have h1 := h x
    have h2 := dep_all h r
    simp only [List.map_cons, PyData.depthAll]
    omega
theorem dat_T {d : α → PyData} {n : Nat} (h : Dat K R d n) : Dat K (iT K R) (fun xs => .tuple (xs.map d)) (n + 1) where
  rd := fun ⟨a, vs, e, q, p⟩ => by subst e; exact .tup q (dp_all (fun z => h.rd z) p)
  lay := fun xs => by simp [PyData.canLay0, lay_all h.lay xs]
  plain := fun xs => by simp [PyData.plain, plain_all h.plain xs]
  dep := fun xs => by have := dep_all h.dep xs; simp only [PyData.depth]; omega
theorem dat_L {d : α → PyData} {n : Nat} (h : Dat K R d n) : Dat K (iL K R) (fun xs => .list (xs.map d)) (n + 1) where
  rd := fun ⟨a, vs, e, q, p⟩ => by subst e; exact .lst q (dp_all (fun z => h.rd z) p)
  lay := fun xs => by simp [PyData.canLay0, lay_all h.lay xs]
  plain := fun xs => by simp [PyData.plain, plain_all h.plain xs]
  dep := fun xs => by have := dep_all h.dep xs; simp only [PyData.depth]; omega
theorem dat_I : Dat K iI PyData.int 0 where
  rd := fun {H v x} e => by rw [show v = V.int x from e]; exact .int _
  lay := fun _ => rfl
  plain := fun _ => rfl
  dep := fun _ => Nat.le_refl _
theorem eqv_Q {p q : Rat} : PyData.eqv (dQ p) (dQ q) = decide (p = q) := by
  have e : PyData.eqv (dQ p) (dQ q) = ((p.num == q.num) && ((p.den : Int) == (q.den : Int) && true)) := by simp [dQ, PyData.eqv, PyData.eqvAll]
  rw [e]
  by_cases h : p = q
  · subst h; simp
  · rw [decide_eq_false h]
    by_cases h1 : p.num = q.num
    · have h2 : p.den ≠ q.den := fun z => h (Rat.ext h1 z)
      simp [h1]; omega
    · simp [h1]
theorem eqv_all {d : α → PyData} [DecidableEq α] (h : ∀ x y, PyData.eqv (d x) (d y) = decide (x = y)) : ∀ xs ys : List α, PyData.eqvAll (xs.map d) (ys.map d) = decide (xs = ys)
  | [], [] => by simp [PyData.eqvAll]
  | [], _ :: _ => by simp [PyData.eqvAll]
  | _ :: _, [] => by simp [PyData.eqvAll]
  | x :: xs, y :: ys => by
    simp only [List.map_cons, PyData.eqvAll, h, eqv_all h xs ys, List.cons.injEq]
    by_cases a : x = y <;> by_cases b : xs = ys <;> simp [a, b]
theorem eqv_T {d : α → PyData} [DecidableEq α] (h : ∀ x y, PyData.eqv (d x) (d y) = decide (x = y)) (xs ys : List α) : PyData.eqv (.tuple (xs.map d)) (.tuple (ys.map d)) = decide (xs = ys) := by
  simp only [PyData.eqv, eqv_all h]
theorem eqv_L {d : α → PyData} [DecidableEq α] (h : ∀ x y, PyData.eqv (d x) (d y) = decide (x = y)) (xs ys : List α) : PyData.eqv (.list (xs.map d)) (.list (ys.map d)) = decide (xs = ys) := by
  simp only [PyData.eqv, eqv_all h]
def dRow (xs : List Rat) : PyData := .tuple (xs.map dQ)
theorem dat_Row : Dat K (iRow K) dRow 2 := dat_T dat_Q
theorem eqv_Row (xs ys : List Rat) : PyData.eqv (dRow xs) (dRow ys) = decide (xs = ys) := eqv_T (fun _ _ => eqv_Q) xs ys
/-! ### == and != of data, as steps of a reading -/
theorem r_eqD {d : α → PyData} {e : β → PyData} {n m : Nat} (hd : Dat K R d n) (he : Dat K S e m) (hn : n ≤ 64) (hm : m ≤ 64) {v w : V} {x : α} {y : β} {Q : VK} (h1 : R H v x) (h2 : S H w y) (q : Q (.bl (PyData.eqv (d x) (e y))) H) : rEqD K v w H Q :=
  ⟨d x, e y, hd.rd h1, he.rd h2, hd.shaped hn x, he.shaped hm y, q⟩
theorem r_neD {d : α → PyData} {e : β → PyData} {n m : Nat} (hd : Dat K R d n) (he : Dat K S e m) (hn : n ≤ 64) (hm : m ≤ 64) {v w : V} {x : α} {y : β} {Q : VK} (h1 : R H v x) (h2 : S H w y) (q : Q (.bl (!PyData.eqv (d x) (e y))) H) : rNeD K v w H Q :=
  ⟨d x, e y, hd.rd h1, he.rd h2, hd.shaped hn x, he.shaped hm y, q⟩
end
/-! ### xs.remove(e), data -/
def rRemD (K : PySem.W.Frag) : V → List V → Hp → VK → Prop := fun x vs H Q => ∃ (l : Addr) (xs : List V) (y : V) (ds : List PyData) (d : PyData) (j : Nat), x = .ref l ∧ vs = [y] ∧ H l = some (.lst xs) ∧ DpAll K H xs ds ∧ Dp K H y d ∧
  PyData.plainAll ds = true ∧ d.plain = true ∧ d.depth ≤ 60 ∧ SeqAt.dataPlace ds d = some j ∧ Q .non (upd H l (.lst (xs.eraseIdx j)))
theorem mt_removeD {X : Cx} (hu : X.A.units + 64 < cLine) : MtM X "list.remove" (rRemD X.K) := by
  intro pins s σ H x xs v us Q I rx rxs h
  obtain ⟨l, ys, y, ds, d, j, rfl, rfl, hH, hds, hd, p1, p2, hdep, hj, q⟩ := h
  cases rx
  obtain ⟨u, rfl, ru⟩ := rxs.one
  obtain ⟨z, its, n, r, hl, e⟩ := I.lstM hH
  obtain ⟨as, ra⟩ := Dp.readsAll I ds ys its hds r
  obtain ⟨bs, rb⟩ := Dp.reads I d y u hd ru
  have hL : s.heap.IsList l its.toArray := ⟨_, e, rfl, n, rfl⟩
  refine SeqAt.remove_list_data (vs := its.toArray) (xs := ds) hL (by simpa using ra) rb p1 p2 ?_ hj (by simp only [List.size_toArray]; omega) ?_
  · have h2 : min (PyData.depthAll ds) d.depth ≤ d.depth := Nat.min_le_right _ _
    omega
  · refine ⟨.non, _, I.lset (its' := its.eraseIdx j) (t' := s.toks) hH e ?_ (r.eraseIdx j) ?_, rfl, q⟩
    · show its.toArray.eraseIdxIfInBounds j = (its.eraseIdx j).toArray
      rw [List.eraseIdxIfInBounds_toArray]
    · have := List.length_eraseIdx_le ys j
      omega
end K19
namespace K19
open PySem PySem.Spec L2
/-! ### the text by places -/
def top (i : Nat) : Stmt := PySem.Challenge.pw_ledlevels_k19_whole_sums_and_prices.main.body.getD i (.Pass ⟨0, 0, 0, 0⟩)
abbrev s_is_number : Stmt := top 7
abbrev s_in_form : Stmt := top 8
abbrev s_fraction : Stmt := top 9
abbrev s_is_fraction : Stmt := top 10
abbrev s_plus : Stmt := top 11
abbrev s_minus : Stmt := top 12
abbrev s_times_of : Stmt := top 13
abbrev s_divided : Stmt := top 14
abbrev s_is_less : Stmt := top 15
abbrev s_summed : Stmt := top 16
abbrev s_common_of : Stmt := top 17
abbrev s_back : Stmt := top 19
abbrev s_product : Stmt := top 20
abbrev s_is_long_row : Stmt := top 22
abbrev s_least : Stmt := top 24
abbrev s_cost_of : Stmt := top 25
abbrev s_first_below : Stmt := top 26
abbrev s_sum_at : Stmt := top 27
abbrev s_first_apart : Stmt := top 28
abbrev s_amounts_fault : Stmt := top 29
abbrev s_prices_fault : Stmt := top 30
abbrev s_slope_fault : Stmt := top 31
abbrev s_more_fault : Stmt := top 32
abbrev s_has_form : Stmt := top 33
abbrev s_judge_least : Stmt := top 34
abbrev s_without : Stmt := top 36
abbrev s_rank : Stmt := top 37
abbrev s_solved : Stmt := top 38
abbrev s_lengthened : Stmt := top 40
abbrev s_mixed : Stmt := top 41
abbrev s_judge_mixed : Stmt := top 42
abbrev s_shares_fault : Stmt := top 43
abbrev s_lots : Stmt := top 44
abbrev s_only_mixing : Stmt := top 45
abbrev s_comes_ahead : Stmt := top 46
abbrev s_corners : Stmt := top 47
abbrev s_use_of : Stmt := top 50
abbrev s_usable : Stmt := top 51
abbrev s_w_open_cells : Stmt := top 53
abbrev s_w_pick : Stmt := top 54
abbrev s_w_any_order : Stmt := top 55
abbrev s_w_common : Stmt := top 56
abbrev s_w_fraction : Stmt := top 57
abbrev s_w_sum : Stmt := top 58
abbrev s_w_times : Stmt := top 59
abbrev s_w_over : Stmt := top 60
abbrev s_w_below : Stmt := top 61
abbrev s_w_all : Stmt := top 62
abbrev s_w_row_sum : Stmt := top 63
abbrev s_w_row_times : Stmt := top 64
abbrev s_w_reached : Stmt := top 65
abbrev s_w_longer : Stmt := top 66
abbrev s_w_draw_fraction : Stmt := top 67
abbrev s_w_draw_row : Stmt := top 68
abbrev s_w_draw_rows : Stmt := top 69
abbrev s_w_draw_sum : Stmt := top 70
abbrev s_w_cost : Stmt := top 71
abbrev s_w_turned : Stmt := top 72
abbrev s_w_mixing_right : Stmt := top 73
abbrev s_law : Stmt := top 74
abbrev s_T_init : Stmt := inClass (top 23) 0
abbrev s_T_exchange : Stmt := inClass (top 23) 1
abbrev s_T_less : Stmt := inClass (top 23) 2
abbrev s_T_leaving : Stmt := inClass (top 23) 3
abbrev s_T_is_sooner : Stmt := inClass (top 23) 4
abbrev s_T_helping : Stmt := inClass (top 23) 5
abbrev s_T_reach : Stmt := inClass (top 23) 6
abbrev s_T_is_reached : Stmt := inClass (top 23) 7
abbrev s_T_improve : Stmt := inClass (top 23) 8
abbrev s_T_amounts : Stmt := inClass (top 23) 9
abbrev s_T_more : Stmt := inClass (top 23) 10
abbrev s_T_prices : Stmt := inClass (top 23) 11
abbrev s_T_slope : Stmt := inClass (top 23) 12
/-! ### what the top leaves -/
structure Def0 (K : PySem.W.Frag) (mg : Str → Option Value) (name : Str) (st : Stmt) (ps : List Str) : Type where
  f : Addr
  fd : FuncData
  F : FunD K name name (defArgs st) (defBody st) (defScope st) [] [] f fd
  g : mg name = some (.ref f)
  b : Binds K fd ps []
structure Met0 (K : PySem.W.Frag) (C : Addr) (name qual : Str) (st : Stmt) (ps : List Str) : Type where
  f : Addr
  fd : FuncData
  F : FunD K name qual (defArgs st) (defBody st) (defScope st) [] [] f fd
  m : Meth K C name f
  b : Binds K fd ps []
structure Txt (K : PySem.W.Frag) (mg : Str → Option Value) : Type where
  C : Addr
  gC : mg "Table" = some (.ref C)
  cl : Cls K C
  is_number : Def0 K mg "is_number" s_is_number ["value"]
  in_form : Def0 K mg "in_form" s_in_form ["n", "d"]
  fraction : Def0 K mg "fraction" s_fraction ["n", "d"]
  is_fraction : Def0 K mg "is_fraction" s_is_fraction ["value"]
  plus : Def0 K mg "plus" s_plus ["x", "y"]
  minus : Def0 K mg "minus" s_minus ["x", "y"]
  times_of : Def0 K mg "times_of" s_times_of ["x", "y"]
  divided : Def0 K mg "divided" s_divided ["x", "y"]
  is_less : Def0 K mg "is_less" s_is_less ["x", "y"]
  summed : Def0 K mg "summed" s_summed ["fractions"]
  common_of : Def0 K mg "common_of" s_common_of ["numbers"]
  back : Def0 K mg "back" s_back ["row"]
  product : Def0 K mg "product" s_product ["one", "other"]
  is_long_row : Def0 K mg "is_long_row" s_is_long_row ["value", "many"]
  least : Def0 K mg "least" s_least ["columns", "costs", "target"]
  cost_of : Def0 K mg "cost_of" s_cost_of ["costs", "amounts"]
  first_below : Def0 K mg "first_below" s_first_below ["amounts"]
  sum_at : Def0 K mg "sum_at" s_sum_at ["columns", "amounts", "i"]
  first_apart : Def0 K mg "first_apart" s_first_apart ["columns", "amounts", "target"]
  amounts_fault : Def0 K mg "amounts_fault" s_amounts_fault ["columns", "amounts", "target"]
  prices_fault : Def0 K mg "prices_fault" s_prices_fault ["columns", "costs", "target", "amounts", "prices"]
  slope_fault : Def0 K mg "slope_fault" s_slope_fault ["columns", "slope", "target"]
  more_fault : Def0 K mg "more_fault" s_more_fault ["columns", "costs", "more"]
  has_form : Def0 K mg "has_form" s_has_form ["value", "many", "levels"]
  judge_least : Def0 K mg "judge_least" s_judge_least ["columns", "costs", "target", "value"]
  without : Def0 K mg "without" s_without ["row", "lead", "k"]
  rank : Def0 K mg "rank" s_rank ["rows"]
  solved : Def0 K mg "solved" s_solved ["columns", "target"]
  lengthened : Def0 K mg "lengthened" s_lengthened ["rows"]
  mixed : Def0 K mg "mixed" s_mixed ["rows"]
  judge_mixed : Def0 K mg "judge_mixed" s_judge_mixed ["rows", "value"]
  shares_fault : Def0 K mg "shares_fault" s_shares_fault ["rows", "shares"]
  lots : Def0 K mg "lots" s_lots ["many", "most"]
  only_mixing : Def0 K mg "only_mixing" s_only_mixing ["rows", "lot"]
  comes_ahead : Def0 K mg "comes_ahead" s_comes_ahead ["one", "other"]
  corners : Def0 K mg "corners" s_corners ["rows"]
  use_of : Def0 K mg "use_of" s_use_of ["columns", "target", "k"]
  usable : Def0 K mg "usable" s_usable ["columns", "target"]
  w_open_cells : Def0 K mg "_law_open_cells" s_w_open_cells ["_law_script"]
  w_pick : Def0 K mg "_law_pick" s_w_pick ["_law_source", "_law_most"]
  w_any_order : Def0 K mg "_law_any_order" s_w_any_order ["_law_source", "_law_things"]
  w_common : Def0 K mg "_law_common" s_w_common ["_law_a", "_law_b"]
  w_fraction : Def0 K mg "_law_fraction" s_w_fraction ["_law_n", "_law_d"]
  w_sum : Def0 K mg "_law_sum" s_w_sum ["_law_x", "_law_y"]
  w_times : Def0 K mg "_law_times" s_w_times ["_law_x", "_law_y"]
  w_over : Def0 K mg "_law_over" s_w_over ["_law_x", "_law_y"]
  w_below : Def0 K mg "_law_below" s_w_below ["_law_x", "_law_y"]
  w_all : Def0 K mg "_law_all" s_w_all ["_law_fractions"]
  w_row_sum : Def0 K mg "_law_row_sum" s_w_row_sum ["_law_one", "_law_other"]
  w_row_times : Def0 K mg "_law_row_times" s_w_row_times ["_law_one", "_law_x"]
  w_reached : Def0 K mg "_law_reached" s_w_reached ["_law_columns", "_law_amounts", "_law_many"]
  w_longer : Def0 K mg "_law_longer" s_w_longer ["_law_rows"]
  w_draw_fraction : Def0 K mg "_law_draw_fraction" s_w_draw_fraction ["_law_source", "_law_wide"]
  w_draw_row : Def0 K mg "_law_draw_row" s_w_draw_row ["_law_source", "_law_many", "_law_wide"]
  w_draw_rows : Def0 K mg "_law_draw_rows" s_w_draw_rows ["_law_source", "_law_many", "_law_most", "_law_wide"]
  w_draw_sum : Def0 K mg "_law_draw_sum" s_w_draw_sum ["_law_source"]
  w_cost : Def0 K mg "_law_cost" s_w_cost ["_law_costs", "_law_amounts"]
  w_turned : Def0 K mg "_law_turned" s_w_turned ["_law_columns", "_law_costs", "_law_target"]
  w_mixing_right : Def0 K mg "_law_mixing_right" s_w_mixing_right ["_law_rows", "_law_costs"]
  law : Def0 K mg "law" s_law ["_law_script"]
  T_init : Met0 K C "__init__" "Table.__init__" s_T_init ["self", "columns", "costs", "target"]
  T_exchange : Met0 K C "exchange" "Table.exchange" s_T_exchange ["self", "r", "c"]
  T_less : Met0 K C "less" "Table.less" s_T_less ["self", "row", "lead", "pivot", "c"]
  T_leaving : Met0 K C "leaving" "Table.leaving" s_T_leaving ["self", "c"]
  T_is_sooner : Met0 K C "is_sooner" "Table.is_sooner" s_T_is_sooner ["self", "k", "other", "c"]
  T_helping : Met0 K C "helping" "Table.helping" s_T_helping ["self", "numbers"]
  T_reach : Met0 K C "reach" "Table.reach" s_T_reach ["self"]
  T_is_reached : Met0 K C "is_reached" "Table.is_reached" s_T_is_reached ["self"]
  T_improve : Met0 K C "improve" "Table.improve" s_T_improve ["self"]
  T_amounts : Met0 K C "amounts" "Table.amounts" s_T_amounts ["self"]
  T_more : Met0 K C "more" "Table.more" s_T_more ["self", "c"]
  T_prices : Met0 K C "prices" "Table.prices" s_T_prices ["self"]
  T_slope : Met0 K C "slope" "Table.slope" s_T_slope ["self"]
  mkT : Mk K C T_init.f
  n_many : NoAttr K C "many"
  n_levels : NoAttr K C "levels"
  n_over : NoAttr K C "over"
  n_scales : NoAttr K C "scales"
  n_rows : NoAttr K C "rows"
  n_cost_scale : NoAttr K C "cost_scale"
  n_costs : NoAttr K C "costs"
  n_gaps : NoAttr K C "gaps"
  n_basis : NoAttr K C "basis"
  b_isinstance : mg "isinstance" = none
  b_int : mg "int" = none
  b_bool : mg "bool" = none
  b_tuple : mg "tuple" = none
  b_len : mg "len" = none
  b_all : mg "all" = none
  b_any : mg "any" = none
  b_abs : mg "abs" = none
  b_zip : mg "zip" = none
  b_enumerate : mg "enumerate" = none
  b_range : mg "range" = none
  b_sum : mg "sum" = none
  b_list : mg "list" = none
  b_min : mg "min" = none
  b_dict : mg "dict" = none
  gcd : mg "gcd" = some (.builtin "math.gcd")
  aZERO : Addr
  gZERO : mg "ZERO" = some (.ref aZERO)
  tZERO : ∀ H, SqT K H aZERO [.int (0), .int 1]
  aONE : Addr
  gONE : mg "ONE" = some (.ref aONE)
  tONE : ∀ H, SqT K H aONE [.int (1), .int 1]
  aGAIN : Addr
  gGAIN : mg "GAIN" = some (.ref aGAIN)
  tGAIN : ∀ H, SqT K H aGAIN [.int (-1), .int 1]
end K19
namespace K19
open PySem PySem.Spec L2
/-! ### the rules with the written part named -/
section
variable {X : Cx} (K : PySem.W.Frag)
theorem ix_tupK (hK : X.K = K := by rfl) : IxR X (rIxT K) := hK ▸ ix_tup
theorem ix_listK (hK : X.K = K := by rfl) : IxR X (rIxL K) := hK ▸ ix_list
theorem sl_listK (hK : X.K = K := by rfl) : SlR X (rSlL K) := hK ▸ sl_list
theorem sl_tupK (hK : X.K = K := by rfl) : SlR X (rSlA K) := hK ▸ sl_tupA
theorem op_eqDK (hu : X.A.units + 64 < cLine) (hK : X.K = K := by rfl) : OpR X (compareOp .Eq) (rEqD K) := hK ▸ op_eqD hu
theorem op_neDK (hu : X.A.units + 64 < cLine) (hK : X.K = K := by rfl) : OpR X (compareOp .NotEq) (rNeD K) := hK ▸ op_neD hu
theorem op_inDK (hu : X.A.units + 65 < cLine) (hK : X.K = K := by rfl) : OpR X (compareOp .In) (rInD K) := hK ▸ op_inD hu
theorem k_isi (hK : X.K = K := by rfl) : CallR X (.builtin "isinstance") (rIsi K) := hK ▸ call_isi
def rLenK (K : PySem.W.Frag) : List V → Hp → VK → Prop := fun xs H Q => ∃ p ys, xs = [.ref p] ∧ (SqL K H p ys ∨ SqT K H p ys) ∧ Q (.int ys.length) H
theorem k_len (hK : X.K = K := by rfl) : CallR X (.builtin "len") (rLenK K) := by subst hK; exact call_len_seq
def rTupK (K : PySem.W.Frag) : List V → Hp → VK → Prop := fun xs H Q => ∃ p ys, xs = [.ref p] ∧ ((SqL K H p ys ∧ ∀ l, H l = none → Q (.ref l) (upd H l (.tup ys))) ∨ (SqT K H p ys ∧ Q (.ref p) H))
theorem k_tuple (hK : X.K = K := by rfl) : CallR X (.type "tuple") (rTupK K) := by subst hK; exact call_tuple_of
def rListK (K : PySem.W.Frag) : List V → Hp → VK → Prop := fun xs H Q => ∃ p ys, xs = [.ref p] ∧ (SqL K H p ys ∨ SqT K H p ys) ∧ ∀ l, H l = none → Q (.ref l) (upd H l (.lst ys))
theorem k_list (hK : X.K = K := by rfl) : CallR X (.type "list") (rListK K) := by subst hK; exact call_list_of
theorem k_all (hc : X.calm = true) (hK : X.K = K := by rfl) : CallR X (.builtin "all") (rAll K) := hK ▸ cr_all hc
theorem k_any (hc : X.calm = true) (hK : X.K = K := by rfl) : CallR X (.builtin "any") (rAny K) := hK ▸ cr_any hc
theorem k_sum (hc : X.calm = true) (hK : X.K = K := by rfl) : CallR X (.builtin "sum") (rSum K) := hK ▸ cr_sum hc
theorem pi_listK {tg l : Expr} {tl : TE} (hl : PE X l tl) (hK : X.K = K := by rfl) : PI X tg l (iList K tl) := hK ▸ pi_list hl
theorem pi_tupK {tg l : Expr} {tl : TE} (hl : PE X l tl) (hK : X.K = K := by rfl) : PI X tg l (iTup K tl) := hK ▸ pi_tup hl
theorem pi_zipK (k1 k2 : Bool) {e e2 : Expr} {ta : TA} {p pos tpos : Pos} {elts : List Expr} {kk : Nat} (hg : Gl X "zip") (hm : X.mg "zip" = none) (ha : PA X [e, e2] ta) (hK : X.K = K := by rfl)
    (hs : starEach [e, e2] X.env = (false, eval e X.env) :: starEach [e2] X.env := by rfl) (hpl : (backTo pos (starEach [e2] X.env)).any (·.1) = false := by rfl) :
    PI X (.Tuple elts kk tpos) (.Call (.Name "zip" p) [e, e2] [] pos) (iZipM K k1 k2 ta) := hK ▸ pi_zipM k1 k2 hg hm ha hs hpl
theorem pi_enumK (k : Bool) {e : Expr} {ta : TA} {p pos tpos : Pos} {elts : List Expr} {kk : Nat} (hg : Gl X "enumerate") (hm : X.mg "enumerate" = none) (ha : PA X [e] ta) (hK : X.K = K := by rfl) (hs : starEach [e] X.env = [(false, eval e X.env)] := by rfl) :
    PI X (.Tuple elts kk tpos) (.Call (.Name "enumerate" p) [e] [] pos) (iEnumB K k ta) := hK ▸ pi_enumB k hg hm ha hs
theorem pe_fldK {e : Expr} {f : Str} {pos : Pos} {ta : TE} (he : PE X e ta) (hb : attributeBase e f X.env (eval e X.env) = eval e X.env) (hK : X.K = K := by rfl) : PE X (.Attribute e f pos) (tFld K ta f) := hK ▸ pe_fld he hb
theorem ps_fldK {o value : Expr} {f : Str} {pos pos' : Pos} {ta tv : TE} (ha : PE X o ta) (hv : PE X value tv) (hs : swapsWith value (some (.Attribute o f pos')) pos.line X.env = pure false) (hK : X.K = K := by rfl) : PS X (.Assign [.Attribute o f pos'] value pos) (sFld K ta tv f) := hK ▸ ps_fld ha hv hs
theorem pa_starK {e : Expr} {es : List Expr} {p : Pos} {te : TE} {t : TA} (he : PE X e te) (hr : PA X es t) (hK : X.K = K := by rfl) (hs : starEach (.Starred e p :: es) X.env = (true, eval e X.env) :: starEach es X.env := by rfl) : PA X (.Starred e p :: es) (StX.tStar K te t) := hK ▸ StX.pa_star he hr hs
theorem pe_bmK {T name id : _} {o e : Expr} {es : List Expr} {apos cpos : Pos} {to : TE} {t : TA} {r : V → List V → Hp → VK → Prop} (pa : PlainAttrs T) (slot : Slot T name id) (hty : typeOf (.builtin id) = pure (.type "method_descriptor")) (hm : MtR X id r) (ho : PE X o to) (ha : PA X (e :: es) t) (hK : X.K = K := by rfl)
    (hbase : attributeBase o name X.env (eval o X.env) = eval o X.env := by rfl)
    (hfew : ((backTo cpos (starEach (e :: es) X.env)).all (fun x => !x.1) && (backToKw cpos (keywordEach [] X.env)).all (fun x => x.1.isSome)
      && decide ((e :: es).length + ([] : List Keyword).length + (if ([] : List Keyword).isEmpty then 0 else 1) < 30)) = true := by rfl)
    (hline : (apos.endLine == cpos.line) = true := by rfl) (hs : starEach (e :: es) X.env = (false, eval e X.env) :: starEach es X.env := by rfl) (hplain : (backTo cpos (starEach es X.env)).any (·.1) = false := by rfl) :
    PE X (.Call (.Attribute o name apos) (e :: es) [] cpos) (tBM K T r to t) := hK ▸ pe_bm pa slot hty hm ho ha hbase hfew hline hs hplain
end
end K19
namespace K19
open PySem PySem.Spec L2
/-! ### how large a fraction's numbers are -/
def Bd (b : Nat) (n : Int) : Prop := n.natAbs < 2 ^ b
structure Sz (b : Nat) (q : Rat) : Prop where
  n : Bd b q.num
  d : Bd b (q.den : Int)
theorem Bd.mono {a b : Nat} {n : Int} (h : Bd a n) (hab : a ≤ b) : Bd b n := Nat.lt_of_lt_of_le h (Nat.pow_le_pow_right (by decide) hab)
theorem Sz.mono {a b : Nat} {q : Rat} (h : Sz a q) (hab : a ≤ b) : Sz b q := ⟨h.n.mono hab, h.d.mono hab⟩
theorem bd_mul {a b : Nat} {x y : Int} (hx : Bd a x) (hy : Bd b y) : Bd (a + b) (x * y) := wide_lt hx hy
theorem bd_add {b : Nat} {x y : Int} (hx : Bd b x) (hy : Bd b y) : Bd (b + 1) (x + y) := by
  unfold Bd at *
  have e : 2 ^ (b + 1) = 2 ^ b + 2 ^ b := by rw [Nat.pow_succ]; omega
  omega
theorem bd_sub {b : Nat} {x y : Int} (hx : Bd b x) (hy : Bd b y) : Bd (b + 1) (x - y) := by
  unfold Bd at *
  have e : 2 ^ (b + 1) = 2 ^ b + 2 ^ b := by rw [Nat.pow_succ]; omega
  omega
theorem bd_neg {b : Nat} {x : Int} (hx : Bd b x) : Bd b (-x) := by unfold Bd at *; rw [Int.natAbs_neg]; exact hx
theorem two_pos {b : Nat} : 0 < 2 ^ b := Nat.pow_pos (by decide)
theorem sz_divInt {n d : Int} {b : Nat} (hn : Bd b n) (hd : Bd b d) (h1 : 1 ≤ b) : Sz b (Rat.divInt n d) := by
  unfold Bd at hn hd
  constructor
  · unfold Bd
    rw [Rat.num_divInt]
    have h : (d.sign * n / (d.gcd n : Int)).natAbs ≤ n.natAbs := by
      refine Nat.le_trans (Int.natAbs_ediv_le_natAbs _ _) ?_
      rw [Int.natAbs_mul]
      have : d.sign.natAbs ≤ 1 := by rw [Int.natAbs_sign]; split <;> omega
      exact Nat.le_trans (Nat.mul_le_mul_right _ this) (by omega)
    omega
  · unfold Bd
    rw [Rat.den_divInt, Int.natAbs_natCast]
    split
    · exact Nat.lt_of_lt_of_le (by decide : 1 < 2 ^ 1) (Nat.pow_le_pow_right (by decide) h1)
    · exact Nat.lt_of_le_of_lt (Nat.div_le_self _ _) hd
theorem add_divInt (x y : Rat) : x + y = Rat.divInt (x.num * (y.den : Int) + y.num * (x.den : Int)) ((x.den : Int) * (y.den : Int)) := by
  have h := Rat.divInt_add_divInt x.num y.num (d₁ := x.den) (d₂ := y.den) (by have := x.den_pos; omega) (by have := y.den_pos; omega)
  rw [Rat.num_divInt_den, Rat.num_divInt_den] at h
  exact h
theorem sub_divInt (x y : Rat) : x - y = Rat.divInt (x.num * (y.den : Int) - y.num * (x.den : Int)) ((x.den : Int) * (y.den : Int)) := by
  have h := Rat.divInt_sub_divInt x.num y.num (d₁ := x.den) (d₂ := y.den) (by have := x.den_pos; omega) (by have := y.den_pos; omega)
  rw [Rat.num_divInt_den, Rat.num_divInt_den] at h
  exact h
theorem mul_divInt (x y : Rat) : x * y = Rat.divInt (x.num * y.num) ((x.den : Int) * (y.den : Int)) := by
  have h := Rat.divInt_mul_divInt x.num y.num (d₁ := x.den) (d₂ := y.den)
  rw [Rat.num_divInt_den, Rat.num_divInt_den] at h
  exact h
theorem div_divInt (x y : Rat) (hy : y ≠ 0) : x / y = Rat.divInt (x.num * (y.den : Int)) ((x.den : Int) * y.num) := by
  rw [Rat.div_def, Rat.inv_def]
  have h := Rat.divInt_mul_divInt x.num (y.den : Int) (d₁ := x.den) (d₂ := y.num)
  rw [Rat.num_divInt_den] at h
  exact h
theorem sz_add {a b : Nat} {x y : Rat} (hx : Sz a x) (hy : Sz b y) : Sz (a + b + 1) (x + y) := by
  rw [add_divInt]
  exact sz_divInt (bd_add (bd_mul hx.n hy.d) ((bd_mul hy.n hx.d).mono (by omega))) ((bd_mul hx.d hy.d).mono (by omega)) (by omega)
theorem sz_sub {a b : Nat} {x y : Rat} (hx : Sz a x) (hy : Sz b y) : Sz (a + b + 1) (x - y) := by
  rw [sub_divInt]
  exact sz_divInt (bd_sub (bd_mul hx.n hy.d) ((bd_mul hy.n hx.d).mono (by omega))) ((bd_mul hx.d hy.d).mono (by omega)) (by omega)
theorem sz_pos {a : Nat} {x : Rat} (hx : Sz a x) : 1 ≤ a := by
  have h := hx.d
  have := x.den_pos
  unfold Bd at h
  cases a with
  | zero => simp at h; omega
  | succ a => omega
theorem sz_mul {a b : Nat} {x y : Rat} (hx : Sz a x) (hy : Sz b y) : Sz (a + b) (x * y) := by
  rw [mul_divInt]
  have := sz_pos hx
  exact sz_divInt (bd_mul hx.n hy.n) (bd_mul hx.d hy.d) (by omega)
theorem sz_div {a b : Nat} {x y : Rat} (hx : Sz a x) (hy : Sz b y) (h0 : y ≠ 0) : Sz (a + b) (x / y) := by
  rw [div_divInt x y h0]
  have := sz_pos hx
  exact sz_divInt (bd_mul hx.n hy.d) (bd_mul hx.d hy.n) (by omega)
theorem sz_neg {a : Nat} {x : Rat} (hx : Sz a x) : Sz a (-x) := ⟨bd_neg hx.n, hx.d⟩
theorem sz_0 : Sz 1 (0 : Rat) := ⟨by unfold Bd; decide, by unfold Bd; decide⟩
theorem sz_1 : Sz 1 (1 : Rat) := ⟨by unfold Bd; decide, by unfold Bd; decide⟩
/-! ### short rules -/
section
variable {X : Cx} {x : Str} {st : Stmt} {ps : List Str} {k : Nat} {sp : Sp} {e : Expr} {es : List Expr} {p pos apos : Pos} {t : TA}
/-- a call of a def of the text -/
theorem pcall (D : Def0 X.K X.mg x st ps) (G : FnOk X.prog X.w X.K X.mg X.base CX0 k D.f D.fd ps sp) (hr : Room k X.A) (ha : PA X (e :: es) t) (hg : Gl X x := by rfl) (hdb : (x == ("__debug__" : Str)) = false := by decide)
    (he : starEach (e :: es) X.env = (false, eval e X.env) :: starEach es X.env := by rfl) (hpl : (backTo pos (starEach es X.env)).any (·.1) = false := by rfl) :
    PE X (.Call (.Name x p) (e :: es) [] pos) (tCall sp [] E0 t) := pe_call G hr hg D.g D.F.kp D.b .nil pass0 ha hdb he hpl
theorem ix_num {K : PySem.W.Frag} {H : Hp} {v : V} {q : Rat} {Q : VK} (h : iQ K H v q) (k : Q (.int q.num) H) : rIxT K v (.int 0) H Q := by
  obtain ⟨a, rfl, h⟩ := h
  exact ⟨a, _, _, _, rfl, rfl, h, rfl, k⟩
theorem ix_den {K : PySem.W.Frag} {H : Hp} {v : V} {q : Rat} {Q : VK} (h : iQ K H v q) (k : Q (.int (q.den : Int)) H) : rIxT K v (.int 1) H Q := by
  obtain ⟨a, rfl, h⟩ := h
  exact ⟨a, _, _, _, rfl, rfl, h, rfl, k⟩
theorem tyTup {K : PySem.W.Frag} {H : Hp} {a : Addr} {xs : List V} (h : SqT K H a xs) : TyX K H (.ref a) (.type "tuple") := by
  rcases h with (h | ⟨o, h⟩) | ⟨o, its, n, hk, hc, _⟩
  · exact .base (.tup h)
  · exact .fTuple h
  · exact .kTuple hk hc
end
/-! ### values of expressions -/
section
variable {K : PySem.W.Frag} {σ : L2.St} {H : Hp} {i : Nat} {v x y : V} {q : Rat} {ta tb : TE} {a b : Int}
/-- a value with a heap that has grown -/
def VS (te : TE) (σ : L2.St) (H : Hp) (R : V → Hp → Prop) : Prop := ∀ Q : VK, (∀ v H', Same H H' → R v H' → Q v H') → te σ H Q
def VSA (t : TA) (σ : L2.St) (H : Hp) (R : List V → Hp → Prop) : Prop := ∀ Q : List V → Hp → Prop, (∀ vs H', Same H H' → R vs H' → Q vs H') → t σ H Q
def ValA (t : TA) (σ : L2.St) (H : Hp) (vs : List V) : Prop := ∀ Q : List V → Hp → Prop, Q vs H → t σ H Q
theorem va_nil : ValA tNil σ H [] := fun _ q => q
theorem va_cons {t : TA} {vs : List V} (h : Val ta σ H x) (r : ValA t σ H vs) : ValA (tCons ta t) σ H (x :: vs) := fun Q q => h _ (r _ q)
theorem va1 (h : Val ta σ H x) : ValA (tCons ta tNil) σ H [x] := va_cons h va_nil
theorem va2 (h : Val ta σ H x) (g : Val tb σ H y) : ValA (tCons ta (tCons tb tNil)) σ H [x, y] := va_cons h (va1 g)
theorem vnum (hs : σ[i]? = some (some v)) (h : iQ K H v q) : Val (tOp (rIxT K) (tVar i) (tC (.int 0))) σ H (.int q.num) := fun _ k => ⟨v, hs, ix_num h k⟩
theorem vden (hs : σ[i]? = some (some v)) (h : iQ K H v q) : Val (tOp (rIxT K) (tVar i) (tC (.int 1))) σ H (.int (q.den : Int)) := fun _ k => ⟨v, hs, ix_den h k⟩
theorem vadd (h : Val ta σ H (.int a)) (g : Val tb σ H (.int b)) : Val (tOp (rI0 fun i j => .int (i + j)) ta tb) σ H (.int (a + b)) := fun _ k => h _ (g _ ⟨_, _, rfl, rfl, k⟩)
theorem vsub (h : Val ta σ H (.int a)) (g : Val tb σ H (.int b)) : Val (tOp (rI0 fun i j => .int (i - j)) ta tb) σ H (.int (a - b)) := fun _ k => h _ (g _ ⟨_, _, rfl, rfl, k⟩)
theorem vmul (h : Val ta σ H (.int a)) (g : Val tb σ H (.int b)) (c : CMulW a b) : Val (tOp (L2.rI CMulW fun i j => .int (i * j)) ta tb) σ H (.int (a * b)) := fun _ k => h _ (g _ ⟨_, _, rfl, rfl, c, k⟩)
theorem vdiv (h : Val ta σ H (.int a)) (g : Val tb σ H (.int b)) (c : CDivW a b) : Val (tOp (L2.rI CDivW fun i j => .int (i / j)) ta tb) σ H (.int (a / b)) := fun _ k => h _ (g _ ⟨_, _, rfl, rfl, c, k⟩)
theorem vcmp {f : Int → Int → Bool} (h : Val ta σ H (.int a)) (g : Val tb σ H (.int b)) : Val (tOp (rI0 fun i j => .bl (f i j)) ta tb) σ H (.bl (f a b)) := fun _ k => h _ (g _ ⟨_, _, rfl, rfl, k⟩)
theorem vsv (h : Val ta σ H x) {R : V → Hp → Prop} (r : R x H) : VS ta σ H R := fun Q k => h _ (k _ _ (Same.refl _) r)
/-- a call whose arguments are values -/
theorem vs_call {t : TA} {vs : List V} {sp : Sp} {R : V → Hp → Prop} (h : ValA t σ H vs) (g : ∀ Q : VK, (∀ v H', Same H H' → R v H' → Q v H') → sp (vs ++ []) H Q E0) : VS (tCall sp [] E0 t) σ H R := fun Q k => h _ (g Q k)
end
/-- a tuple of two ints in their form -/
theorem newQ {K : PySem.W.Frag} {H : Hp} {p : Addr} {n d : Int} {q : Rat} (h1 : n = q.num) (h2 : d = (q.den : Int)) : iQ K (upd H p (.tup [.int n, .int d])) (.ref p) q := by
  subst h1 h2
  exact ⟨p, rfl, SqT.of upd_same⟩
theorem form_num {n d : Int} (h : 0 < d) : n.fdiv ((Nat.gcd n.natAbs d.natAbs : Nat) : Int) = (Rat.divInt n d).num ∧ d.fdiv ((Nat.gcd n.natAbs d.natAbs : Nat) : Int) = ((Rat.divInt n d).den : Int) := by
  have e : Int.gcd d n = Nat.gcd n.natAbs d.natAbs := by rw [Int.gcd, Nat.gcd_comm]
  constructor
  · rw [Rat.num_divInt, e, Int.sign_eq_one_of_pos h, Int.one_mul, Int.fdiv_eq_ediv_of_nonneg _ (by omega)]
  · rw [Rat.den_divInt, e, if_neg (by omega), Int.fdiv_eq_ediv_of_nonneg _ (by omega), Int.natCast_ediv, Int.natAbs_of_nonneg (by omega)]
theorem form_neg {n d : Int} (h : d < 0) : n.fdiv (-((Nat.gcd n.natAbs d.natAbs : Nat) : Int)) = (Rat.divInt n d).num ∧ d.fdiv (-((Nat.gcd n.natAbs d.natAbs : Nat) : Int)) = ((Rat.divInt n d).den : Int) := by
  have e : Int.gcd d n = Nat.gcd n.natAbs d.natAbs := by rw [Int.gcd, Nat.gcd_comm]
  have fn : ∀ (a : Int) (g : Nat), a.fdiv (-(g : Int)) = (-a) / (g : Int) := fun a g => by
    rw [← Int.neg_fdiv_neg, Int.neg_neg, Int.fdiv_eq_ediv_of_nonneg _ (by omega)]
  constructor
  · rw [Rat.num_divInt, e, Int.sign_eq_neg_one_of_neg h, fn]
    congr 1
    omega
  · rw [Rat.den_divInt, e, if_neg (by omega), fn, Int.natCast_ediv]
    congr 1
    omega
/-! ### fractions -/
section
variable {P : Program} {w : World} {K : PySem.W.Frag} {mg : Str → Option Value} {base : Heap}
def spIsNumber : Sp := fun vs H Q _ => ∃ n, vs = [.int n] ∧ Q (.bl true) H
theorem sc_is_number : FnScope ["value"] ["value"] (defScope s_is_number) := ⟨rfl, rfl, rfl, by decide +kernel, rfl, by decide +kernel, by decide +kernel⟩
theorem ok_is_number (T : Txt K mg) : FnOk P w K mg base CX0 1 T.is_number.f T.is_number.fd ["value"] spIsNumber := by
  refine T.is_number.F.ok sc_is_number (fun vs H Q E h => ?_) (fun cdv A outer s H vs Q E hr h => ?_)
  · obtain ⟨n, rfl, _⟩ := h; rfl
  · obtain ⟨n, rfl, q⟩ := h
    refine ⟨_, PSs.nox (pss_one (ps_ret (pe_and (pe_callB call_isi rfl T.b_isinstance (by decide +kernel) (pa_cons (pv 0) (pa_cons (pe_bltn rfl T.b_int (by decide +kernel) (show RelV (.ty "int") _ from rfl)) pa_nil)))
      (pe_one (pe_not (pe_callB call_isi rfl T.b_isinstance (by decide +kernel) (pa_cons (pv 0) (pa_cons (pe_bltn rfl T.b_bool (by decide +kernel) (show RelV (.ty "bool") _ from rfl)) pa_nil)))))))), ?_⟩
    refine ⟨_, rfl, _, _, _, _, _, rfl, .ty _, .base (.int n), kit_ty (r := true) (by decide +kernel), true, rfl, iteT ?_⟩
    refine ⟨_, rfl, _, _, _, _, _, rfl, .ty _, .base (.int n), kit_ty (r := false) (by decide +kernel), false, rfl, q⟩
def spInForm (K : PySem.W.Frag) : Sp := fun vs H Q _ => ∃ n d : Int, vs = [.int n, .int d] ∧ d ≠ 0 ∧ Bd 8500 d ∧ ∀ v H', Same H H' → iQ K H' v (Rat.divInt n d) → Q v H'
theorem sc_in_form : FnScope ["n", "d", "divisor"] ["n", "d"] (defScope s_in_form) := ⟨rfl, rfl, rfl, by decide +kernel, rfl, by decide +kernel, by decide +kernel⟩
theorem ok_in_form (T : Txt K mg) : FnOk P w K mg base CX0 1 T.in_form.f T.in_form.fd ["n", "d"] (spInForm K) := by
  refine T.in_form.F.ok sc_in_form (fun vs H Q E h => ?_) (fun cdv A outer s H vs Q E hr h => ?_)
  · obtain ⟨n, d, rfl, _⟩ := h; rfl
  · obtain ⟨n, d, rfl, h0, hb, q⟩ := h
    refine ⟨_, PSs.nox (pss_cons (ps_set (i := 2) sc_in_form.nd rfl (.inl rfl) (pe_ifExp (pt_cmpR op_gt (pv 1) pe_int (nomark _)) (pe_callBfun cr_gcd rfl T.gcd (pa_cons (pv 0) (pa_cons (pv 1) pa_nil))) (pe_un un_neg (pe_callBfun cr_gcd rfl T.gcd (pa_cons (pv 0) (pa_cons (pv 1) pa_nil))))))
      (pss_one (ps_ret (pe_tup (pa_cons (pe_op op_fdivX (pv 0) (pv 2)) (pa_cons (pe_op op_fdivX (pv 1) (pv 2)) pa_nil)))))), ?_⟩
    have hg : 0 < Nat.gcd n.natAbs d.natAbs := Nat.gcd_pos_of_pos_right _ (by omega)
    have hgb : Nat.gcd n.natAbs d.natAbs < 2 ^ 8500 := Nat.lt_of_le_of_lt (Nat.gcd_le_right _ (by omega)) hb
    refine ⟨_, rfl, _, _, rfl, rfl, _, rfl, ite2 (fun hd => ?_) fun hd => ?_⟩
    · have hd : 0 < d := by simpa using hd
      refine ⟨_, rfl, _, rfl, _, _, rfl, ?_⟩
      have c1 : ∀ i : Int, CDivX i ((Nat.gcd n.natAbs d.natAbs : Nat) : Int) := fun i => divX (b := 8500) (by omega) (by rw [Int.natAbs_natCast]; exact hgb) (by decide) (by decide)
      refine ⟨_, rfl, _, rfl, _, _, rfl, rfl, c1 _, _, rfl, _, rfl, _, _, rfl, rfl, c1 _, (by show 2 ≤ sizeLine; decide), fun p hp => ?_⟩
      exact q _ _ (same_new hp) (newQ (form_num hd).1 (form_num hd).2)
    · have hd : d < 0 := by
        have : ¬ 0 < d := by simpa using hd
        omega
      refine ⟨_, rfl, _, rfl, _, _, rfl, _, rfl, ?_⟩
      have c1 : ∀ i : Int, CDivX i (-((Nat.gcd n.natAbs d.natAbs : Nat) : Int)) := fun i => divX (b := 8500) (by omega) (by rw [Int.natAbs_neg, Int.natAbs_natCast]; exact hgb) (by decide) (by decide)
      refine ⟨_, rfl, _, rfl, _, _, rfl, rfl, c1 _, _, rfl, _, rfl, _, _, rfl, rfl, c1 _, (by show 2 ≤ sizeLine; decide), fun p hp => ?_⟩
      exact q _ _ (same_new hp) (newQ (form_neg hd).1 (form_neg hd).2)
/-- two fractions to one -/
def spQQ (K : PySem.W.Frag) (pre : Rat → Rat → Prop) (g : Rat → Rat → Rat) : Sp := fun vs H Q _ => ∃ v w x y, vs = [v, w] ∧ iQ K H v x ∧ iQ K H w y ∧ pre x y ∧ ∀ u H', Same H H' → iQ K H' u (g x y) → Q u H'
abbrev S4 (x y : Rat) : Prop := Sz 4000 x ∧ Sz 4000 y
theorem mulS {x y : Int} (hx : Bd 4000 x) (hy : Bd 4000 y) : CMulW x y := wide_mul hx hy (by decide) (by decide) (by decide)
theorem dmul_ne {x y : Rat} : (x.den : Int) * (y.den : Int) ≠ 0 := by
  have h1 := x.den_pos
  have h2 := y.den_pos
  exact Int.mul_ne_zero (by omega) (by omega)
theorem dmul_lt {x y : Int} (hx : Bd 4000 x) (hy : Bd 4000 y) : Bd 8500 (x * y) := (bd_mul hx hy).mono (by decide)
theorem sret_call {σ : L2.St} {H : Hp} {D : Ends} {t : TA} {vs : List V} {sp : Sp} (h : ValA t σ H vs) (g : sp (vs ++ []) H D.rt E0) : tRet (tCall sp [] E0 t) D σ H := h _ g
theorem sc_plus : FnScope ["x", "y"] ["x", "y"] (defScope s_plus) := ⟨rfl, rfl, rfl, by decide +kernel, rfl, by decide +kernel, by decide +kernel⟩
theorem ok_plus (T : Txt K mg) : FnOk P w K mg base CX0 2 T.plus.f T.plus.fd ["x", "y"] (spQQ K S4 (· + ·)) := by
  refine T.plus.F.ok sc_plus (fun vs H Q E h => ?_) (fun cdv A outer s H vs Q E hr h => ?_)
  · obtain ⟨_, _, _, _, rfl, _⟩ := h; rfl
  · obtain ⟨v, w, x, y, rfl, hx, hy, ⟨sx, sy⟩, q⟩ := h
    refine ⟨_, PSs.nox (pss_one (ps_ret (pcall T.in_form (ok_in_form T) hr (pa_cons (pe_op op_add (pe_op op_mulW (pe_ix ix_tup (pv 0) pe_int (fun _ _ => rfl)) (pe_ix ix_tup (pv 1) pe_int (fun _ _ => rfl))) (pe_op op_mulW (pe_ix ix_tup (pv 1) pe_int (fun _ _ => rfl)) (pe_ix ix_tup (pv 0) pe_int (fun _ _ => rfl))))
      (pa_cons (pe_op op_mulW (pe_ix ix_tup (pv 0) pe_int (fun _ _ => rfl)) (pe_ix ix_tup (pv 1) pe_int (fun _ _ => rfl))) pa_nil))))), ?_⟩
    refine sret_call (va2 (vadd (vmul (vnum rfl hx) (vden rfl hy) (mulS sx.n sy.d)) (vmul (vnum rfl hy) (vden rfl hx) (mulS sy.n sx.d))) (vmul (vden rfl hx) (vden rfl hy) (mulS sx.d sy.d))) ?_
    exact ⟨_, _, rfl, dmul_ne, dmul_lt sx.d sy.d, fun u H' s hu => q u H' s (by show iQ K H' u (x + y); rw [add_divInt]; exact hu)⟩
end
end K19
namespace K19
open PySem PySem.Spec L2
/-! ### sources of walks -/
section
variable {K : PySem.W.Frag} {σ : L2.St} {H : Hp} {α β γ : Type} {R : Rp α} {S : Rp β} {Z : Rp γ}
def WS (wi : TI) (σ : L2.St) (H : Hp) (R : Rp α) (xs : List α) : Prop := ∀ Rr : It → Hp → Prop, (∀ J H1, Same H H1 → TW J H1 R xs → Rr J H1) → wi σ H Rr
theorem ws_list (mR : Mon R) {tl : TE} {xs : List α} (h : VS tl σ H (fun v H' => iL K R H' v xs)) : WS (iList K tl) σ H R xs := fun Rr k =>
  h _ fun v H' s ⟨a, vs, e, q, p⟩ => ⟨a, e, ⟨vs, q⟩, k _ _ s (tw_list mR q p)⟩
theorem ws_tup (mR : Mon R) {tl : TE} {xs : List α} (h : VS tl σ H (fun v H' => iT K R H' v xs)) : WS (iTup K tl) σ H R xs := fun Rr k =>
  h _ fun v H' s ⟨a, vs, e, q, p⟩ => ⟨a, e, ⟨vs, q⟩, k _ _ s (tw_tup mR q p)⟩
theorem ws_range1 {t : TA} {n : Int} (h : ValA t σ H [.int n]) (h0 : -(2 ^ 62) ≤ n) (h1 : n < 2 ^ 62) : WS (iRng1 t) σ H iI (ups 0 n.toNat) := fun Rr k =>
  h _ ⟨n, rfl, h0, h1, k _ _ (Same.refl _) tw_range⟩
theorem ws_range2 {t : TA} {a b : Int} (h : ValA t σ H [.int a, .int b]) (h0 : -(2 ^ 62) ≤ a) (h1 : a < 2 ^ 62) (h2 : -(2 ^ 62) ≤ b) (h3 : b < 2 ^ 62) : WS (iRng2 t) σ H iI (ups a (b - a).toNat) := fun Rr k =>
  h _ ⟨a, b, rfl, ⟨h0, h1, h2, h3⟩, k _ _ (Same.refl _) tw_range⟩
theorem ws_zip (mR : Mon R) (mS : Mon S) {k1 k2 : Bool} {t : TA} {v w : V} {xs : List α} {ys : List β} (h : ValA t σ H [v, w]) (hv : iSq K k1 R H v xs) (hw : iSq K k2 S H w ys) : WS (iZipM K k1 k2 t) σ H (iP K R S) (xs.zip ys) := fun Rr k => by
  obtain ⟨a, vs, rfl, q1, p1⟩ := hv.out
  obtain ⟨b, ws, rfl, q2, p2⟩ := hw.out
  exact h _ ⟨a, b, vs, ws, rfl, q1, q2, k _ _ (Same.refl _) (tw_zip mR mS q1 q2 p1 p2)⟩
theorem ws_enum (mR : Mon R) {k1 : Bool} {t : TA} {v : V} {xs : List α} (h : ValA t σ H [v]) (hv : iSq K k1 R H v xs) : WS (iEnumB K k1 t) σ H (iP K iI R) (numd xs) := fun Rr k => by
  obtain ⟨a, vs, rfl, q1, p1⟩ := hv.out
  exact h _ ⟨a, vs, rfl, q1, k _ _ (Same.refl _) (tw_enum mR q1 p1)⟩
/-! ### comprehensions -/
/-- what a comprehension gives: a new list -/
abbrev NewL (Z : Rp γ) (H : Hp) (zs : List γ) : V → Hp → Prop := fun u H' => ∃ p, u = .ref p ∧ H p = none ∧ nL Z H' p zs
/-- an element's value -/
abbrev El (NE : V → Addr → Prop) (Z : Rp γ) (H : Hp) (z : γ) : V → Hp → Prop := fun y H4 => Z H4 y z ∧ ∀ D acc, H D = some (.lst acc) → NE y D
theorem vs_lcN {NE : V → Addr → Prop} (rb : Rob NE Z) (mZ : Mon Z) {wi : TI} {te : TE} {vs : List Nat} {i : Nat} {xs : List α} (f : α → γ) (w : WS wi σ H R xs) (hlen : xs.length ≤ sizeLine) (hwp : ∀ a, wipe ((wipe σ vs).set i a) vs = wipe σ vs)
    (hs : ∀ (x : α) (v : V) (H' : Hp), x ∈ xs → Same H H' → R H' v x → VS te ((wipe σ vs).set i (some v)) H' (El NE Z H' (f x))) : VS (tLc wi (gName i) tYes te vs) σ H (NewL Z H (xs.map f)) := fun Q k =>
  w _ fun J H1 s tw => lc_map tw rb mZ f hlen (fun x v H' C hm s' hr hC => ⟨hwp _, hs x v H' hm (s.trans s') hr C fun y H4 s4 ⟨z1, z2⟩ => hC y H4 s4 z1 fun D acc _ h => z2 D acc h⟩) fun D H' s' hD hn => k _ _ (s.trans s') ⟨D, rfl, s.free hD, hn⟩
theorem vs_lcP {NE : V → Addr → Prop} (rb : Rob NE Z) (mZ : Mon Z) {wi : TI} {te : TE} {vs : List Nat} {i j : Nat} {xs : List (α × β)} (f : α × β → γ) (w : WS wi σ H (iP K R S) xs) (hlen : xs.length ≤ sizeLine) (hwp : ∀ a b, wipe (((wipe σ vs).set i a).set j b) vs = wipe σ vs)
    (hs : ∀ (x : α) (y : β) (v w : V) (H' : Hp), (x, y) ∈ xs → Same H H' → R H' v x → S H' w y → VS te (((wipe σ vs).set i (some v)).set j (some w)) H' (El NE Z H' (f (x, y)))) : VS (tLc wi (gTup K 2 (gCons (gName i) (gCons (gName j) gNil))) tYes te vs) σ H (NewL Z H (xs.map f)) := fun Q k =>
  w _ fun J H1 s tw => lc_map tw rb mZ f hlen (fun x v H' C hm s' hr hC => g_pair hr fun a b ha hb => ⟨hwp _ _, hs x.1 x.2 a b H' hm (s.trans s') ha hb C fun y H4 s4 ⟨z1, z2⟩ => hC y H4 s4 z1 fun D acc _ h => z2 D acc h⟩) fun D H' s' hD hn => k _ _ (s.trans s') ⟨D, rfl, s.free hD, hn⟩
theorem vs_lcNF {NE : V → Addr → Prop} (rb : Rob NE Z) (mZ : Mon Z) {wi : TI} {tt : TT} {te : TE} {vs : List Nat} {i : Nat} {xs : List α} (f : α → γ) (p : α → Bool) (w : WS wi σ H R xs) (hlen : xs.length ≤ sizeLine) (hwp : ∀ a, wipe ((wipe σ vs).set i a) vs = wipe σ vs)
    (hs : ∀ (x : α) (v : V) (H' : Hp), x ∈ xs → Same H H' → R H' v x → ∀ C : Bool → Hp → Prop, (∀ H3, Same H' H3 → C (p x) H3) → tt ((wipe σ vs).set i (some v)) H' C)
    (he : ∀ (x : α) (v : V) (H' : Hp), x ∈ xs → Same H H' → R H' v x → p x = true → VS te ((wipe σ vs).set i (some v)) H' (El NE Z H' (f x))) (mR : Mon R) : VS (tLc wi (gName i) tt te vs) σ H (NewL Z H ((xs.filter p).map f)) := fun Q k =>
  w _ fun J H1 s tw => lc_gen tw rb mZ f p hlen (fun x v H' C C' hm s' hr h1 h2 => ⟨hwp _, hs x v H' hm (s.trans s') hr _ fun H3 s3 => by
    cases e : p x with
    | true => exact iteT (he x v H3 hm (s.trans (s'.trans s3)) (mR.to s3 hr) e C fun y H4 s4 ⟨z1, z2⟩ => h1 e y H4 (s3.trans s4) z1 fun D acc _ hD => z2 D acc (s3 _ _ hD))
    | false => exact iteF (h2 e H3 s3)⟩) fun D H' s' hD hn => k _ _ (s.trans s') ⟨D, rfl, s.free hD, hn⟩
theorem vs_lcPF {NE : V → Addr → Prop} (rb : Rob NE Z) (mZ : Mon Z) {wi : TI} {tt : TT} {te : TE} {vs : List Nat} {i j : Nat} {xs : List (α × β)} (f : α × β → γ) (p : α × β → Bool) (w : WS wi σ H (iP K R S) xs) (hlen : xs.length ≤ sizeLine) (hwp : ∀ a b, wipe (((wipe σ vs).set i a).set j b) vs = wipe σ vs)
    (hs : ∀ (x : α) (y : β) (v w : V) (H' : Hp), (x, y) ∈ xs → Same H H' → R H' v x → S H' w y → ∀ C : Bool → Hp → Prop, (∀ H3, Same H' H3 → C (p (x, y)) H3) → tt (((wipe σ vs).set i (some v)).set j (some w)) H' C)
    (he : ∀ (x : α) (y : β) (v w : V) (H' : Hp), (x, y) ∈ xs → Same H H' → R H' v x → S H' w y → p (x, y) = true → VS te (((wipe σ vs).set i (some v)).set j (some w)) H' (El NE Z H' (f (x, y)))) (mR : Mon R) (mS : Mon S) : VS (tLc wi (gTup K 2 (gCons (gName i) (gCons (gName j) gNil))) tt te vs) σ H (NewL Z H ((xs.filter p).map f)) := fun Q k =>
  w _ fun J H1 s tw => lc_gen tw rb mZ f p hlen (fun x v H' C C' hm s' hr h1 h2 => g_pair hr fun a b ha hb => ⟨hwp _ _, hs x.1 x.2 a b H' hm (s.trans s') ha hb _ fun H3 s3 => by
    cases e : p x with
    | true => exact iteT (he x.1 x.2 a b H3 hm (s.trans (s'.trans s3)) (mR.to s3 ha) (mS.to s3 hb) e C fun y H4 s4 ⟨z1, z2⟩ => h1 e y H4 (s3.trans s4) z1 fun D acc _ hD => z2 D acc (s3 _ _ hD))
    | false => exact iteF (h2 e H3 s3)⟩) fun D H' s' hD hn => k _ _ (s.trans s') ⟨D, rfl, s.free hD, hn⟩
/-- an element's value, that may have been there before the list -/
abbrev El2 (NE : V → Addr → Prop) (Z : Rp γ) (H1 H : Hp) (z : γ) : V → Hp → Prop := fun y H4 => Z H4 y z ∧ ∀ D acc, H1 D = none → H D = some (.lst acc) → NE y D
theorem vs_lcP2 {NE : V → Addr → Prop} (rb : Rob NE Z) (mZ : Mon Z) {wi : TI} {te : TE} {vs : List Nat} {i j : Nat} {xs : List (α × β)} (f : α × β → γ) (w : WS wi σ H (iP K R S) xs) (hlen : xs.length ≤ sizeLine) (hwp : ∀ a b, wipe (((wipe σ vs).set i a).set j b) vs = wipe σ vs)
    (hs : ∀ (x : α) (y : β) (v w : V) (H1 H' : Hp), (x, y) ∈ xs → Same H H1 → Same H1 H' → R H' v x → S H' w y → VS te (((wipe σ vs).set i (some v)).set j (some w)) H' (El2 NE Z H1 H' (f (x, y)))) : VS (tLc wi (gTup K 2 (gCons (gName i) (gCons (gName j) gNil))) tYes te vs) σ H (NewL Z H (xs.map f)) := fun Q k =>
  w _ fun J H1 s tw => lc_map tw rb mZ f hlen (fun x v H' C hm s' hr hC => g_pair hr fun a b ha hb => ⟨hwp _ _, hs x.1 x.2 a b H1 H' hm s s' ha hb C fun y H4 s4 ⟨z1, z2⟩ => hC y H4 s4 z1 z2⟩) fun D H' s' hD hn => k _ _ (s.trans s') ⟨D, rfl, s.free hD, hn⟩
theorem VS.imp {te : TE} {R1 R2 : V → Hp → Prop} (h : VS te σ H R1) (g : ∀ v H', Same H H' → R1 v H' → R2 v H') : VS te σ H R2 := fun Q k => h Q fun v H' s r => k v H' s (g v H' s r)
/-- an element that wants nothing of the list -/
theorem VS.el {te : TE} {z : γ} (h : VS te σ H (fun y H4 => Z H4 y z)) : VS te σ H (El noNE Z H z) := h.imp fun v H' s r => ⟨r, fun _ _ _ => trivial⟩
/-! ### calls of built-ins on what was made -/
theorem vs_tuple {te : TE} {zs : List γ} (mZ : Mon Z) (h : VS te σ H (NewL Z H zs)) :
    VS (tCB (rTupK K) (tCons te tNil)) σ H (fun u H' => iT K Z H' u zs) := fun Q k =>
  h _ fun v H' s ⟨p, e, _, ys, hp, q⟩ => ⟨p, ys, by rw [e], .inl ⟨SqL.of hp, fun l hl => k _ _ (s.trans (same_new hl)) ⟨l, ys, rfl, SqT.of upd_same, paired_mono mZ (same_new hl) q⟩⟩⟩
theorem vs_tupleL {te : TE} {zs : List γ} (mZ : Mon Z) (h : VS te σ H (fun u H' => iL K Z H' u zs)) :
    VS (tCB (rTupK K) (tCons te tNil)) σ H (fun u H' => iT K Z H' u zs) := fun Q k =>
  h _ fun v H' s ⟨p, ys, e, hp, q⟩ => ⟨p, ys, by rw [e], .inl ⟨hp, fun l hl => k _ _ (s.trans (same_new hl)) ⟨l, ys, rfl, SqT.of upd_same, paired_mono mZ (same_new hl) q⟩⟩⟩
theorem vs_all {te : TE} {bs : List Bool} (h : VS te σ H (NewL iB H bs)) : VS (tCB (rAll K) (tCons te tNil)) σ H (fun u _ => u = .bl (bs.all id)) := fun Q k =>
  h _ fun v H' s ⟨p, e, _, ys, hp, q⟩ => ⟨p, bs, by rw [e], by rw [← pbool q]; exact SqL.of hp, k _ _ s rfl⟩
theorem vs_any {te : TE} {bs : List Bool} (h : VS te σ H (NewL iB H bs)) : VS (tCB (rAny K) (tCons te tNil)) σ H (fun u _ => u = .bl (bs.any id)) := fun Q k =>
  h _ fun v H' s ⟨p, e, _, ys, hp, q⟩ => ⟨p, bs, by rw [e], by rw [← pbool q]; exact SqL.of hp, k _ _ s rfl⟩
theorem vs_sum {te : TE} {ns : List Int} (h : VS te σ H (NewL iI H ns)) : VS (tCB (rSum K) (tCons te tNil)) σ H (fun u _ => u = .int ns.sum) := fun Q k =>
  h _ fun v H' s ⟨p, e, _, ys, hp, q⟩ => ⟨p, ns, by rw [e], by rw [← pint q]; exact SqL.of hp, k _ _ s rfl⟩
theorem vs_list {te : TE} {k1 : Bool} {xs : List α} (mR : Mon R) (h : VS te σ H (fun u H' => iSq K k1 R H' u xs)) :
    VS (tCB (rListK K) (tCons te tNil)) σ H (NewL R H xs) := fun Q k =>
  h _ fun v H' s hv => by
    obtain ⟨p, ys, rfl, hp, q⟩ := iSq.out hv
    refine ⟨p, ys, rfl, ?_, fun l hl => k _ _ (s.trans (same_new hl)) ⟨l, rfl, s.free hl, ys, upd_same, paired_mono mR (same_new hl) q⟩⟩
    cases k1
    · exact .inl hp
    · exact .inr hp
/-- len -/
theorem v_len {te : TE} {k1 : Bool} {v : V} {xs : List α} (h : Val te σ H v) (hv : iSq K k1 R H v xs) :
    Val (tCB (rLenK K) (tCons te tNil)) σ H (.int xs.length) := fun Q k => by
  obtain ⟨p, ys, rfl, hp, q⟩ := hv.out
  refine h _ ⟨p, ys, rfl, ?_, by rw [plen q]; exact k⟩
  cases k1
  · exact .inl hp
  · exact .inr hp
/-- an item at a place -/
theorem v_ixT {ta tb : TE} {v : V} {xs : List α} {i : Nat} {x : α} (h : Val ta σ H v) (g : Val tb σ H (.int (i : Int))) (hv : iT K R H v xs) (hx : xs[i]? = some x) {Q : VK} (k : ∀ u, R H u x → Q u H) : tOp (rIxT K) ta tb σ H Q := by
  obtain ⟨a, vs, rfl, q, p⟩ := hv
  obtain ⟨u, hu, hr⟩ := pgetR p hx
  exact h _ (g _ ⟨a, vs, (i : Int), u, rfl, rfl, q, atI_nat hu, k u hr⟩)
theorem v_ixL {ta tb : TE} {v : V} {xs : List α} {i : Nat} {x : α} (h : Val ta σ H v) (g : Val tb σ H (.int (i : Int))) (hv : iL K R H v xs) (hx : xs[i]? = some x) {Q : VK} (k : ∀ u, R H u x → Q u H) : tOp (rIxL K) ta tb σ H Q := by
  obtain ⟨a, vs, rfl, q, p⟩ := hv
  obtain ⟨u, hu, hr⟩ := pgetR p hx
  exact h _ (g _ ⟨a, vs, (i : Int), u, rfl, rfl, q, atI_nat hu, k u hr⟩)
theorem vs_ixT {ta tb : TE} {v : V} {xs : List α} {i : Nat} {x : α} (h : Val ta σ H v) (g : Val tb σ H (.int (i : Int))) (hv : iT K R H v xs) (hx : xs[i]? = some x) : VS (tOp (rIxT K) ta tb) σ H (fun u H' => R H' u x) := fun Q k => v_ixT h g hv hx fun u hu => k _ _ (Same.refl _) hu
theorem vs_ixL {ta tb : TE} {v : V} {xs : List α} {i : Nat} {x : α} (h : Val ta σ H v) (g : Val tb σ H (.int (i : Int))) (hv : iL K R H v xs) (hx : xs[i]? = some x) : VS (tOp (rIxL K) ta tb) σ H (fun u H' => R H' u x) := fun Q k => v_ixL h g hv hx fun u hu => k _ _ (Same.refl _) hu
end
end K19
namespace K19
open PySem PySem.Spec L2
section
variable {K : PySem.W.Frag} {σ : L2.St} {H : Hp} {α β γ : Type} {R : Rp α} {S : Rp β} {Z : Rp γ}
/-! ### loops that only make new things -/
theorem st_for {wi : TI} {g : TG} {tb : TS} {D : Ends} {xs : List α} (Pv : Nat → L2.St → Hp → Prop) (w : WS wi σ H R xs) (h0 : ∀ H1, Same H H1 → Pv 0 σ H1)
    (hs : ∀ (i : Nat) (x : α) (v : V) (σ1 : L2.St) (H1 H2 : Hp) (N : L2.St → Hp → Prop), xs[i]? = some x → Pv i σ1 H1 → Same H H1 → Same H1 H2 → R H2 v x → (∀ σ3 H3, Same H2 H3 → Pv (i + 1) σ3 H3 → N σ3 H3) →
      g v σ1 H2 fun σ2 H3 => tb { D with nx := N, ct := N, bk := D.nx } σ2 H3)
    (hd : ∀ σ1 H1, Same H H1 → Pv xs.length σ1 H1 → D.nx σ1 H1) : tFor wi g tb D σ H :=
  w _ fun J H1 s tw => for_it tw (fun i σ1 H2 => Pv i σ1 H2 ∧ Same H1 H2) ⟨h0 H1 s, Same.refl _⟩ (fun _ _ _ _ p => p.2)
    (fun i v σ1 H2 H3 hi p y => by
      obtain ⟨s2, x, hx, hr⟩ := y
      exact hs i x v σ1 H2 H3 _ hx p.1 (s.trans p.2) s2 hr fun σ3 H4 s4 p4 => ⟨p4, p.2.trans (s2.trans s4)⟩)
    (fun σ1 H2 p => hd σ1 H2 (s.trans p.2) p.1)
theorem st_set' {te : TE} {D : Ends} {i : Nat} {R : V → Hp → Prop} (h : VS te σ H R) (q : ∀ v H', Same H H' → R v H' → D.nx (σ.set i (some v)) H') : tAsg te (gName i) D σ H := h _ q
theorem st_ret' {te : TE} {D : Ends} {R : V → Hp → Prop} (h : VS te σ H R) (q : ∀ v H', Same H H' → R v H' → D.rt v H') : tRet te D σ H := h _ q
/-- two calls, one within the other's arguments -/
theorem vsa2 {ta tb : TE} {x : V} {R : V → Hp → Prop} (h : Val ta σ H x) (g : VS tb σ H R) : VSA (tCons ta (tCons tb tNil)) σ H (fun vs H' => ∃ y, vs = [x, y] ∧ R y H') := fun Q k => h _ (g _ fun y H' s r => k _ _ s ⟨y, rfl, r⟩)
theorem vsa1 {ta : TE} {R : V → Hp → Prop} (h : VS ta σ H R) : VSA (tCons ta tNil) σ H (fun vs H' => ∃ y, vs = [y] ∧ R y H') := fun Q k => h _ fun y H' s r => k _ _ s ⟨y, rfl, r⟩
theorem ValA.vsa {t : TA} {vs : List V} {R : List V → Hp → Prop} (h : ValA t σ H vs) (r : R vs H) : VSA t σ H R := fun Q k => h _ (k _ _ (Same.refl _) r)
theorem vs_callS {t : TA} {sp : Sp} {A : List V → Hp → Prop} {R : V → Hp → Prop} (h : VSA t σ H A) (g : ∀ vs H', Same H H' → A vs H' → ∀ Q : VK, (∀ v H2, Same H' H2 → R v H2 → Q v H2) → sp (vs ++ []) H' Q E0) : VS (tCall sp [] E0 t) σ H R := fun Q k =>
  h _ fun vs H' s a => g vs H' s a Q fun v H2 s2 r => k v H2 (s.trans s2) r
end
/-- an object of the module by its name -/
theorem pgl {X : Cx} {x : Str} {a : Addr} {pos : Pos} (hm : X.mg x = some (.ref a)) (hg : Gl X x := by rfl) (hd : (x == ("__debug__" : Str)) = false := by decide) : PE X (.Name x pos) (tC (.ref a)) := pe_glob hg hm rfl hd
/-! ### sums of fractions -/
def sumQ (xs : List Rat) : Rat := xs.foldl (· + ·) 0
def dotL (xs ys : List Rat) : Rat := sumQ ((xs.zip ys).map fun p => p.1 * p.2)
theorem sumQ_snoc (xs : List Rat) (x : Rat) : sumQ (xs ++ [x]) = sumQ xs + x := by unfold sumQ; rw [List.foldl_append]; rfl
theorem sumQ_take {xs : List Rat} {i : Nat} {x : Rat} (h : xs[i]? = some x) : sumQ (xs.take (i + 1)) = sumQ (xs.take i) + x := by
  rw [List.take_add_one, h]; exact sumQ_snoc _ _
theorem sz_sumQ {b : Nat} : ∀ {n : Nat} {xs : List Rat}, xs.length = n → (∀ x ∈ xs, Sz b x) → Sz (1 + n * (b + 1)) (sumQ xs)
  | 0, xs, hl, _ => by
    have : xs = [] := List.eq_nil_of_length_eq_zero hl
    subst this; exact sz_0.mono (by omega)
  | n + 1, xs, hl, h => by
    have hne : xs ≠ [] := fun e => by subst e; simp at hl
    have e := (List.dropLast_concat_getLast hne).symm
    generalize xs.dropLast = T at e
    generalize xs.getLast hne = l at e
    subst e
    rw [sumQ_snoc]
    have h1 := sz_sumQ (b := b) (n := n) (xs := T) (by simpa using hl) fun x hx => h x (by simp [hx])
    have h2 := sz_add h1 (h l (by simp))
    exact h2.mono (by rw [Nat.succ_mul]; omega)
theorem sz_dotL {a b n : Nat} {xs ys : List Rat} (hx : ∀ x ∈ xs, Sz a x) (hy : ∀ y ∈ ys, Sz b y) (hn : xs.length ≤ n) : Sz (1 + n * (a + b + 1)) (dotL xs ys) := by
  have h := sz_sumQ (b := a + b) (n := ((xs.zip ys).map fun p => p.1 * p.2).length) (xs := (xs.zip ys).map fun p => p.1 * p.2) rfl fun z hz => by
    obtain ⟨p, hp, rfl⟩ := List.mem_map.mp hz
    exact sz_mul (hx _ (List.of_mem_zip hp).1) (hy _ (List.of_mem_zip hp).2)
  refine h.mono ?_
  have : ((xs.zip ys).map fun p => p.1 * p.2).length ≤ n := by rw [List.length_map, List.length_zip]; omega
  have := Nat.mul_le_mul_right (a + b + 1) this
  omega
def lcmL (ns : List Int) : Int := ns.foldl (fun f n => f * (n / ((Nat.gcd f.natAbs n.natAbs : Nat) : Int))) 1
theorem lcmL_snoc (ns : List Int) (n : Int) : lcmL (ns ++ [n]) = lcmL ns * (n / ((Nat.gcd (lcmL ns).natAbs n.natAbs : Nat) : Int)) := by unfold lcmL; rw [List.foldl_append]; rfl
theorem lcmL_take {ns : List Int} {i : Nat} {n : Int} (h : ns[i]? = some n) : lcmL (ns.take (i + 1)) = lcmL (ns.take i) * (n / ((Nat.gcd (lcmL (ns.take i)).natAbs n.natAbs : Nat) : Int)) := by
  rw [List.take_add_one, h]; exact lcmL_snoc _ _
theorem bd_div {b : Nat} {x g : Int} (hx : Bd b x) : Bd b (x / g) := Nat.lt_of_le_of_lt (Int.natAbs_ediv_le_natAbs _ _) hx
theorem bd_lcmL {b : Nat} : ∀ {n : Nat} {ns : List Int}, ns.length = n → (∀ x ∈ ns, Bd b x) → Bd (1 + n * b) (lcmL ns)
  | 0, ns, hl, _ => by
    have : ns = [] := List.eq_nil_of_length_eq_zero hl
    subst this; unfold Bd lcmL; exact Nat.lt_of_lt_of_le (by decide : 1 < 2 ^ 1) (Nat.pow_le_pow_right (by decide) (by omega))
  | n + 1, ns, hl, h => by
    have hne : ns ≠ [] := fun e => by subst e; simp at hl
    have e := (List.dropLast_concat_getLast hne).symm
    generalize ns.dropLast = T at e
    generalize ns.getLast hne = l at e
    subst e
    rw [lcmL_snoc]
    have h1 := bd_lcmL (b := b) (n := n) (ns := T) (by simpa using hl) fun x hx => h x (by simp [hx])
    have h2 := bd_mul h1 (bd_div (g := ((Nat.gcd (lcmL T).natAbs l.natAbs : Nat) : Int)) (h l (by simp)))
    exact h2.mono (by rw [Nat.succ_mul]; omega)
/-! ### fractions, on -/
section
variable {P : Program} {w : World} {K : PySem.W.Frag} {mg : Str → Option Value} {base : Heap}
theorem sc_minus : FnScope ["x", "y"] ["x", "y"] (defScope s_minus) := ⟨rfl, rfl, rfl, by decide +kernel, rfl, by decide +kernel, by decide +kernel⟩
theorem ok_minus (T : Txt K mg) : FnOk P w K mg base CX0 2 T.minus.f T.minus.fd ["x", "y"] (spQQ K S4 (· - ·)) := by
  refine T.minus.F.ok sc_minus (fun vs H Q E h => ?_) (fun cdv A outer s H vs Q E hr h => ?_)
  · obtain ⟨_, _, _, _, rfl, _⟩ := h; rfl
  · obtain ⟨v, w, x, y, rfl, hx, hy, ⟨sx, sy⟩, q⟩ := h
    refine ⟨_, PSs.nox (pss_one (ps_ret (pcall T.in_form (ok_in_form T) hr (pa_cons (pe_op op_sub (pe_op op_mulW (pe_ix ix_tup (pv 0) pe_int (fun _ _ => rfl)) (pe_ix ix_tup (pv 1) pe_int (fun _ _ => rfl))) (pe_op op_mulW (pe_ix ix_tup (pv 1) pe_int (fun _ _ => rfl)) (pe_ix ix_tup (pv 0) pe_int (fun _ _ => rfl))))
      (pa_cons (pe_op op_mulW (pe_ix ix_tup (pv 0) pe_int (fun _ _ => rfl)) (pe_ix ix_tup (pv 1) pe_int (fun _ _ => rfl))) pa_nil))))), ?_⟩
    refine sret_call (va2 (vsub (vmul (vnum rfl hx) (vden rfl hy) (mulS sx.n sy.d)) (vmul (vnum rfl hy) (vden rfl hx) (mulS sy.n sx.d))) (vmul (vden rfl hx) (vden rfl hy) (mulS sx.d sy.d))) ?_
    exact ⟨_, _, rfl, dmul_ne, dmul_lt sx.d sy.d, fun u H' s hu => q u H' s (by show iQ K H' u (x - y); rw [sub_divInt]; exact hu)⟩
theorem sc_times_of : FnScope ["x", "y"] ["x", "y"] (defScope s_times_of) := ⟨rfl, rfl, rfl, by decide +kernel, rfl, by decide +kernel, by decide +kernel⟩
theorem ok_times_of (T : Txt K mg) : FnOk P w K mg base CX0 2 T.times_of.f T.times_of.fd ["x", "y"] (spQQ K S4 (· * ·)) := by
  refine T.times_of.F.ok sc_times_of (fun vs H Q E h => ?_) (fun cdv A outer s H vs Q E hr h => ?_)
  · obtain ⟨_, _, _, _, rfl, _⟩ := h; rfl
  · obtain ⟨v, w, x, y, rfl, hx, hy, ⟨sx, sy⟩, q⟩ := h
    refine ⟨_, PSs.nox (pss_one (ps_ret (pcall T.in_form (ok_in_form T) hr (pa_cons (pe_op op_mulW (pe_ix ix_tup (pv 0) pe_int (fun _ _ => rfl)) (pe_ix ix_tup (pv 1) pe_int (fun _ _ => rfl)))
      (pa_cons (pe_op op_mulW (pe_ix ix_tup (pv 0) pe_int (fun _ _ => rfl)) (pe_ix ix_tup (pv 1) pe_int (fun _ _ => rfl))) pa_nil))))), ?_⟩
    refine sret_call (va2 (vmul (vnum rfl hx) (vnum rfl hy) (mulS sx.n sy.n)) (vmul (vden rfl hx) (vden rfl hy) (mulS sx.d sy.d))) ?_
    exact ⟨_, _, rfl, dmul_ne, dmul_lt sx.d sy.d, fun u H' s hu => q u H' s (by show iQ K H' u (x * y); rw [mul_divInt]; exact hu)⟩
def spFraction (K : PySem.W.Frag) : Sp := spInForm K
theorem v_isnum {σ : L2.St} {H : Hp} {t : TA} {n : Int} (h : ValA t σ H [.int n]) : Val (tCall spIsNumber [] E0 t) σ H (.bl true) := fun Q k => h _ ⟨n, rfl, k⟩
theorem sc_fraction : FnScope ["n", "d"] ["n", "d"] (defScope s_fraction) := ⟨rfl, rfl, rfl, by decide +kernel, rfl, by decide +kernel, by decide +kernel⟩
theorem ok_fraction (T : Txt K mg) : FnOk P w K mg base CX0 2 T.fraction.f T.fraction.fd ["n", "d"] (spInForm K) := by
  refine T.fraction.F.ok sc_fraction (fun vs H Q E h => ?_) (fun cdv A outer s H vs Q E hr h => ?_)
  · obtain ⟨n, d, rfl, _⟩ := h; rfl
  · obtain ⟨n, d, rfl, h0, hb, q⟩ := h
    refine ⟨_, PSs.nox (pss_cons (ps_if (PW.pt (pw_or (pt_not (pt_val (pcall T.is_number (ok_is_number T) hr (pa_cons (pv 0) pa_nil)))) (pw_or (pt_not (pt_val (pcall T.is_number (ok_is_number T) hr (pa_cons (pv 1) pa_nil)))) (pw_or1 (pt_cmpR op_eq (pv 1) pe_int (nomark _)))))) pss_never pss_nil)
      (pss_one (ps_ret (pcall T.in_form (ok_in_form T) hr (pa_cons (pv 0) (pa_cons (pv 1) pa_nil)))))), ?_⟩
    refine st_seq (st_no (ans_or (ans_not (ans_val (v_isnum (va1 (val_var rfl))))) (ans_or (ans_not (ans_val (v_isnum (va1 (val_var rfl))))) (ans_eq (val_var rfl) val_c rfl (b := false) (by simpa using h0)))) (st_next ?_))
    refine sret_call (va2 (val_var rfl) (val_var rfl)) ?_
    exact ⟨n, d, rfl, h0, hb, q⟩
theorem sc_divided : FnScope ["x", "y"] ["x", "y"] (defScope s_divided) := ⟨rfl, rfl, rfl, by decide +kernel, rfl, by decide +kernel, by decide +kernel⟩
theorem ok_divided (T : Txt K mg) : FnOk P w K mg base CX0 3 T.divided.f T.divided.fd ["x", "y"] (spQQ K (fun x y => y ≠ 0 ∧ S4 x y) (· / ·)) := by
  refine T.divided.F.ok sc_divided (fun vs H Q E h => ?_) (fun cdv A outer s H vs Q E hr h => ?_)
  · obtain ⟨_, _, _, _, rfl, _⟩ := h; rfl
  · obtain ⟨v, w, x, y, rfl, hx, hy, ⟨y0, sx, sy⟩, q⟩ := h
    refine ⟨_, PSs.nox (pss_one (ps_ret (pcall T.fraction (ok_fraction T) hr (pa_cons (pe_op op_mulW (pe_ix ix_tup (pv 0) pe_int (fun _ _ => rfl)) (pe_ix ix_tup (pv 1) pe_int (fun _ _ => rfl)))
      (pa_cons (pe_op op_mulW (pe_ix ix_tup (pv 0) pe_int (fun _ _ => rfl)) (pe_ix ix_tup (pv 1) pe_int (fun _ _ => rfl))) pa_nil))))), ?_⟩
    refine sret_call (va2 (vmul (vnum rfl hx) (vden rfl hy) (mulS sx.n sy.d)) (vmul (vden rfl hx) (vnum rfl hy) (mulS sx.d sy.n))) ?_
    have hn : (x.den : Int) * y.num ≠ 0 := by
      have h1 := x.den_pos
      exact Int.mul_ne_zero (by omega) fun z => y0 (Rat.num_eq_zero.mp z)
    exact ⟨_, _, rfl, hn, dmul_lt sx.d sy.n, fun u H' s hu => q u H' s (by show iQ K H' u (x / y); rw [div_divInt x y y0]; exact hu)⟩
def spIsLess (K : PySem.W.Frag) : Sp := fun vs H Q _ => ∃ v w x y, vs = [v, w] ∧ iQ K H v x ∧ iQ K H w y ∧ S4 x y ∧ Q (.bl (decide (x < y))) H
theorem sc_is_less : FnScope ["x", "y"] ["x", "y"] (defScope s_is_less) := ⟨rfl, rfl, rfl, by decide +kernel, rfl, by decide +kernel, by decide +kernel⟩
theorem ok_is_less (T : Txt K mg) : FnOk P w K mg base CX0 1 T.is_less.f T.is_less.fd ["x", "y"] (spIsLess K) := by
  refine T.is_less.F.ok sc_is_less (fun vs H Q E h => ?_) (fun cdv A outer s H vs Q E hr h => ?_)
  · obtain ⟨_, _, _, _, rfl, _⟩ := h; rfl
  · obtain ⟨v, w, x, y, rfl, hx, hy, ⟨sx, sy⟩, q⟩ := h
    refine ⟨_, PSs.nox (pss_one (ps_ret (pe_cmpR op_lt (pe_op op_mulW (pe_ix ix_tup (pv 0) pe_int (fun _ _ => rfl)) (pe_ix ix_tup (pv 1) pe_int (fun _ _ => rfl))) (pe_op op_mulW (pe_ix ix_tup (pv 1) pe_int (fun _ _ => rfl)) (pe_ix ix_tup (pv 0) pe_int (fun _ _ => rfl))) (nomark _)))), ?_⟩
    refine st_ret (vcmp (vmul (vnum rfl hx) (vden rfl hy) (mulS sx.n sy.d)) (vmul (vnum rfl hy) (vden rfl hx) (mulS sy.n sx.d))) ?_
    have e : decide (x.num * (y.den : Int) < y.num * (x.den : Int)) = decide (x < y) := decide_eq_decide.mpr (Rat.lt_iff x y).symm
    rw [e]
    exact q
/-- a list's sum -/
def spSummed (K : PySem.W.Frag) : Sp := fun vs H Q _ => ∃ v xs b, vs = [v] ∧ iL K (iQ K) H v xs ∧ (∀ x ∈ xs, Sz b x) ∧ 1 + xs.length * (b + 1) + b ≤ 4000 ∧ ∀ u H', Same H H' → iQ K H' u (sumQ xs) → Q u H'
theorem q0 (T : Txt K mg) (H : Hp) : iQ K H (.ref T.aZERO) 0 := ⟨_, rfl, T.tZERO H⟩
theorem q1 (T : Txt K mg) (H : Hp) : iQ K H (.ref T.aONE) 1 := ⟨_, rfl, T.tONE H⟩
theorem qG (T : Txt K mg) (H : Hp) : iQ K H (.ref T.aGAIN) (-1) := ⟨_, rfl, T.tGAIN H⟩
theorem sc_summed : FnScope ["fractions", "found", "one"] ["fractions"] (defScope s_summed) := ⟨rfl, rfl, rfl, by decide +kernel, rfl, by decide +kernel, by decide +kernel⟩
theorem ok_summed (T : Txt K mg) : FnOk P w K mg base CX0 3 T.summed.f T.summed.fd ["fractions"] (spSummed K) := by
  refine T.summed.F.ok sc_summed (fun vs H Q E h => ?_) (fun cdv A outer s H vs Q E hr h => ?_)
  · obtain ⟨_, _, _, rfl, _⟩ := h; rfl
  · obtain ⟨v, xs, b, rfl, hv, hb, hl, q⟩ := h
    refine ⟨_, PSs.nox (pss_cons (ps_set (i := 1) sc_summed.nd rfl (.inl rfl) (pgl T.gZERO))
      (pss_cons (ps_for PassesOwn.never rfl (pi_list (pv 0)) (pg_name (i := 2) sc_summed.nd rfl (.inl rfl)) (pss_one (ps_set (i := 1) sc_summed.nd rfl (.inl rfl) (pcall T.plus (ok_plus T) hr (pa_cons (pv 1) (pa_cons (pv 2) pa_nil))))))
      (pss_one (ps_ret (pv 1))))), ?_⟩
    refine st_seq (st_set val_c (st_seq ?_))
    refine st_for (fun i σ H' => ∃ u z, σ = [some v, some u, z] ∧ iQ K H' u (sumQ (xs.take i))) (ws_list mQ (vsv (val_var rfl) hv)) (fun H1 s1 => ⟨_, none, rfl, q0 T H1⟩) ?_ ?_
    · rintro i x vx σ1 H1 H2 N hx ⟨u, z, rfl, hu⟩ s1 s2 hr2 hN
      have hxm := hb x (List.mem_of_getElem? hx)
      have hs := sz_sumQ (b := b) (xs := xs.take i) rfl fun y hy => hb y (List.mem_of_mem_take hy)
      have hlt : (xs.take i).length ≤ xs.length := by rw [List.length_take]; omega
      have hle := Nat.mul_le_mul_right (b + 1) hlt
      refine st_set' (vs_call (R := fun y H4 => iQ K H4 y (sumQ (xs.take (i + 1)))) (va2 (val_var rfl) (val_var rfl)) fun Q' k => ⟨_, _, _, _, rfl, mQ.to s2 hu, hr2, ⟨hs.mono (by omega), hxm.mono (by omega)⟩, fun y H4 s4 hy => k y H4 s4 ?_⟩) fun y H4 s4 hy => hN _ _ s4 ⟨y, _, rfl, hy⟩
      rw [sumQ_take hx]; exact hy
    · rintro σ1 H1 s1 ⟨u, z, rfl, hu⟩
      rw [List.take_length] at hu
      exact st_ret (val_var rfl) (q u H1 s1 hu)
end
end K19
namespace K19
open PySem PySem.Spec L2
section
variable {K : PySem.W.Frag} {σ : L2.St} {H : Hp} {α β γ : Type} {R : Rp α} {S : Rp β} {Z : Rp γ} {t u : TT} {ta tb : TE} {b b1 b2 : Bool}
/-! ### tests, the heap growing -/
def AS (t : TT) (σ : L2.St) (H : Hp) (b : Bool) : Prop := ∀ Q : Bool → Hp → Prop, (∀ H', Same H H' → Q b H') → t σ H Q
theorem as_of (h : Ans t σ H b) : AS t σ H b := fun Q k => h _ (k _ (Same.refl _))
theorem as_not (h : AS t σ H b) : AS (tNot t) σ H (!b) := fun Q k => h _ fun H' s => k H' s
theorem as_or (h : AS t σ H b1) (g : b1 = false → ∀ H', Same H H' → AS u σ H' b2) : AS (tOr t u) σ H (b1 || b2) := fun Q k => h _ fun H' s => by
  cases b1
  · exact iteF (g rfl H' s _ fun H2 s2 => k H2 (s.trans s2))
  · exact iteT (k H' s)
theorem as_and (h : AS t σ H b1) (g : b1 = true → ∀ H', Same H H' → AS u σ H' b2) : AS (tAnd t u) σ H (b1 && b2) := fun Q k => h _ fun H' s => by
  cases b1
  · exact iteF (k H' s)
  · exact iteT (g rfl H' s _ fun H2 s2 => k H2 (s.trans s2))
theorem as_val (h : VS ta σ H (fun v _ => v = .bl b)) : AS (tB ta) σ H b := fun Q k => h _ fun v H' s e => ⟨b, e, k H' s⟩
theorem as_test (h : VS ta σ H (fun v _ => v = .bl b)) : AS (tTest ta) σ H b := fun Q k => h _ fun v H' s e => ⟨b, e, k H' s⟩
theorem AS.to {b' : Bool} (h : AS t σ H b) (e : b = b') : AS t σ H b' := e ▸ h
theorem st_if' {c : TT} {t1 t2 : TS} {D : Ends} (h : AS c σ H b) (g : ∀ H', Same H H' → if b = true then t1 D σ H' else t2 D σ H') : tIfS c t1 t2 D σ H := h _ g
theorem st_no' {c : TT} {t1 t2 : TS} {D : Ends} (h : AS c σ H false) (g : ∀ H', Same H H' → t2 D σ H') : tIfS c t1 t2 D σ H := h _ fun H' s => iteF (g H' s)
theorem st_yes' {c : TT} {t1 t2 : TS} {D : Ends} (h : AS c σ H true) (g : ∀ H', Same H H' → t1 D σ H') : tIfS c t1 t2 D σ H := h _ fun H' s => iteT (g H' s)
/-! ### values of tests -/
theorem vs_and (h : VS ta σ H (fun v _ => v = .bl b1)) (g : b1 = true → ∀ H', Same H H' → VS tb σ H' (fun v _ => v = .bl b2)) : VS (tAndV ta tb) σ H (fun v _ => v = .bl (b1 && b2)) := fun Q k => h _ fun v H' s e => ⟨b1, e, by
  cases b1
  · exact iteF (k _ H' s rfl)
  · exact iteT (g rfl H' s _ fun v2 H2 s2 e2 => k v2 H2 (s.trans s2) e2)⟩
theorem vs_or (h : VS ta σ H (fun v _ => v = .bl b1)) (g : b1 = false → ∀ H', Same H H' → VS tb σ H' (fun v _ => v = .bl b2)) : VS (tOrV ta tb) σ H (fun v _ => v = .bl (b1 || b2)) := fun Q k => h _ fun v H' s e => ⟨b1, e, by
  cases b1
  · exact iteF (g rfl H' s _ fun v2 H2 s2 e2 => k v2 H2 (s.trans s2) e2)
  · exact iteT (k _ H' s rfl)⟩
theorem vs_not (h : VS ta σ H (fun v _ => v = .bl b)) : VS (tNotV ta) σ H (fun v _ => v = .bl (!b)) := fun Q k => h _ fun v H' s e => ⟨b, e, k _ H' s rfl⟩
theorem vs_if {c : TT} {A : V → Hp → Prop} (h : AS c σ H b) (g1 : b = true → ∀ H', Same H H' → VS ta σ H' A) (g2 : b = false → ∀ H', Same H H' → VS tb σ H' A) : VS (tIf c ta tb) σ H A := fun Q k => h _ fun H' s => by
  cases b
  · exact iteF (g2 rfl H' s _ fun v2 H2 s2 e2 => k v2 H2 (s.trans s2) e2)
  · exact iteT (g1 rfl H' s _ fun v2 H2 s2 e2 => k v2 H2 (s.trans s2) e2)
theorem v_isi {t : TA} {v : V} {n m : String} (h : ValA t σ H [v, .ty m]) (ty : TyX K H v (.type n)) (e : PySem.W.kitOne K (.type n) (.type m) = some b) : Val (tCB (rIsi K) t) σ H (.bl b) := fun Q k => h _ ⟨v, .ty m, _, _, b, rfl, .ty _, ty, e, k⟩
theorem v_eq {x y : V} (h : Val ta σ H x) (g : Val tb σ H y) (hs : scal x y = true) : Val (tOp rEq ta tb) σ H (.bl (decide (x = y))) := fun Q k => h _ (g _ ⟨hs, k⟩)
theorem v_ne {x y : V} (h : Val ta σ H x) (g : Val tb σ H y) (hs : scal x y = true) : Val (tOp rNe ta tb) σ H (.bl (!decide (x = y))) := fun Q k => h _ (g _ ⟨hs, k⟩)
theorem v_gcd {t : TA} {a b : Int} (h : ValA t σ H [.int a, .int b]) : Val (tCB rGcd t) σ H (.int ((Nat.gcd a.natAbs b.natAbs : Nat) : Int)) := fun Q k => h _ ⟨a, b, rfl, k⟩
/-- the two numbers of a fraction, as a pair, as a list -/
theorem q_pair {v : V} {q : Rat} (h : iQ K H v q) : iP K iI iI H v (q.num, (q.den : Int)) := by
  obtain ⟨a, rfl, h⟩ := h
  exact ⟨a, _, _, rfl, h, rfl, rfl⟩
theorem q_list {v : V} {q : Rat} (h : iQ K H v q) : iT K iI H v [q.num, (q.den : Int)] := by
  obtain ⟨a, rfl, h⟩ := h
  exact ⟨a, _, rfl, h, .cons rfl (.cons rfl .nil)⟩
theorem paired_map {f : α → β} (h : ∀ {v : V} {x : α}, R H v x → S H v (f x)) : ∀ {vs : List V} {xs : List α}, Paired (R H) vs xs → Paired (S H) vs (xs.map f)
  | _, _, .nil => .nil
  | _, _, .cons r t => .cons (h r) (paired_map h t)
theorem iT_map {f : α → β} (h : ∀ {v : V} {x : α}, R H v x → S H v (f x)) {v : V} {xs : List α} (q : iT K R H v xs) : iT K S H v (xs.map f) := let ⟨a, vs, e, s, p⟩ := q; ⟨a, vs, e, s, paired_map h p⟩
theorem iL_map {f : α → β} (h : ∀ {v : V} {x : α}, R H v x → S H v (f x)) {v : V} {xs : List α} (q : iL K R H v xs) : iL K S H v (xs.map f) := let ⟨a, vs, e, s, p⟩ := q; ⟨a, vs, e, s, paired_map h p⟩
end
theorem u65 {A : Around} {k : Nat} (hr : Room k A) : A.units + 65 < cLine := by have := hr.un; omega
section
variable {X : Cx} {n q : Str} {st : Stmt} {ps : List Str} {k : Nat} {sp : Sp} {o e : Expr} {es : List Expr} {apos pos : Pos} {t : TA} {ta : TE} {C : Addr}
/-- a call of a method of the text -/
theorem pmeth {pl : Sem Bool} (D : Met0 X.K C n q st ps) (c : Cls X.K C) (G : FnOk X.prog X.w X.K X.mg X.base CX0 k D.f D.fd ps sp) (hr : Room k X.A) (ho : PE X o ta) (ha : PA X (e :: es) t)
    (hst : starEach (e :: es) X.env = (false, eval e X.env) :: starEach es X.env := by rfl) (hpl : (backTo pos (starEach es X.env)).any (·.1) = false := by rfl)
    (ht : eval (.Call (.Attribute o n apos) (e :: es) [] pos) X.env = (do
      let ov ← eval o X.env
      standAt apos.atName
      let (f, first) ← holding [ov] (getMethod ov n pl)
      callWith pos f first (backTo pos (starEach (e :: es) X.env)) (backToKw pos (keywordEach [] X.env))) := by rfl) :
    PE X (.Call (.Attribute o n apos) (e :: es) [] pos) (tMeth C n sp [] E0 ta t) := pe_meth ho c D.m G hr D.b .nil pass0 ha hst hpl ht
theorem pmeth0 {pl : Sem Bool} (D : Met0 X.K C n q st ps) (c : Cls X.K C) (G : FnOk X.prog X.w X.K X.mg X.base CX0 k D.f D.fd ps sp) (hr : Room k X.A) (ho : PE X o ta)
    (ht : eval (.Call (.Attribute o n apos) [] [] pos) X.env = (do
      let ov ← eval o X.env
      standAt apos.atName
      let (f, first) ← holding [ov] (getMethod ov n pl)
      callWith pos f first (backTo pos (starEach [] X.env)) (backToKw pos (keywordEach [] X.env))) := by rfl) :
    PE X (.Call (.Attribute o n apos) [] [] pos) (tMeth C n sp [] E0 ta tNil) := pe_meth0 ho c D.m G hr D.b .nil pass0 ht
end
theorem sizeLine_ge {n : Nat} (h : n ≤ 1000) : n ≤ sizeLine := Nat.le_of_lt (small1000 h)
section
variable {P : Program} {w : World} {K : PySem.W.Frag} {mg : Str → Option Value} {base : Heap}
def spIsFraction (K : PySem.W.Frag) : Sp := fun vs H Q _ => ∃ v q, vs = [v] ∧ iQ K H v q ∧ ∀ H', Same H H' → Q (.bl true) H'
theorem sc_is_fraction : FnScope ["value", "one"] ["value"] (defScope s_is_fraction) := ⟨rfl, rfl, rfl, by decide +kernel, rfl, by decide +kernel, by decide +kernel⟩
theorem ok_is_fraction (T : Txt K mg) : FnOk P w K mg base CX0 2 T.is_fraction.f T.is_fraction.fd ["value"] (spIsFraction K) := by
  refine T.is_fraction.F.ok sc_is_fraction (fun vs H Q E h => ?_) (fun cdv A outer s H vs Q E hr h => ?_)
  · obtain ⟨_, _, rfl, _⟩ := h; rfl
  · obtain ⟨v, x, rfl, hv, q⟩ := h
    refine ⟨_, (PSs.nox (pss_cons (ps_if (PW.pt (pw_or (pt_not (pt_val (pe_callB (k_isi K) rfl T.b_isinstance (by decide +kernel) (pa_cons (pv 0) (pa_cons (pe_bltn rfl T.b_tuple (by decide +kernel) (show RelV (.ty "tuple") _ from rfl)) pa_nil))))) (pw_or (pt_cmpR op_ne (pe_callB (k_len K) rfl T.b_len (by decide +kernel) (pa_cons (pv 0) pa_nil)) pe_int (nomark _)) (pw_or1 (pt_not (pt_val (pe_callB (k_all K rfl) rfl T.b_all (by decide +kernel) (pa_cons (pe_lc (own := [("one", 1)]) (g := (gName 1)) (tt := tYes) rfl sc_is_fraction.nd (pi_tupK K (pv 0)) (blkOk_by (N := ["value", "one"]) (sc := defScope s_is_fraction) (by decide +kernel)) (fun _ _ _ _ _ => (pg_name (i := 1) sc_is_fraction.nd rfl (.inl rfl))) (fun _ _ _ _ _ => pts_nil) (fun _ _ _ _ _ => (pcall T.is_number (ok_is_number T) (hr.mono (by decide)) (pa_cons (pv 1) pa_nil)))) pa_nil)))))))) (pss_one (ps_ret pe_bl)) pss_nil) (pss_one (ps_ret (pe_and (pe_cmpR op_gt (pe_ix (ix_tupK K) (pv 0) pe_int (fun _ _ => rfl)) pe_int (nomark _)) (pe_one (pe_cmpR op_eq (pe_callBfun cr_gcd rfl T.gcd (pa_cons (pe_ix (ix_tupK K) (pv 0) pe_int (fun _ _ => rfl)) (pa_cons (pe_ix (ix_tupK K) (pv 0) pe_int (fun _ _ => rfl)) pa_nil))) pe_int (nomark _)))))))), ?_⟩
    refine st_seq (st_no' ?_ fun H1 s1 => st_next ?_)
    · obtain ⟨a, e, hq⟩ := id hv
      subst e
      refine as_or (b1 := false) (b2 := false) (as_not (b := true) (as_val (vsv (v_isi (b := true) (va2 (val_var rfl) val_c) (tyTup hq) (kit_ty (by decide +kernel))) rfl))) fun _ H2 s2 => ?_
      refine as_or (b1 := false) (b2 := false) (as_test (vsv (v_ne (v_len (k1 := true) (R := iI) (val_var rfl) (q_list (mQ.to s2 hv))) val_c rfl) rfl)) fun _ H3 s3 => as_not (b := true) (as_val ?_)
      exact vs_all (bs := [true, true]) (vs_lcN (xs := [x.num, (x.den : Int)]) robB mB (fun _ => true) (ws_tup mI (vsv (val_var rfl) (q_list (mQ.to (s2.trans s3) hv)))) (sizeLine_ge (by show 2 ≤ 1000; decide)) (fun _ => rfl) fun n vn H4 hm s4 hn => VS.el (vsv (v_isnum (n := n) (va1 (by rw [show vn = V.int n from hn]; exact val_var rfl))) rfl))
    · have hv1 := mQ.to s1 hv
      refine st_ret' (vs_and (b1 := true) (b2 := true) (vsv (vcmp (f := fun i j => decide (j < i)) (vden rfl hv1) val_c) ?_) fun _ H2 s2 => vsv (v_eq (v_gcd (va2 (vnum rfl (mQ.to s2 hv1)) (vden rfl (mQ.to s2 hv1)))) val_c rfl) ?_) fun u H2 s2 e => ?_
      · have := x.den_pos
        show V.bl (decide ((0 : Int) < (x.den : Int))) = V.bl true
        rw [decide_eq_true (by omega)]
      · have e : Nat.gcd x.num.natAbs ((x.den : Int)).natAbs = 1 := by rw [Int.natAbs_natCast]; exact x.reduced
        rw [e]; rfl
      · subst e
        exact q H2 (s1.trans s2)
/-- the least number with all these divisors -/
def spCommonOf (K : PySem.W.Frag) : Sp := fun vs H Q _ => ∃ v ns b, vs = [v] ∧ iL K iI H v ns ∧ (∀ n ∈ ns, 0 < n ∧ Bd b n) ∧ 1 + ns.length * b + b ≤ 4000 ∧ ∀ H', Same H H' → Q (.int (lcmL ns)) H'
theorem sc_common_of : FnScope ["numbers", "found", "n"] ["numbers"] (defScope s_common_of) := ⟨rfl, rfl, rfl, by decide +kernel, rfl, by decide +kernel, by decide +kernel⟩
theorem ok_common_of (T : Txt K mg) : FnOk P w K mg base CX0 1 T.common_of.f T.common_of.fd ["numbers"] (spCommonOf K) := by
  refine T.common_of.F.ok sc_common_of (fun vs H Q E h => ?_) (fun cdv A outer s H vs Q E hr h => ?_)
  · obtain ⟨_, _, _, rfl, _⟩ := h; rfl
  · obtain ⟨v, ns, b, rfl, hv, hb, hl, q⟩ := h
    refine ⟨_, (PSs.nox (pss_cons (ps_set (i := 1) sc_common_of.nd rfl (.inl rfl) pe_int) (pss_cons (ps_for PassesOwn.never rfl (pi_listK K (pv 0)) (pg_name (i := 2) sc_common_of.nd rfl (.inl rfl)) (pss_one (ps_set (i := 1) sc_common_of.nd rfl (.inl rfl) (pe_op op_mulW (pv 1) (pe_op op_fdivW (pv 2) (pe_callBfun cr_gcd rfl T.gcd (pa_cons (pv 1) (pa_cons (pv 2) pa_nil)))))))) (pss_one (ps_ret (pv 1)))))), ?_⟩
    refine st_seq (st_set val_c (st_seq ?_))
    refine st_for (fun i σ H' => ∃ z, σ = [some v, some (.int (lcmL (ns.take i))), z]) (ws_list mI (vsv (val_var rfl) hv)) (fun H1 s1 => ⟨none, rfl⟩) ?_ ?_
    · rintro i x vx σ1 H1 H2 N hx ⟨z, rfl⟩ s1 s2 hr2 hN
      obtain ⟨xp, xb⟩ := hb x (List.mem_of_getElem? hx)
      have ha := bd_lcmL (b := b) (ns := ns.take i) rfl fun y hy => (hb y (List.mem_of_mem_take hy)).2
      have hlt : (ns.take i).length ≤ ns.length := by rw [List.length_take]; omega
      have hle := Nat.mul_le_mul_right b hlt
      have evx : vx = V.int x := hr2
      subst evx
      have hg : 0 < Nat.gcd (lcmL (ns.take i)).natAbs x.natAbs := Nat.gcd_pos_of_pos_right _ (by omega)
      have hgb : Bd b ((Nat.gcd (lcmL (ns.take i)).natAbs x.natAbs : Nat) : Int) := by
        unfold Bd at xb ⊢
        rw [Int.natAbs_natCast]
        exact Nat.lt_of_le_of_lt (Nat.gcd_le_right _ (by omega)) xb
      have hb0 : 0 < b := by
        cases b with
        | zero => unfold Bd at xb; omega
        | succ b => omega
      refine st_set (v := .int (lcmL (ns.take (i + 1)))) ?_ (hN _ _ (Same.refl _) ⟨_, rfl⟩)
      rw [lcmL_take hx]
      exact vmul (val_var rfl) (vdiv (val_var rfl) (v_gcd (va2 (val_var rfl) (val_var rfl))) (wide_div (by omega) hgb hb0 (by omega))) (wide_mul ha (bd_div xb) (by omega) hb0 (by omega))
    · rintro σ1 H1 s1 ⟨z, rfl⟩
      rw [List.take_length]
      exact st_ret (val_var rfl) (q H1 s1)
/-- a row times -1 -/
def spBack (K : PySem.W.Frag) : Sp := fun vs H Q _ => ∃ v xs, vs = [v] ∧ iRow K H v xs ∧ xs.length ≤ 1000 ∧ ∀ u H', Same H H' → iRow K H' u (xs.map fun x => - x) → Q u H'
theorem sc_back : FnScope ["row", "n", "d"] ["row"] (defScope s_back) := ⟨rfl, rfl, rfl, by decide +kernel, rfl, by decide +kernel, by decide +kernel⟩
theorem ok_back (T : Txt K mg) : FnOk P w K mg base CX0 1 T.back.f T.back.fd ["row"] (spBack K) := by
  refine T.back.F.ok sc_back (fun vs H Q E h => ?_) (fun cdv A outer s H vs Q E hr h => ?_)
  · obtain ⟨_, _, rfl, _⟩ := h; rfl
  · obtain ⟨v, xs, rfl, hv, hl, q⟩ := h
    refine ⟨_, (PSs.nox (pss_one (ps_ret (pe_callTy (k_tuple K) rfl T.b_tuple (by decide +kernel) (pa_cons (pe_lc (own := [("n", 1), ("d", 2)]) (g := (gTup K 2 (gCons (gName 1) (gCons (gName 2) gNil)))) (tt := tYes) rfl sc_back.nd (pi_tupK K (pv 0)) (blkOk_by (N := ["row", "n", "d"]) (sc := defScope s_back) (by decide +kernel)) (fun _ _ _ _ _ => (pg_tup rfl (pgs_cons (pg_name (i := 1) sc_back.nd rfl (.inl rfl)) (pgs_cons (pg_name (i := 2) sc_back.nd rfl (.inl rfl)) pgs_nil)))) (fun _ _ _ _ _ => pts_nil) (fun _ _ _ _ _ => (pe_tup (pa_cons (pe_un un_neg (pv 1)) (pa_cons (pv 2) pa_nil))))) pa_nil))))), ?_⟩
    refine st_ret' (vs_tuple (Z := iQ K) (zs := (xs.map fun x => (x.num, (x.den : Int))).map fun p => - Rat.divInt p.1 p.2) mQ (vs_lcP (R := iI) (S := iI) robQ mQ _ (ws_tup (mP mI mI) (vsv (val_var rfl) (iT_map (fun h => q_pair h) hv))) (by rw [List.length_map]; exact sizeLine_ge hl) (fun _ _ => rfl) fun n d vn vd H1 hm s1 hn hd => VS.el ?_)) fun u H1 s1 hu => q u H1 s1 ?_
    · obtain ⟨x, hx, e⟩ := List.mem_map.mp hm
      cases e
      have evn : vn = V.int x.num := hn
      have evd : vd = V.int (x.den : Int) := hd
      subst evn evd
      intro Q' k
      refine ⟨_, rfl, _, rfl, _, rfl, (by show 2 ≤ sizeLine; decide), fun p hp => k _ _ (same_new hp) ?_⟩
      rw [Rat.num_divInt_den]
      exact newQ rfl rfl
    · rw [List.map_map] at hu
      have e : (xs.map ((fun p : Int × Int => - Rat.divInt p.1 p.2) ∘ fun x => (x.num, (x.den : Int)))) = xs.map fun x => - x := List.map_congr_left fun x hx => by
        show - Rat.divInt x.num x.den = - x
        rw [Rat.num_divInt_den]
      rw [e] at hu
      exact hu
end
end K19
namespace K19
open PySem PySem.Spec L2
/-! ### sums as lists, as functions -/
theorem sumQ_sm : ∀ {n : Nat} {zs : List Rat}, zs.length = n → sumQ zs = Mx.sm n (Mx.vF zs)
  | 0, zs, hl => by
    have : zs = [] := List.eq_nil_of_length_eq_zero hl
    subst this; rfl
  | n + 1, zs, hl => by
    have hne : zs ≠ [] := fun e => by subst e; simp at hl
    have e := (List.dropLast_concat_getLast hne).symm
    generalize zs.dropLast = T at e
    generalize zs.getLast hne = l at e
    subst e
    have hT : T.length = n := by simpa using hl
    rw [sumQ_snoc, Mx.sm_succ, sumQ_sm hT]
    have e1 : Mx.vF (T ++ [l]) n = l := by rw [Mx.vF_append, if_neg (by omega), hT, Nat.sub_self]; rfl
    have e2 : Mx.sm n (Mx.vF (T ++ [l])) = Mx.sm n (Mx.vF T) := Mx.sm_congr fun i hi => by rw [Mx.vF_append, if_pos (by omega)]
    rw [e1, e2]
theorem vF_get {xs : List Rat} {i : Nat} {x : Rat} (h : xs[i]? = some x) : Mx.vF xs i = x := by unfold Mx.vF; rw [List.getD_eq_getElem?_getD, h]; rfl
theorem get_vF {xs : List Rat} {i : Nat} (h : i < xs.length) : xs[i]? = some (Mx.vF xs i) := by
  unfold Mx.vF; rw [List.getD_eq_getElem?_getD, List.getElem?_eq_getElem h]; rfl
theorem dot_sm {n : Nat} {xs ys : List Rat} (h1 : xs.length = n) (h2 : ys.length = n) : dotL xs ys = Mx.sm n (fun i => Mx.vF xs i * Mx.vF ys i) := by
  unfold dotL
  rw [sumQ_sm (n := n) (by rw [List.length_map, List.length_zip]; omega)]
  refine Mx.sm_congr fun i hi => ?_
  refine vF_get ?_
  have e : (xs.zip ys)[i]? = some (Mx.vF xs i, Mx.vF ys i) := List.getElem?_zip_eq_some.mpr ⟨get_vF (by omega), get_vF (by omega)⟩
  rw [List.getElem?_map, e]
  rfl
/-- the i-th numbers of the columns -/
def lvlOf (cols : List (List Rat)) (i : Nat) : List Rat := cols.map fun c => Mx.vF c i
theorem lvl_sm {cols : List (List Rat)} {xs : List Rat} {i : Nat} (h : xs.length = cols.length) : dotL (lvlOf cols i) xs = Mx.sm cols.length (fun j => Mx.colF cols j i * Mx.vF xs j) := by
  rw [dot_sm (n := cols.length) (by unfold lvlOf; rw [List.length_map]) h]
  refine Mx.sm_congr fun j hj => ?_
  have e : Mx.vF (lvlOf cols i) j = Mx.colF cols j i := by
    unfold lvlOf Mx.colF
    show (cols.map fun c => Mx.vF c i).getD j 0 = _
    rw [Mx.getD_map (e := []) hj]
  rw [e]
abbrev Small (b : Nat) (xs : List Rat) : Prop := ∀ x ∈ xs, Sz b x
theorem small_vF {b : Nat} {xs : List Rat} {i : Nat} (h : Small b xs) (hi : i < xs.length) : Sz b (Mx.vF xs i) := h _ (List.mem_of_getElem? (get_vF hi))
section
variable {P : Program} {w : World} {K : PySem.W.Frag} {mg : Str → Option Value} {base : Heap}
theorem vs_QQ {σ : L2.St} {H : Hp} {t : TA} {v u : V} {x y : Rat} {pre : Rat → Rat → Prop} {g : Rat → Rat → Rat} (h : ValA t σ H [v, u]) (hx : iQ K H v x) (hy : iQ K H u y) (hp : pre x y) : VS (tCall (spQQ K pre g) [] E0 t) σ H (fun r H' => iQ K H' r (g x y)) :=
  vs_call h fun Q k => ⟨_, _, _, _, rfl, hx, hy, hp, fun r H' s hr => k r H' s hr⟩
def spProduct (K : PySem.W.Frag) : Sp := fun vs H Q _ => ∃ v u xs ys a b, vs = [v, u] ∧ iRow K H v xs ∧ iRow K H u ys ∧ Small a xs ∧ Small b ys ∧ xs.length ≤ 1000 ∧ 1 + xs.length * (a + b + 1) + (a + b + 1) ≤ 4000 ∧ ∀ r H', Same H H' → iQ K H' r (dotL xs ys) → Q r H'
theorem sc_product : FnScope ["one", "other", "x", "y"] ["one", "other"] (defScope s_product) := ⟨rfl, rfl, rfl, by decide +kernel, rfl, by decide +kernel, by decide +kernel⟩
theorem ok_product (T : Txt K mg) : FnOk P w K mg base CX0 4 T.product.f T.product.fd ["one", "other"] (spProduct K) := by
  refine T.product.F.ok sc_product (fun vs H Q E h => ?_) (fun cdv A outer s H vs Q E hr h => ?_)
  · obtain ⟨_, _, _, _, _, _, rfl, _⟩ := h; rfl
  · obtain ⟨v, u, xs, ys, a, b, rfl, hx, hy, sx, sy, hl, hb, q⟩ := h
    refine ⟨_, (PSs.nox (pss_one (ps_ret (pcall T.summed (ok_summed T) (hr.mono (by decide)) (pa_cons (pe_lc (own := [("x", 2), ("y", 3)]) (g := (gTup K 2 (gCons (gName 2) (gCons (gName 3) gNil)))) (tt := tYes) rfl sc_product.nd (pi_zipK K true true rfl T.b_zip (pa_cons (pv 0) (pa_cons (pv 1) pa_nil))) (blkOk_by (N := ["one", "other", "x", "y"]) (sc := defScope s_product) (by decide +kernel)) (fun _ _ _ _ _ => (pg_tup rfl (pgs_cons (pg_name (i := 2) sc_product.nd rfl (.inl rfl)) (pgs_cons (pg_name (i := 3) sc_product.nd rfl (.inl rfl)) pgs_nil)))) (fun _ _ _ _ _ => pts_nil) (fun _ _ _ _ _ => (pcall T.times_of (ok_times_of T) (hr.mono (by decide)) (pa_cons (pv 2) (pa_cons (pv 3) pa_nil))))) pa_nil))))), ?_⟩
    refine st_ret' (vs_callS (R := fun r H' => iQ K H' r (dotL xs ys)) (vsa1 (vs_lcP (R := iQ K) (S := iQ K) (Z := iQ K) robQ mQ (fun p => p.1 * p.2) (ws_zip mQ mQ (k1 := true) (k2 := true) (va2 (val_var rfl) (val_var rfl)) hx hy) (by rw [List.length_zip]; exact sizeLine_ge (by omega)) (fun _ _ => rfl) fun x y vx vy H1 hm s1 h1 h2 => ?_)) ?_) fun r H' s hr => q r H' s hr
    · have m1 := List.of_mem_zip hm
      exact VS.el (vs_QQ (va2 (val_var rfl) (val_var rfl)) h1 h2 ⟨(sx x m1.1).mono (by omega), (sy y m1.2).mono (by omega)⟩)
    · rintro vs H1 s1 ⟨y, rfl, p, rfl, hp, hn⟩ Q' k
      refine ⟨_, _, a + b, rfl, hn.iL, fun z hz => ?_, ?_, fun r H' s hr => k r H' s hr⟩
      · obtain ⟨p, hp, rfl⟩ := List.mem_map.mp hz
        exact sz_mul (sx _ (List.of_mem_zip hp).1) (sy _ (List.of_mem_zip hp).2)
      · rw [List.length_map, List.length_zip]
        have := Nat.mul_le_mul_right (a + b + 1) (Nat.min_le_left xs.length ys.length)
        omega
def spLong (K : PySem.W.Frag) : Sp := fun vs H Q _ => ∃ v xs, vs = [v, .int (xs.length : Nat)] ∧ iRow K H v xs ∧ xs.length ≤ 1000 ∧ ∀ H', Same H H' → Q (.bl true) H'
theorem sc_is_long_row : FnScope ["value", "many", "one"] ["value", "many"] (defScope s_is_long_row) := ⟨rfl, rfl, rfl, by decide +kernel, rfl, by decide +kernel, by decide +kernel⟩
theorem ok_is_long_row (T : Txt K mg) : FnOk P w K mg base CX0 3 T.is_long_row.f T.is_long_row.fd ["value", "many"] (spLong K) := by
  refine T.is_long_row.F.ok sc_is_long_row (fun vs H Q E h => ?_) (fun cdv A outer s H vs Q E hr h => ?_)
  · obtain ⟨_, _, rfl, _⟩ := h; rfl
  · obtain ⟨v, xs, rfl, hv, hl, q⟩ := h
    refine ⟨_, (PSs.nox (pss_one (ps_ret (pe_and (pe_callB (k_isi K) rfl T.b_isinstance (by decide +kernel) (pa_cons (pv 0) (pa_cons (pe_bltn rfl T.b_tuple (by decide +kernel) (show RelV (.ty "tuple") _ from rfl)) pa_nil))) (pe_and (pe_cmpR op_eq (pe_callB (k_len K) rfl T.b_len (by decide +kernel) (pa_cons (pv 0) pa_nil)) (pv 1) (nomark _)) (pe_one (pe_callB (k_all K rfl) rfl T.b_all (by decide +kernel) (pa_cons (pe_lc (own := [("one", 2)]) (g := (gName 2)) (tt := tYes) rfl sc_is_long_row.nd (pi_tupK K (pv 0)) (blkOk_by (N := ["value", "many", "one"]) (sc := defScope s_is_long_row) (by decide +kernel)) (fun _ _ _ _ _ => (pg_name (i := 2) sc_is_long_row.nd rfl (.inl rfl))) (fun _ _ _ _ _ => pts_nil) (fun _ _ _ _ _ => (pcall T.is_fraction (ok_is_fraction T) (hr.mono (by decide)) (pa_cons (pv 2) pa_nil)))) pa_nil)))))))), ?_⟩
    have hty : TyX K H v (.type "tuple") := by
      obtain ⟨a, _, rfl, hq, _⟩ := id hv
      exact tyTup hq
    refine st_ret' (vs_and (b1 := true) (b2 := true) (vsv (v_isi (b := true) (va2 (val_var rfl) val_c) hty (kit_ty (by decide +kernel))) rfl) fun _ H2 s2 =>
      vs_and (b1 := true) (b2 := true) (vsv (v_eq (v_len (k1 := true) (R := iQ K) (val_var rfl) (mRow.to s2 hv)) (val_var rfl) rfl) (by show V.bl (decide _) = _; rw [decide_eq_true rfl])) fun _ H3 s3 => (vs_all (bs := xs.map fun _ => true) (vs_lcN (Z := iB) (R := iQ K) robB mB (fun _ => true) (ws_tup mQ (vsv (val_var rfl) (mRow.to (s2.trans s3) hv))) (sizeLine_ge hl) (fun _ => rfl) fun x vx H4 hm s4 hx =>
        VS.el (vs_call (va1 (val_var rfl)) fun Q' k => ⟨_, _, rfl, hx, fun H5 s5 => k _ _ s5 rfl⟩))).imp fun u H4 s4 e => ?_) fun u H2 s2 e => ?_
    · rw [e]
      congr 1
      simp [List.all_map]
    · rw [e]
      exact q H2 s2
/-- costs times amounts, added -/
def spCostOf (K : PySem.W.Frag) : Sp := fun vs H Q _ => ∃ v u xs ys a b, vs = [v, u] ∧ iL K (iQ K) H v xs ∧ iRow K H u ys ∧ Small a xs ∧ Small b ys ∧ 1 + xs.length * (a + b + 1) + (a + b + 1) ≤ 4000 ∧ ∀ r H', Same H H' → iQ K H' r (dotL xs ys) → Q r H'
theorem sc_cost_of : FnScope ["costs", "amounts", "found", "cost", "amount"] ["costs", "amounts"] (defScope s_cost_of) := ⟨rfl, rfl, rfl, by decide +kernel, rfl, by decide +kernel, by decide +kernel⟩
theorem ok_cost_of (T : Txt K mg) : FnOk P w K mg base CX0 3 T.cost_of.f T.cost_of.fd ["costs", "amounts"] (spCostOf K) := by
  refine T.cost_of.F.ok sc_cost_of (fun vs H Q E h => ?_) (fun cdv A outer s H vs Q E hr h => ?_)
  · obtain ⟨_, _, _, _, _, _, rfl, _⟩ := h; rfl
  · obtain ⟨v, u, xs, ys, a, b, rfl, hx, hy, sx, sy, hb, q⟩ := h
    refine ⟨_, (PSs.nox (pss_cons (ps_set (i := 2) sc_cost_of.nd rfl (.inl rfl) (pgl T.gZERO)) (pss_cons (ps_for PassesOwn.never rfl (pi_zipK K false true rfl T.b_zip (pa_cons (pv 0) (pa_cons (pv 1) pa_nil))) (pg_tup rfl (pgs_cons (pg_name (i := 3) sc_cost_of.nd rfl (.inl rfl)) (pgs_cons (pg_name (i := 4) sc_cost_of.nd rfl (.inl rfl)) pgs_nil))) (pss_one (ps_set (i := 2) sc_cost_of.nd rfl (.inl rfl) (pcall T.plus (ok_plus T) (hr.mono (by decide)) (pa_cons (pv 2) (pa_cons (pcall T.times_of (ok_times_of T) (hr.mono (by decide)) (pa_cons (pv 3) (pa_cons (pv 4) pa_nil))) pa_nil)))))) (pss_one (ps_ret (pv 2)))))), ?_⟩
    refine st_seq (st_set val_c (st_seq ?_))
    refine st_for (R := iP K (iQ K) (iQ K)) (xs := xs.zip ys) (fun i σ H' => ∃ r z1 z2, σ = [some v, some u, some r, z1, z2] ∧ iQ K H' r (sumQ (((xs.zip ys).map fun p => p.1 * p.2).take i))) (ws_zip mQ mQ (k1 := false) (k2 := true) (va2 (val_var rfl) (val_var rfl)) hx hy) (fun H1 s1 => ⟨_, none, none, rfl, q0 T H1⟩) ?_ ?_
    · rintro i p vp σ1 H1 H2 N hp ⟨r, z1, z2, rfl, hr1⟩ s1 s2 hp2 hN
      have hz : ((xs.zip ys).map fun p => p.1 * p.2)[i]? = some (p.1 * p.2) := by rw [List.getElem?_map, hp]; rfl
      have hm := List.of_mem_zip (List.mem_of_getElem? (show (xs.zip ys)[i]? = some (p.1, p.2) from hp))
      have ha := sx _ hm.1
      have hbb := sy _ hm.2
      have hs := sz_sumQ (b := a + b) (xs := ((xs.zip ys).map fun p => p.1 * p.2).take i) rfl fun z hz => by
        obtain ⟨p', hp', rfl⟩ := List.mem_map.mp (List.mem_of_mem_take hz)
        exact sz_mul (sx _ (List.of_mem_zip hp').1) (sy _ (List.of_mem_zip hp').2)
      have hlt : (((xs.zip ys).map fun p => p.1 * p.2).take i).length ≤ xs.length := by rw [List.length_take, List.length_map, List.length_zip]; omega
      have hle := Nat.mul_le_mul_right (a + b + 1) hlt
      refine g_pair hp2 fun vx vy hvx hvy => ?_
      refine st_set' (R := fun r H' => iQ K H' r (sumQ (((xs.zip ys).map fun p => p.1 * p.2).take (i + 1)))) (vs_callS (vsa2 (val_var rfl) (vs_QQ (va2 (val_var rfl) (val_var rfl)) hvx hvy ⟨ha.mono (by omega), hbb.mono (by omega)⟩)) ?_) fun r' H3 s3 hr' => hN _ _ s3 ⟨r', _, _, rfl, hr'⟩
      rintro vs H3 s3 ⟨y, rfl, hy3⟩ Q' k
      refine ⟨_, _, _, _, rfl, mQ.to (s2.trans s3) hr1, hy3, ⟨hs.mono (by omega), (sz_mul ha hbb).mono (by omega)⟩, fun r' H4 s4 h4 => k r' H4 s4 ?_⟩
      rw [sumQ_take hz]; exact h4
    · rintro σ1 H1 s1 ⟨r, z1, z2, rfl, hr1⟩
      have e : ((xs.zip ys).map fun p => p.1 * p.2).take (xs.zip ys).length = (xs.zip ys).map fun p => p.1 * p.2 := List.take_of_length_le (by rw [List.length_map]; exact Nat.le_refl _)
      rw [e] at hr1
      exact st_ret (val_var rfl) (q r H1 s1 hr1)
/-- no amount below 0 -/
def spFirstBelow (K : PySem.W.Frag) : Sp := fun vs H Q _ => ∃ v xs, vs = [v] ∧ iRow K H v xs ∧ xs.length ≤ 1000 ∧ (∀ x ∈ xs, 0 ≤ x) ∧ ∀ H', Same H H' → Q .non H'
theorem numd_mem {α : Type} {xs : List α} {p : Int × α} (h : p ∈ numd xs) : ∃ i : Nat, p.1 = (i : Int) ∧ xs[i]? = some p.2 := by
  obtain ⟨i, hi, e⟩ := List.getElem_of_mem h
  have h2 : (numd xs)[i]? = some p := by rw [List.getElem?_eq_getElem hi, e]
  have hl : i < xs.length := by rw [numd_len] at hi; exact hi
  have h3 := numd_get (xs := xs) (List.getElem?_eq_getElem hl)
  rw [h3] at h2
  have h4 := Option.some.inj h2
  exact ⟨i, by rw [← h4], by rw [← h4]; exact List.getElem?_eq_getElem hl⟩
theorem filter_none {α : Type} {p : α → Bool} {xs : List α} (h : ∀ x ∈ xs, p x = false) : xs.filter p = [] := List.filter_eq_nil_iff.mpr fun x hx => by rw [h x hx]; simp
/-- found != [] where it is -/
theorem as_neNil {σ : L2.St} {H : Hp} {ta : TE} {v : V} (h : Val ta σ H v) (hv : iL K iI H v []) : AS (tTest (tOp (rNeD K) ta (tLst tNil))) σ H false := fun Q k =>
  h _ ⟨by decide, fun p hp => r_neD (dat_L dat_I) (dat_L dat_I) (by decide) (by decide) (mL mI |>.to (same_new hp) hv) (show iL K iI (upd H p (.lst [])) (.ref p) [] from ⟨p, [], rfl, SqL.of upd_same, .nil⟩) ⟨false, rfl, k _ (same_new hp)⟩⟩
theorem sc_first_below : FnScope ["amounts", "found", "k", "x"] ["amounts"] (defScope s_first_below) := ⟨rfl, rfl, rfl, by decide +kernel, rfl, by decide +kernel, by decide +kernel⟩
theorem ok_first_below (T : Txt K mg) : FnOk P w K mg base CX0 1 T.first_below.f T.first_below.fd ["amounts"] (spFirstBelow K) := by
  refine T.first_below.F.ok sc_first_below (fun vs H Q E h => ?_) (fun cdv A outer s H vs Q E hr h => ?_)
  · obtain ⟨_, _, rfl, _⟩ := h; rfl
  · obtain ⟨v, xs, rfl, hv, hl, h0, q⟩ := h
    refine ⟨_, (PSs.nox (pss_cons (ps_setLc (i := 1) (own := [("k", 2), ("x", 3)]) (g := (gTup K 2 (gCons (gName 2) (gCons (gName 3) gNil)))) rfl sc_first_below.nd rfl rfl (sw_true rfl rfl rfl (by decide +kernel)) (pi_enumK K true rfl T.b_enumerate (pa_cons (pv 0) pa_nil)) (blkOk_by (N := ["amounts", "found", "k", "x"]) (sc := defScope s_first_below) (by decide +kernel)) (fun _ _ _ _ _ => (pg_tup rfl (pgs_cons (pg_name (i := 2) sc_first_below.nd rfl (.inl rfl)) (pgs_cons (pg_name (i := 3) sc_first_below.nd rfl (.inl rfl)) pgs_nil)))) (fun _ _ _ _ _ => pts_one (pt_cmpR op_lt (pe_ix (ix_tupK K) (pv 3) pe_int (fun _ _ => rfl)) pe_int (nomark _))) (fun _ _ _ _ _ => (pv 2))) (pss_one (ps_ret (pe_ifExp (pt_cmpR (op_neDK K hr.units) (pv 1) (pe_lst pa_nil) (nomark _)) (pe_ix (ix_listK K) (pv 1) pe_int (fun _ _ => rfl)) pe_non))))), ?_⟩
    refine st_seq (st_set' (vs_lcPF (R := iI) (S := iQ K) (Z := iI) (xs := numd xs) robI mI (fun p => p.1) (fun p => decide (p.2.num < 0)) (ws_enum mQ (k1 := true) (va1 (val_var rfl)) hv) (by rw [numd_len]; exact sizeLine_ge hl) (fun _ _ => rfl) (fun n x vn vx H1 hm s1 hn hx C k => ?_) (fun n x vn vx H1 hm s1 hn hx _ => VS.el (vsv (val_var rfl) hn)) mI mQ) fun u H1 s1 hu => ?_)
    · exact vnum rfl hx _ ⟨_, _, rfl, rfl, _, rfl, k _ (Same.refl _)⟩
    · obtain ⟨p, rfl, hp, hn⟩ := hu
      rw [filter_none fun p hp => decide_eq_false (by
        obtain ⟨i, _, hx⟩ := numd_mem hp
        have := Rat.num_nonneg.mpr (h0 _ (List.mem_of_getElem? hx))
        omega)] at hn
      refine st_ret' (vs_if (b := false) (A := fun v _ => v = .non) (as_neNil (val_var rfl) hn.iL) (fun e => absurd e (by decide)) fun _ H2 s2 => vsv val_c rfl) fun u H2 s2 e => ?_
      rw [e]; exact q H2 (s1.trans s2)
/-- the sum of columns times amounts, at a level -/
abbrev iCols (K : PySem.W.Frag) : Rp (List (List Rat)) := iL K (iRow K)
theorem mCols : Mon (iCols K) := mL mRow
def spSumAt (K : PySem.W.Frag) : Sp := fun vs H Q _ => ∃ v u cols xs i a b, vs = [v, u, .int ((i : Nat) : Int)] ∧ iCols K H v cols ∧ iRow K H u xs ∧ (∀ c ∈ cols, i < c.length ∧ Small a c) ∧ Small b xs ∧ 1 + cols.length * (a + b + 1) + (a + b + 1) ≤ 4000 ∧ ∀ r H', Same H H' → iQ K H' r (dotL (lvlOf cols i) xs) → Q r H'
theorem sc_sum_at : FnScope ["columns", "amounts", "i", "column"] ["columns", "amounts", "i"] (defScope s_sum_at) := ⟨rfl, rfl, rfl, by decide +kernel, rfl, by decide +kernel, by decide +kernel⟩
theorem ok_sum_at (T : Txt K mg) : FnOk P w K mg base CX0 4 T.sum_at.f T.sum_at.fd ["columns", "amounts", "i"] (spSumAt K) := by
  refine T.sum_at.F.ok sc_sum_at (fun vs H Q E h => ?_) (fun cdv A outer s H vs Q E hr h => ?_)
  · obtain ⟨_, _, _, _, _, _, _, rfl, _⟩ := h; rfl
  · obtain ⟨v, u, cols, xs, i, a, b, rfl, hc, hx, sc, sx, hb, q⟩ := h
    refine ⟨_, (PSs.nox (pss_one (ps_ret (pcall T.cost_of (ok_cost_of T) (hr.mono (by decide)) (pa_cons (pe_lc (own := [("column", 3)]) (g := (gName 3)) (tt := tYes) rfl sc_sum_at.nd (pi_listK K (pv 0)) (blkOk_by (N := ["columns", "amounts", "i", "column"]) (sc := defScope s_sum_at) (by decide +kernel)) (fun _ _ _ _ _ => (pg_name (i := 3) sc_sum_at.nd rfl (.inl rfl))) (fun _ _ _ _ _ => pts_nil) (fun _ _ _ _ _ => (pe_ix (ix_tupK K) (pv 3) (pv 2) (fun _ _ => rfl)))) (pa_cons (pv 1) pa_nil)))))), ?_⟩
    have hlen : cols.length ≤ 4000 := by
      have := Nat.le_mul_of_pos_right cols.length (show 0 < a + b + 1 by omega)
      omega
    refine st_ret' (vs_callS (R := fun r H' => iQ K H' r (dotL (lvlOf cols i) xs)) (A := fun vs H' => ∃ y, vs = [y, u] ∧ iL K (iQ K) H' y (lvlOf cols i) ∧ iRow K H' u xs) (fun Q' k => ?_) ?_) fun r H' s hr => q r H' s hr
    · refine vs_lcN (R := iRow K) (Z := iQ K) robQ mQ (fun c => Mx.vF c i) (ws_list mRow (vsv (val_var rfl) hc)) (Nat.le_trans hlen (by decide)) (fun _ => rfl) (fun c vc H1 hm s1 h1 => VS.el (vs_ixT (val_var rfl) (val_var rfl) h1 (get_vF (sc c hm).1))) _ fun y H1 s1 ⟨p, ep, hp, hn⟩ => ?_
      subst ep
      exact val_var (σ := [some v, some u, some (.int (i : Int)), none]) (i := 1) rfl _ (k _ _ s1 ⟨_, rfl, hn.iL, mRow.to s1 hx⟩)
    · rintro vs H1 s1 ⟨y, rfl, h1, h2⟩ Q' k
      refine ⟨_, _, _, _, a, b, rfl, h1, h2, fun z hz => ?_, sx, ?_, fun r H' s hr => k r H' s hr⟩
      · obtain ⟨c, hc, rfl⟩ := List.mem_map.mp hz
        exact small_vF (sc c hc).2 (sc c hc).1
      · unfold lvlOf; rw [List.length_map]; exact hb
/-- no level apart -/
def spFirstApart (K : PySem.W.Frag) : Sp := fun vs H Q _ => ∃ v u t cols xs ts a b, vs = [v, u, t] ∧ iCols K H v cols ∧ iRow K H u xs ∧ iRow K H t ts ∧ ts.length ≤ 1000 ∧ (∀ c ∈ cols, c.length = ts.length ∧ Small a c) ∧ Small b xs ∧ 1 + cols.length * (a + b + 1) + (a + b + 1) ≤ 4000 ∧
  (∀ i, i < ts.length → dotL (lvlOf cols i) xs = Mx.vF ts i) ∧ ∀ H', Same H H' → Q .non H'
theorem sc_first_apart : FnScope ["columns", "amounts", "target", "found", "i", "aim"] ["columns", "amounts", "target"] (defScope s_first_apart) := ⟨rfl, rfl, rfl, by decide +kernel, rfl, by decide +kernel, by decide +kernel⟩
theorem ok_first_apart (T : Txt K mg) : FnOk P w K mg base CX0 5 T.first_apart.f T.first_apart.fd ["columns", "amounts", "target"] (spFirstApart K) := by
  refine T.first_apart.F.ok sc_first_apart (fun vs H Q E h => ?_) (fun cdv A outer s H vs Q E hr h => ?_)
  · obtain ⟨_, _, _, _, _, _, _, _, rfl, _⟩ := h; rfl
  · obtain ⟨v, u, t, cols, xs, ts, a, b, rfl, hc, hx, ht, hl, sc, sx, hb, h0, q⟩ := h
    refine ⟨_, (PSs.nox (pss_cons (ps_setLc (i := 3) (own := [("i", 4), ("aim", 5)]) (g := (gTup K 2 (gCons (gName 4) (gCons (gName 5) gNil)))) rfl sc_first_apart.nd rfl rfl (sw_true rfl rfl rfl (by decide +kernel)) (pi_enumK K true rfl T.b_enumerate (pa_cons (pv 2) pa_nil)) (blkOk_by (N := ["columns", "amounts", "target", "found", "i", "aim"]) (sc := defScope s_first_apart) (by decide +kernel)) (fun _ _ _ _ _ => (pg_tup rfl (pgs_cons (pg_name (i := 4) sc_first_apart.nd rfl (.inl rfl)) (pgs_cons (pg_name (i := 5) sc_first_apart.nd rfl (.inl rfl)) pgs_nil)))) (fun _ _ _ _ _ => pts_one (pt_cmpR (op_neDK K hr.units) (pcall T.sum_at (ok_sum_at T) (hr.mono (by decide)) (pa_cons (pv 0) (pa_cons (pv 1) (pa_cons (pv 4) pa_nil)))) (pv 5) (nomark _))) (fun _ _ _ _ _ => (pv 4))) (pss_one (ps_ret (pe_ifExp (pt_cmpR (op_neDK K hr.units) (pv 3) (pe_lst pa_nil) (nomark _)) (pe_ix (ix_listK K) (pv 3) pe_int (fun _ _ => rfl)) pe_non))))), ?_⟩
    refine st_seq (st_set' (vs_lcPF (R := iI) (S := iQ K) (Z := iI) (xs := numd ts) robI mI (fun p => p.1) (fun _ => false) (ws_enum mQ (k1 := true) (va1 (val_var rfl)) ht) (by rw [numd_len]; exact sizeLine_ge hl) (fun _ _ => rfl) (fun n x vn vx H1 hm s1 hn hx1 C k => ?_) (fun n x vn vx H1 hm s1 hn hx _ => VS.el (vsv (val_var rfl) hn)) mI mQ) fun u H1 s1 hu => ?_)
    · obtain ⟨i, e1, e2⟩ := numd_mem hm
      have e1 : n = (i : Int) := e1
      have e2 : ts[i]? = some x := e2
      have evn : vn = V.int (i : Int) := by rw [← e1]; exact hn
      subst evn
      have hi : i < ts.length := (List.getElem?_eq_some_iff.mp e2).1
      refine vs_call (R := fun r H' => iQ K H' r x) (va_cons (val_var rfl) (va2 (val_var rfl) (val_var rfl))) (fun Q' k' => ⟨_, _, _, _, i, a, b, rfl, mCols.to s1 hc, mRow.to s1 hx, fun c hc => ⟨by rw [(sc c hc).1]; exact hi, (sc c hc).2⟩, sx, hb, fun r H' s hr => k' r H' s (by rw [h0 i hi, vF_get e2] at hr; exact hr)⟩) _ fun r H2 s2 hr2 => ?_
      refine ⟨_, rfl, r_neD dat_Q dat_Q (by decide) (by decide) hr2 (mQ.to s2 hx1) ⟨false, ?_, k _ s2⟩⟩
      rw [eqv_Q]; simp
    · obtain ⟨p, rfl, hp, hn⟩ := hu
      rw [filter_none fun _ _ => rfl] at hn
      refine st_ret' (vs_if (b := false) (A := fun v _ => v = .non) (as_neNil (val_var rfl) hn.iL) (fun e => absurd e (by decide)) fun _ H2 s2 => vsv val_c rfl) fun u H2 s2 e => ?_
      rw [e]; exact q H2 (s1.trans s2)
end
end K19
namespace K19
open PySem PySem.Spec L2
open Mx (LRes)
/-- a bound of sums of products -/
abbrev CB (n a b : Nat) : Prop := 1 + n * (a + b + 1) + (a + b + 1) ≤ 4000
theorem CB.sz {n a b : Nat} {xs ys : List Rat} (h : CB n a b) (hx : Small a xs) (hy : Small b ys) (hn : xs.length ≤ n) : Sz 4000 (dotL xs ys) := (sz_dotL hx hy hn).mono (by unfold CB at h; omega)
def iRes (K : PySem.W.Frag) : Rp LRes := fun H v r => match r with
  | .least x y => ∃ a vx vy, v = .ref a ∧ SqT K H a [.str "least", vx, vy] ∧ iRow K H vx x ∧ iRow K H vy y
  | .none s => ∃ a vs, v = .ref a ∧ SqT K H a [.str "none", vs] ∧ iRow K H vs s
  | .endless x z => ∃ a vx vz, v = .ref a ∧ SqT K H a [.str "endless", vx, vz] ∧ iRow K H vx x ∧ iRow K H vz z
def dRes : LRes → PyData
  | .least x y => .tuple [.str "least", dRow x, dRow y]
  | .none s => .tuple [.str "none", dRow s]
  | .endless x z => .tuple [.str "endless", dRow x, dRow z]
section
variable {P : Program} {w : World} {K : PySem.W.Frag} {mg : Str → Option Value} {base : Heap}
theorem mRes : Mon (iRes K) := ⟨fun {H H' v x} e h => by
  cases x with
  | least x y => obtain ⟨a, vx, vy, h1, h2, h3, h4⟩ := h; exact ⟨a, vx, vy, h1, sameT e h2, mRow.to e h3, mRow.to e h4⟩
  | none s => obtain ⟨a, vs, h1, h2, h3⟩ := h; exact ⟨a, vs, h1, sameT e h2, mRow.to e h3⟩
  | endless x y => obtain ⟨a, vx, vy, h1, h2, h3, h4⟩ := h; exact ⟨a, vx, vy, h1, sameT e h2, mRow.to e h3, mRow.to e h4⟩⟩
theorem dat_Res : Dat K (iRes K) dRes 3 where
  rd := fun {H v x} h => by
    cases x with
    | least x y => obtain ⟨a, vx, vy, rfl, h2, h3, h4⟩ := h; exact .tup h2 (.cons (.str _) (.cons (dat_Row.rd h3) (.cons (dat_Row.rd h4) .nil)))
    | none s => obtain ⟨a, vs, rfl, h2, h3⟩ := h; exact .tup h2 (.cons (.str _) (.cons (dat_Row.rd h3) .nil))
    | endless x y => obtain ⟨a, vx, vy, rfl, h2, h3, h4⟩ := h; exact .tup h2 (.cons (.str _) (.cons (dat_Row.rd h3) (.cons (dat_Row.rd h4) .nil)))
  lay := fun x => by cases x <;> simp [dRes, PyData.canLay0, PyData.canLayAll0, (dat_Row (K := K)).lay] <;> decide +kernel
  plain := fun x => by cases x <;> simp [dRes, PyData.plain, PyData.plainAll, (dat_Row (K := K)).plain]
  dep := fun x => by
    have h := (dat_Row (K := K)).dep
    cases x <;> simp only [dRes, PyData.depth, PyData.depthAll]
    · rename_i a b; have := h a; have := h b; omega
    · rename_i a; have := h a; omega
    · rename_i a b; have := h a; have := h b; omega
def spAmountsFault (K : PySem.W.Frag) : Sp := fun vs H Q _ => ∃ v u t cols xs ts a b, vs = [v, u, t] ∧ iCols K H v cols ∧ iRow K H u xs ∧ iRow K H t ts ∧ ts.length ≤ 1000 ∧ xs.length ≤ 1000 ∧ (∀ c ∈ cols, c.length = ts.length ∧ Small a c) ∧ Small b xs ∧ CB cols.length a b ∧
  (∀ x ∈ xs, 0 ≤ x) ∧ (∀ i, i < ts.length → dotL (lvlOf cols i) xs = Mx.vF ts i) ∧ ∀ H', Same H H' → Q .non H'
theorem sc_amounts_fault : FnScope ["columns", "amounts", "target", "k", "i"] ["columns", "amounts", "target"] (defScope s_amounts_fault) := ⟨rfl, rfl, rfl, by decide +kernel, rfl, by decide +kernel, by decide +kernel⟩
theorem ok_amounts_fault (T : Txt K mg) : FnOk P w K mg base CX0 6 T.amounts_fault.f T.amounts_fault.fd ["columns", "amounts", "target"] (spAmountsFault K) := by
  refine T.amounts_fault.F.ok sc_amounts_fault (fun vs H Q E h => ?_) (fun cdv A outer s H vs Q E hr h => ?_)
  · obtain ⟨_, _, _, _, _, _, _, _, rfl, _⟩ := h; rfl
  · obtain ⟨v, u, t, cols, xs, ts, a, b, rfl, hc, hx, ht, hl, hl2, sc, sx, hb, h0, he, q⟩ := h
    refine ⟨_, (PSs.nox (pss_cons (ps_set (i := 3) sc_amounts_fault.nd rfl (.inl rfl) (pcall T.first_below (ok_first_below T) (hr.mono (by decide)) (pa_cons (pv 1) pa_nil))) (pss_cons (ps_if (pt_cmpR op_notN (pv 3) pe_non (nomark _)) (pss_one (ps_ret (pe_tup (pa_cons pe_str (pa_cons (pv 3) pa_nil))))) pss_nil) (pss_cons (ps_set (i := 4) sc_amounts_fault.nd rfl (.inl rfl) (pcall T.first_apart (ok_first_apart T) (hr.mono (by decide)) (pa_cons (pv 0) (pa_cons (pv 1) (pa_cons (pv 2) pa_nil))))) (pss_one (ps_ret (pe_ifExp (pt_cmpR op_notN (pv 4) pe_non (nomark _)) (pe_tup (pa_cons pe_str (pa_cons (pv 4) pa_nil))) pe_non))))))), ?_⟩
    refine st_seq (st_set' (R := fun v _ => v = .non) (vs_call (va1 (val_var rfl)) fun Q' k => ⟨_, _, rfl, hx, hl2, h0, fun H' s => k _ _ s rfl⟩) fun r1 H1 s1 e1 => ?_)
    subst e1
    refine st_seq (st_no (ans_notN (val_var rfl) rfl) (st_next ?_))
    refine st_seq (st_set' (R := fun v _ => v = .non) (vs_call (va_cons (val_var rfl) (va2 (val_var rfl) (val_var rfl))) fun Q' k => ⟨_, _, _, _, _, _, a, b, rfl, mCols.to s1 hc, mRow.to s1 hx, mRow.to s1 ht, hl, sc, sx, hb, he, fun H' s => k _ _ s rfl⟩) fun r2 H2 s2 e2 => ?_)
    subst e2
    refine st_ret' (vs_if (b := false) (A := fun v _ => v = .non) (as_of (ans_notN (val_var rfl) rfl)) (fun e => absurd e (by decide)) fun _ H3 s3 => vsv val_c rfl) fun u H3 s3 e => ?_
    rw [e]; exact q H3 (s1.trans (s2.trans s3))
/-- prices that are right -/
def spPricesFault (K : PySem.W.Frag) : Sp := fun vs H Q _ => ∃ v1 v2 v3 v4 v5 cols cs ts xs ys a b, vs = [v1, v2, v3, v4, v5] ∧ iCols K H v1 cols ∧ iL K (iQ K) H v2 cs ∧ iRow K H v3 ts ∧ iRow K H v4 xs ∧ iRow K H v5 ys ∧
  ys.length ≤ 1000 ∧ cs.length = cols.length ∧ (∀ c ∈ cols, Small a c) ∧ Small a cs ∧ Small a ts ∧ Small b xs ∧ Small b ys ∧ CB cs.length a b ∧ CB ys.length b a ∧
  (∀ k c, cols[k]? = some c → dotL ys c ≤ Mx.vF cs k) ∧ dotL ys ts = dotL cs xs ∧ ∀ H', Same H H' → Q .non H'
theorem cb_pos {n a b : Nat} (h : CB n a b) : a ≤ 3999 ∧ b ≤ 3999 := by unfold CB at h; omega
theorem sc_prices_fault : FnScope ["columns", "costs", "target", "amounts", "prices", "k", "column"] ["columns", "costs", "target", "amounts", "prices"] (defScope s_prices_fault) := ⟨rfl, rfl, rfl, by decide +kernel, rfl, by decide +kernel, by decide +kernel⟩
theorem ok_prices_fault (T : Txt K mg) : FnOk P w K mg base CX0 5 T.prices_fault.f T.prices_fault.fd ["columns", "costs", "target", "amounts", "prices"] (spPricesFault K) := by
  refine T.prices_fault.F.ok sc_prices_fault (fun vs H Q E h => ?_) (fun cdv A outer s H vs Q E hr h => ?_)
  · obtain ⟨_, _, _, _, _, _, _, _, _, _, _, _, rfl, _⟩ := h; rfl
  · obtain ⟨v1, v2, v3, v4, v5, cols, cs, ts, xs, ys, a, b, rfl, h1, h2, h3, h4, h5, l5, l2, sc, s2, s3, s4, s5, b1, b2, hp, he, q⟩ := h
    refine ⟨_, (PSs.nox (pss_cons (ps_for PassesOwn.never rfl (pi_enumK K false rfl T.b_enumerate (pa_cons (pv 0) pa_nil)) (pg_tup rfl (pgs_cons (pg_name (i := 5) sc_prices_fault.nd rfl (.inl rfl)) (pgs_cons (pg_name (i := 6) sc_prices_fault.nd rfl (.inl rfl)) pgs_nil))) (pss_one (ps_if (pt_val (pcall T.is_less (ok_is_less T) (hr.mono (by decide)) (pa_cons (pe_ix (ix_listK K) (pv 1) (pv 5) (fun _ _ => rfl)) (pa_cons (pcall T.product (ok_product T) (hr.mono (by decide)) (pa_cons (pv 4) (pa_cons (pv 6) pa_nil))) pa_nil)))) (pss_one (ps_ret (pe_tup (pa_cons pe_str (pa_cons (pv 5) pa_nil))))) pss_nil))) (pss_one (ps_ret (pe_ifExp (pt_cmpR (op_eqDK K hr.units) (pcall T.product (ok_product T) (hr.mono (by decide)) (pa_cons (pv 4) (pa_cons (pv 2) pa_nil))) (pcall T.cost_of (ok_cost_of T) (hr.mono (by decide)) (pa_cons (pv 1) (pa_cons (pv 3) pa_nil))) (nomark _)) pe_non (pe_tup (pa_cons pe_str pa_nil))))))), ?_⟩
    refine st_seq (st_for (fun i σ H' => ∃ z1 z2, σ = [some v1, some v2, some v3, some v4, some v5, z1, z2]) (ws_enum mRow (k1 := false) (va1 (val_var rfl)) h1) (fun H1 s1 => ⟨none, none, rfl⟩) ?_ ?_)
    · rintro i p vp σ1 H1 H2 N hx ⟨z1, z2, rfl⟩ t1 t2 hp2 hN
      obtain ⟨i', e1, e2⟩ := numd_mem (List.mem_of_getElem? hx)
      have hi : i' < cs.length := by rw [l2]; exact (List.getElem?_eq_some_iff.mp e2).1
      refine g_pair hp2 fun vn vc hn hc => ?_
      have hn : vn = V.int (i' : Int) := by rw [← e1]; exact hn
      subst hn
      have t12 := t1.trans t2
      refine st_no' (as_val ?_) fun H3 t3 => st_next (hN _ _ t3 ⟨_, _, rfl⟩)
      refine vs_callS (R := fun v _ => v = .bl false) (A := fun vs H' => ∃ y z, vs = [y, z] ∧ iQ K H' y (Mx.vF cs i') ∧ iQ K H' z (dotL ys p.2)) (fun Q' k => ?_) ?_
      · refine v_ixL (val_var rfl) (val_var rfl) ((mL mQ).to t12 h2) (get_vF hi) fun y hy => ?_
        refine vs_call (R := fun r H' => iQ K H' r (dotL ys p.2)) (va2 (val_var rfl) (val_var rfl)) (fun Q2 k2 => ⟨_, _, _, _, b, a, rfl, mRow.to t12 h5, hc, s5, sc _ (List.mem_of_getElem? e2), l5, b2, fun r H' s hr => k2 r H' s hr⟩) _ fun r H4 t4 hr => ?_
        exact k _ _ t4 ⟨y, r, rfl, mQ.to t4 hy, hr⟩
      · rintro vs H4 t4 ⟨y, z, rfl, hy, hz⟩ Q' k
        refine ⟨_, _, _, _, rfl, hy, hz, ⟨(small_vF s2 hi).mono (by have := cb_pos b1; omega), b2.sz s5 (sc _ (List.mem_of_getElem? e2)) (Nat.le_refl _)⟩, k _ _ (Same.refl _) ?_⟩
        rw [decide_eq_false (Rat.not_lt.mpr (hp i' _ e2))]
    · rintro σ1 H1 t1 ⟨z1, z2, rfl⟩
      dsimp only
      show tRet _ _ _ _
      refine st_ret' (R := fun v _ => v = .non) ?_ fun u H3 t3 e => ?_
      rotate_left
      · rw [e]; exact q H3 (t1.trans t3)
      refine vs_if (b := true) (as_test ?_) (fun _ H2 t2 => vsv val_c rfl) fun e => absurd e (by decide)
      intro Q' k
      refine vs_call (R := fun r H' => iQ K H' r (dotL ys ts)) (va2 (val_var rfl) (val_var rfl)) (fun Q2 k2 => ⟨_, _, _, _, b, a, rfl, mRow.to t1 h5, mRow.to t1 h3, s5, s3, l5, b2, fun r H' s hr => k2 r H' s hr⟩) _ fun r H4 t4 hr => ?_
      refine vs_call (R := fun r H' => iQ K H' r (dotL cs xs)) (va2 (val_var rfl) (val_var rfl)) (fun Q2 k2 => ⟨_, _, _, _, a, b, rfl, (mL mQ).to (t1.trans t4) h2, mRow.to (t1.trans t4) h4, s2, s4, b1, fun r H' s hr => k2 r H' s hr⟩) _ fun r5 H5 t5 hr5 => ?_
      refine r_eqD dat_Q dat_Q (by decide) (by decide) (mQ.to t5 hr) hr5 ?_
      rw [eqv_Q, decide_eq_true he]
      exact k _ _ (t4.trans t5) rfl
/-- a slope that bars -/
def spSlopeFault (K : PySem.W.Frag) : Sp := fun vs H Q _ => ∃ v1 v2 v3 cols ys ts a b, vs = [v1, v2, v3] ∧ iCols K H v1 cols ∧ iRow K H v2 ys ∧ iRow K H v3 ts ∧
  ys.length ≤ 1000 ∧ (∀ c ∈ cols, Small a c) ∧ Small a ts ∧ Small b ys ∧ CB ys.length b a ∧
  (∀ c ∈ cols, 0 ≤ dotL ys c) ∧ dotL ys ts < 0 ∧ ∀ H', Same H H' → Q .non H'
theorem num_lt0 {x : Rat} : decide (x.num < 0) = decide (x < 0) := decide_eq_decide.mpr (by
  constructor
  · intro h; exact Rat.not_le.mp fun z => by have := Rat.num_nonneg.mpr z; omega
  · intro h; exact Int.not_le.mp fun z => Rat.not_le.mpr h (Rat.num_nonneg.mp z))
theorem sc_slope_fault : FnScope ["columns", "slope", "target", "k", "column"] ["columns", "slope", "target"] (defScope s_slope_fault) := ⟨rfl, rfl, rfl, by decide +kernel, rfl, by decide +kernel, by decide +kernel⟩
theorem ok_slope_fault (T : Txt K mg) : FnOk P w K mg base CX0 5 T.slope_fault.f T.slope_fault.fd ["columns", "slope", "target"] (spSlopeFault K) := by
  refine T.slope_fault.F.ok sc_slope_fault (fun vs H Q E h => ?_) (fun cdv A outer s H vs Q E hr h => ?_)
  · obtain ⟨_, _, _, _, _, _, _, _, rfl, _⟩ := h; rfl
  · obtain ⟨v1, v2, v3, cols, ys, ts, a, b, rfl, h1, h2, h3, l2, sc, s3, s2, b2, hp, he, q⟩ := h
    refine ⟨_, (PSs.nox (pss_cons (ps_for PassesOwn.never rfl (pi_enumK K false rfl T.b_enumerate (pa_cons (pv 0) pa_nil)) (pg_tup rfl (pgs_cons (pg_name (i := 3) sc_slope_fault.nd rfl (.inl rfl)) (pgs_cons (pg_name (i := 4) sc_slope_fault.nd rfl (.inl rfl)) pgs_nil))) (pss_one (ps_if (pt_cmpR op_lt (pe_ix (ix_tupK K) (pcall T.product (ok_product T) (hr.mono (by decide)) (pa_cons (pv 1) (pa_cons (pv 4) pa_nil))) pe_int (fun _ _ => rfl)) pe_int (nomark _)) (pss_one (ps_ret (pe_tup (pa_cons pe_str (pa_cons (pv 3) pa_nil))))) pss_nil))) (pss_one (ps_ret (pe_ifExp (pt_cmpR op_lt (pe_ix (ix_tupK K) (pcall T.product (ok_product T) (hr.mono (by decide)) (pa_cons (pv 1) (pa_cons (pv 2) pa_nil))) pe_int (fun _ _ => rfl)) pe_int (nomark _)) pe_non (pe_tup (pa_cons pe_str pa_nil))))))), ?_⟩
    have dot : ∀ {σ : L2.St} {H1 : Hp} {i j : Nat} {vc : V} {c : List Rat}, Same H H1 → σ[i]? = some (some v2) → σ[j]? = some (some vc) → iRow K H1 vc c → Small a c → ∀ b : Bool, decide (dotL ys c < 0) = b →
        AS (tTest (tOp (rI0 fun i j => .bl (decide (i < j))) (tOp (rIxT K) (tCall (spProduct K) [] E0 (tCons (tVar i) (tCons (tVar j) tNil))) (tC (.int 0))) (tC (.int 0)))) σ H1 b := by
      intro σ H1 i j vc c t1 e1 e2 hc s b' hd Q' k
      refine vs_call (R := fun r H' => iQ K H' r (dotL ys c)) (va2 (val_var e1) (val_var e2)) (fun Q2 k2 => ⟨_, _, _, _, b, a, rfl, mRow.to t1 h2, hc, s2, s, l2, b2, fun r H' s hr => k2 r H' s hr⟩) _ fun r H4 t4 hr => ?_
      unfold tC
      show rIxT K r (V.int 0) H4 _
      refine ix_num hr ⟨_, _, rfl, rfl, b', ?_, k _ t4⟩
      rw [← hd, ← num_lt0]
    refine st_seq (st_for (fun i σ H' => ∃ z1 z2, σ = [some v1, some v2, some v3, z1, z2]) (ws_enum mRow (k1 := false) (va1 (val_var rfl)) h1) (fun H1 s1 => ⟨none, none, rfl⟩) ?_ ?_)
    · rintro i p vp σ1 H1 H2 N hx ⟨z1, z2, rfl⟩ t1 t2 hp2 hN
      obtain ⟨i', e1, e2⟩ := numd_mem (List.mem_of_getElem? hx)
      refine g_pair hp2 fun vn vc hn hc => ?_
      have m := List.mem_of_getElem? e2
      exact st_no' (dot (t1.trans t2) rfl rfl hc (sc _ m) false (decide_eq_false (Rat.not_lt.mpr (hp _ m)))) fun H3 t3 => st_next (hN _ _ t3 ⟨_, _, rfl⟩)
    · rintro σ1 H1 t1 ⟨z1, z2, rfl⟩
      refine st_ret' (vs_if (b := true) (A := fun v _ => v = .non) (dot t1 rfl rfl (mRow.to t1 h3) s3 true (decide_eq_true he)) (fun _ H2 t2 => vsv val_c rfl) fun e => absurd e (by decide)) fun u H3 t3 e => ?_
      rw [e]; exact q H3 (t1.trans t3)
end
end K19
namespace K19
open PySem PySem.Spec L2
open Mx (LRes)
section
variable {P : Program} {w : World} {K : PySem.W.Frag} {mg : Str → Option Value} {base : Heap}
theorem vF_rep0 {n i : Nat} : Mx.vF (List.replicate n 0) i = 0 := by
  unfold Mx.vF
  rw [List.getD_eq_getElem?_getD]
  by_cases h : i < n
  · simp [h]
  · simp [h]
/-- what helps for ever -/
def spMoreFault (K : PySem.W.Frag) : Sp := fun vs H Q _ => ∃ v1 v2 v3 cols c0 cs zs a b, vs = [v1, v2, v3] ∧ iCols K H v1 cols ∧ iL K (iQ K) H v2 cs ∧ iRow K H v3 zs ∧ cols[0]? = some c0 ∧ c0.length ≤ 1000 ∧ zs.length ≤ 1000 ∧ (∀ c ∈ cols, c.length = c0.length ∧ Small a c) ∧ Small a cs ∧ Small b zs ∧
  CB cols.length a b ∧ CB cs.length a b ∧ (∀ x ∈ zs, 0 ≤ x) ∧ (∀ i, i < c0.length → dotL (lvlOf cols i) zs = 0) ∧ dotL cs zs < 0 ∧ ∀ H', Same H H' → Q .non H'
theorem sc_more_fault : FnScope ["columns", "costs", "more", "k", "i", "x"] ["columns", "costs", "more"] (defScope s_more_fault) := ⟨rfl, rfl, rfl, by decide +kernel, rfl, by decide +kernel, by decide +kernel⟩
theorem ok_more_fault (T : Txt K mg) : FnOk P w K mg base CX0 6 T.more_fault.f T.more_fault.fd ["columns", "costs", "more"] (spMoreFault K) := by
  refine T.more_fault.F.ok sc_more_fault (fun vs H Q E h => ?_) (fun cdv A outer s H vs Q E hr h => ?_)
  · obtain ⟨_, _, _, _, _, _, _, _, _, rfl, _⟩ := h; rfl
  · obtain ⟨v1, v2, v3, cols, c0, cs, zs, a, b, rfl, h1, h2, h3, hc0, l0, l3, sc, s2, s3, b1, b2, h0, he, hn, q⟩ := h
    refine ⟨_, (PSs.nox (pss_cons (ps_set (i := 3) sc_more_fault.nd rfl (.inl rfl) (pcall T.first_below (ok_first_below T) (hr.mono (by decide)) (pa_cons (pv 2) pa_nil))) (pss_cons (ps_if (pt_cmpR op_notN (pv 3) pe_non (nomark _)) (pss_one (ps_ret (pe_tup (pa_cons pe_str (pa_cons (pv 3) pa_nil))))) pss_nil) (pss_cons (ps_set (i := 4) sc_more_fault.nd rfl (.inl rfl) (pcall T.first_apart (ok_first_apart T) (hr.mono (by decide)) (pa_cons (pv 0) (pa_cons (pv 2) (pa_cons (pe_callTy (k_tuple K) rfl T.b_tuple (by decide +kernel) (pa_cons (pe_lc (own := [("x", 5)]) (g := (gName 5)) (tt := tYes) rfl sc_more_fault.nd (pi_tupK K (pe_ix (ix_listK K) (pv 0) pe_int (fun _ _ => rfl))) (blkOk_by (N := ["columns", "costs", "more", "k", "i", "x"]) (sc := defScope s_more_fault) (by decide +kernel)) (fun _ _ _ _ _ => (pg_name (i := 5) sc_more_fault.nd rfl (.inl rfl))) (fun _ _ _ _ _ => pts_nil) (fun _ _ _ _ _ => (pgl T.gZERO))) pa_nil)) pa_nil))))) (pss_cons (ps_if (pt_cmpR op_notN (pv 4) pe_non (nomark _)) (pss_one (ps_ret (pe_tup (pa_cons pe_str (pa_cons (pv 4) pa_nil))))) pss_nil) (pss_one (ps_ret (pe_ifExp (pt_cmpR op_lt (pe_ix (ix_tupK K) (pcall T.cost_of (ok_cost_of T) (hr.mono (by decide)) (pa_cons (pv 1) (pa_cons (pv 2) pa_nil))) pe_int (fun _ _ => rfl)) pe_int (nomark _)) pe_non (pe_tup (pa_cons pe_str pa_nil)))))))))), ?_⟩
    refine st_seq (st_set' (R := fun v _ => v = .non) (vs_call (va1 (val_var rfl)) fun Q' k => ⟨_, _, rfl, h3, l3, h0, fun H' s => k _ _ s rfl⟩) fun r1 H1 s1 e1 => ?_)
    subst e1
    refine st_seq (st_no (ans_notN (val_var rfl) rfl) (st_next ?_))
    dsimp only
    refine st_seq (st_set' (R := fun v _ => v = .non) (vs_callS (A := fun vs H' => ∃ t, vs = [v1, v3, t] ∧ Same H1 H' ∧ iRow K H' t (List.replicate c0.length 0)) (fun Q' k => ?_) ?_) fun r2 H2 s2 e2 => ?_)
    · refine val_var (i := 0) (v := v1) rfl _ (val_var (i := 2) (v := v3) rfl _ ?_)
      have w0 : VS (tCB (rTupK K) (tCons (tLc (iTup K (tOp (rIxL K) (tVar 0) (tC (.int 0)))) (gName 5) tYes (tC (.ref T.aZERO)) [5]) tNil)) [some v1, some v2, some v3, some .non, none, none] H1 (fun u H' => iRow K H' u (c0.map fun _ => 0)) :=
        vs_tuple mQ (vs_lcN (R := iQ K) (Z := iQ K) robQ mQ (fun _ => 0) (ws_tup mQ (vs_ixL (val_var rfl) (by exact val_c (v := .int ((0 : Nat) : Int))) (mCols.to s1 h1) hc0)) (sizeLine_ge l0) (fun _ => rfl) fun x vx H4 hm s4 hx => VS.el (vsv val_c (q0 T H4)))
      refine w0 _ fun t H2 s2 ht => ?_
      refine k _ _ s2 ⟨t, rfl, s2, ?_⟩
      have e : (c0.map fun _ => (0 : Rat)) = List.replicate c0.length 0 := List.map_const' ..
      rw [← e]; exact ht
    · rintro vs H2 s2 ⟨t, rfl, s2', ht⟩ Q' k
      refine ⟨_, _, _, _, _, _, a, b, rfl, mCols.to (s1.trans s2) h1, mRow.to (s1.trans s2) h3, ht, by simpa using l0, fun c hc => by simpa using sc c hc, s3, b1, fun i hi => ?_, fun H' s => k _ _ s rfl⟩
      rw [he i (by simpa using hi), vF_rep0]
    · subst e2
      refine st_seq (st_no (ans_notN (val_var rfl) rfl) (st_next ?_))
      dsimp only
      refine st_ret' (R := fun v _ => v = .non) ?_ fun u H3 t3 e => ?_
      rotate_left
      · rw [e]; exact q H3 (s1.trans (s2.trans t3))
      refine vs_if (b := true) (fun Q' k => ?_) (fun _ H2 t2 => vsv val_c rfl) fun e => absurd e (by decide)
      have s12 := s1.trans s2
      refine vs_call (R := fun r H' => iQ K H' r (dotL cs zs)) (va2 (val_var rfl) (val_var rfl)) (fun Q2 k2 => ⟨_, _, _, _, a, b, rfl, (mL mQ).to s12 h2, mRow.to s12 h3, by assumption, s3, b2, fun r H' s hr => k2 r H' s hr⟩) _ fun r H4 t4 hr => ?_
      unfold tC
      show rIxT K r (V.int 0) H4 _
      refine ix_num hr ⟨_, _, rfl, rfl, true, ?_, k _ t4⟩
      show V.bl (decide ((dotL cs zs).num < 0)) = _
      rw [num_lt0, decide_eq_true hn]
/-! ### the form of an answer -/
def resOk (n L : Nat) : LRes → Prop
  | .least x y => x.length = n ∧ y.length = L
  | .none s => s.length = L
  | .endless x z => x.length = n ∧ z.length = n
def tagOf : LRes → Str
  | .least _ _ => "least"
  | .none _ => "none"
  | .endless _ _ => "endless"
def firstOf : LRes → List Rat
  | .least x _ => x
  | .none s => s
  | .endless x _ => x
theorem tag_ne {a b : Str} (h : (a == b) = false) : decide (V.str a = V.str b) = false := decide_eq_false fun z => by
  have e : a = b := by injection z
  subst e
  simp at h
theorem ixAt {H : Hp} {a : Addr} {xs : List V} {i : Nat} {x : V} {ta tb : TE} {σ : L2.St} (h : Val ta σ H (.ref a)) (g : Val tb σ H (.int (i : Int))) (hs : SqT K H a xs) (e : xs[i]? = some x) : Val (tOp (rIxT K) ta tb) σ H x := fun Q k =>
  h _ (g _ ⟨a, xs, (i : Int), x, rfl, rfl, hs, atI_nat e, k⟩)
theorem res_tag {H : Hp} {v : V} {r : LRes} {ta : TE} {σ : L2.St} (h : Val ta σ H v) (hv : iRes K H v r) : Val (tOp (rIxT K) ta (tC (.int 0))) σ H (.str (tagOf r)) := by
  cases r with
  | least x y => obtain ⟨a, vx, vy, rfl, h2, _⟩ := hv; exact ixAt (i := 0) h val_c h2 rfl
  | none s => obtain ⟨a, vx, rfl, h2, _⟩ := hv; exact ixAt (i := 0) h val_c h2 rfl
  | endless x z => obtain ⟨a, vx, vy, rfl, h2, _⟩ := hv; exact ixAt (i := 0) h val_c h2 rfl
theorem res_first {H : Hp} {v : V} {r : LRes} {ta : TE} {σ : L2.St} (h : Val ta σ H v) (hv : iRes K H v r) : ∃ u, Val (tOp (rIxT K) ta (tC (.int 1))) σ H u ∧ iRow K H u (firstOf r) := by
  cases r with
  | least x y => obtain ⟨a, vx, vy, rfl, h2, h3, _⟩ := hv; exact ⟨vx, ixAt (i := 1) h val_c h2 rfl, h3⟩
  | none s => obtain ⟨a, vx, rfl, h2, h3⟩ := hv; exact ⟨vx, ixAt (i := 1) h val_c h2 rfl, h3⟩
  | endless x z => obtain ⟨a, vx, vy, rfl, h2, h3, _⟩ := hv; exact ⟨vx, ixAt (i := 1) h val_c h2 rfl, h3⟩
theorem res_tup {H : Hp} {v : V} {r : LRes} (hv : iRes K H v r) : ∃ a xs, v = .ref a ∧ SqT K H a xs ∧ xs.length = (match r with | .none _ => 2 | _ => 3) := by
  cases r with
  | least x y => obtain ⟨a, vx, vy, rfl, h2, h3, _⟩ := hv; exact ⟨a, _, rfl, h2, rfl⟩
  | none s => obtain ⟨a, vx, rfl, h2, h3⟩ := hv; exact ⟨a, _, rfl, h2, rfl⟩
  | endless x z => obtain ⟨a, vx, vy, rfl, h2, h3, _⟩ := hv; exact ⟨a, _, rfl, h2, rfl⟩
theorem v_lenT {H : Hp} {a : Addr} {xs : List V} {ta : TE} {σ : L2.St} {n : Nat} (h : Val ta σ H (.ref a)) (hs : SqT K H a xs) (e : xs.length = n) : Val (tCB (rLenK K) (tCons ta tNil)) σ H (.int (n : Int)) := fun Q k =>
  h _ ⟨a, xs, rfl, .inr hs, by rw [e]; exact k⟩
theorem vs_long (T : Txt K mg) {σ : L2.St} {H : Hp} {ta tb : TE} {v : V} {xs : List Rat} {n : Nat} (h : Val ta σ H v) (g : Val tb σ H (.int (n : Int))) (hv : iRow K H v xs) (e : xs.length = n) (hl : n ≤ 1000) : VS (tCall (spLong K) [] E0 (tCons ta (tCons tb tNil))) σ H (fun u _ => u = .bl true) :=
  vs_call (va2 h g) fun Q' k => ⟨v, xs, by rw [e]; rfl, hv, by omega, fun H' s => k _ _ s rfl⟩
def spHasForm (K : PySem.W.Frag) : Sp := fun vs H Q _ => ∃ v r n L, vs = [v, .int ((n : Nat) : Int), .int ((L : Nat) : Int)] ∧ iRes K H v r ∧ resOk n L r ∧ n ≤ 1000 ∧ L ≤ 1000 ∧ ∀ H', Same H H' → Q (.bl true) H'
theorem neNil (r : LRes) : PyData.eqv (dRes r) (.tuple []) = false := by cases r <;> simp [dRes, PyData.eqv, PyData.eqvAll]
theorem sc_has_form : FnScope ["value", "many", "levels", "one"] ["value", "many", "levels"] (defScope s_has_form) := ⟨rfl, rfl, rfl, by decide +kernel, rfl, by decide +kernel, by decide +kernel⟩
theorem ok_has_form (T : Txt K mg) : FnOk P w K mg base CX0 4 T.has_form.f T.has_form.fd ["value", "many", "levels"] (spHasForm K) := by
  refine T.has_form.F.ok sc_has_form (fun vs H Q E h => ?_) (fun cdv A outer s H vs Q E hr h => ?_)
  · obtain ⟨_, _, _, _, rfl, _⟩ := h; rfl
  · obtain ⟨v, r, n, L, rfl, hv, ok, ln, lL, q⟩ := h
    refine ⟨_, (PSs.nox (pss_cons (ps_if (PW.pt (pw_or (pt_not (pt_val (pe_callB (k_isi K) rfl T.b_isinstance (by decide +kernel) (pa_cons (pv 0) (pa_cons (pe_bltn rfl T.b_tuple (by decide +kernel) (show RelV (.ty "tuple") _ from rfl)) pa_nil))))) (pw_or1 (pt_cmpR (op_eqDK K hr.units) (pv 0) (pe_tup pa_nil) (nomark _))))) (pss_one (ps_ret pe_bl)) pss_nil) (pss_cons (ps_if (pt_cmpR op_eq (pe_ix (ix_tupK K) (pv 0) pe_int (fun _ _ => rfl)) pe_str (nomark _)) (pss_one (ps_ret (pe_and (pe_cmpR op_eq (pe_callB (k_len K) rfl T.b_len (by decide +kernel) (pa_cons (pv 0) pa_nil)) pe_int (nomark _)) (pe_one (pcall T.is_long_row (ok_is_long_row T) (hr.mono (by decide)) (pa_cons (pe_ix (ix_tupK K) (pv 0) pe_int (fun _ _ => rfl)) (pa_cons (pv 2) pa_nil))))))) pss_nil) (pss_cons (ps_if (pt_cmpR op_eq (pe_ix (ix_tupK K) (pv 0) pe_int (fun _ _ => rfl)) pe_str (nomark _)) (pss_one (ps_ret (pe_and (pe_cmpR op_eq (pe_callB (k_len K) rfl T.b_len (by decide +kernel) (pa_cons (pv 0) pa_nil)) pe_int (nomark _)) (pe_and (pcall T.is_long_row (ok_is_long_row T) (hr.mono (by decide)) (pa_cons (pe_ix (ix_tupK K) (pv 0) pe_int (fun _ _ => rfl)) (pa_cons (pv 1) pa_nil))) (pe_one (pcall T.is_long_row (ok_is_long_row T) (hr.mono (by decide)) (pa_cons (pe_ix (ix_tupK K) (pv 0) pe_int (fun _ _ => rfl)) (pa_cons (pv 2) pa_nil)))))))) pss_nil) (pss_one (ps_ret (pe_and (pe_cmpR op_eq (pe_ix (ix_tupK K) (pv 0) pe_int (fun _ _ => rfl)) pe_str (nomark _)) (pe_and (pe_cmpR op_eq (pe_callB (k_len K) rfl T.b_len (by decide +kernel) (pa_cons (pv 0) pa_nil)) pe_int (nomark _)) (pe_one (pe_callB (k_all K rfl) rfl T.b_all (by decide +kernel) (pa_cons (pe_lc (own := [("one", 3)]) (g := (gName 3)) (tt := tYes) rfl sc_has_form.nd (pi_tupK K (pe_slice (sl_tupK K) (pv 0) (po_some pe_int) po_none)) (blkOk_by (N := ["value", "many", "levels", "one"]) (sc := defScope s_has_form) (by decide +kernel)) (fun _ _ _ _ _ => (pg_name (i := 3) sc_has_form.nd rfl (.inl rfl))) (fun _ _ _ _ _ => pts_nil) (fun _ _ _ _ _ => (pcall T.is_long_row (ok_is_long_row T) (hr.mono (by decide)) (pa_cons (pv 3) (pa_cons (pv 1) pa_nil))))) pa_nil))))))))))), ?_⟩
    obtain ⟨a, xs, ea, hs, hlen⟩ := res_tup hv
    refine st_seq (st_no' ?_ fun H1 s1 => st_next ?_)
    · subst ea
      refine as_or (b1 := false) (b2 := false) (as_not (b := true) (as_val (vsv (v_isi (b := true) (va2 (val_var rfl) val_c) (tyTup hs) (kit_ty (by decide +kernel))) rfl))) fun _ H2 s2 => ?_
      intro Q' k
      refine ⟨_, rfl, by decide, fun p hp => ?_⟩
      refine r_eqD (dat_Res (K := K)) (dat_T (dat_I (K := K))) (by decide) (by decide) (mRes.to (s2.trans (same_new hp)) hv) (show iT K iI _ _ [] from ⟨p, [], rfl, SqT.of upd_same, .nil⟩) ⟨false, ?_, k _ (same_new hp)⟩
      show V.bl (PyData.eqv (dRes r) (.tuple [])) = _
      rw [neNil]
    · have hv1 := mRes.to s1 hv
      have hs1 := sameT s1 hs
      subst ea
      have hvr : Val (tVar 0) [some (.ref a), some (.int (n : Int)), some (.int (L : Int)), none] H1 (.ref a) := val_var rfl
      cases r with
      | none s =>
        refine st_seq (st_yes' (as_of (ans_eq (b := true) (res_tag (val_var rfl) hv1) val_c rfl (by simp only [tagOf]; decide))) fun H2 s2 => ?_)
        have hv2 := mRes.to s2 hv1
        refine st_ret' (vs_and (b1 := true) (b2 := true) (vsv (v_eq (v_lenT (n := 2) (val_var rfl) (sameT s2 hs1) hlen) val_c rfl) rfl) fun _ H3 s3 => ?_) fun u H3 s3 e => ?_
        · obtain ⟨u, hu, hr⟩ := res_first (σ := [some (.ref a), some (.int (n : Int)), some (.int (L : Int)), none]) (val_var (i := 0) rfl) (mRes.to s3 hv2)
          exact vs_long T hu (val_var rfl) hr ok lL
        · rw [e]; exact q H3 (s1.trans (s2.trans s3))
      | least x y =>
        obtain ⟨okx, oky⟩ := ok
        refine st_seq (st_no (ans_eq (b := false) (res_tag (val_var rfl) hv1) val_c rfl (tag_ne (by simp only [tagOf]; decide))) (st_next ?_))
        refine st_seq (st_yes' (as_of (ans_eq (b := true) (res_tag (val_var rfl) hv1) val_c rfl (by simp only [tagOf]; decide))) fun H2 s2 => ?_)
        have hv2 := mRes.to s2 hv1
        refine st_ret' (vs_and (b1 := true) (b2 := true) (vsv (v_eq (v_lenT (n := 3) (val_var rfl) (sameT s2 hs1) hlen) val_c rfl) rfl) fun _ H3 s3 => vs_and (b1 := true) (b2 := true) ?_ fun _ H4 s4 => ?_) fun u H3 s3 e => ?_
        · obtain ⟨u, hu, hr⟩ := res_first (σ := [some (.ref a), some (.int (n : Int)), some (.int (L : Int)), none]) (val_var (i := 0) rfl) (mRes.to s3 hv2)
          exact vs_long T hu (val_var rfl) hr okx ln
        · obtain ⟨a', vx, vy, ea', h2, h3, h4⟩ := mRes.to (s3.trans s4) hv2
          cases ea'
          exact vs_long T (ixAt (i := 2) (val_var rfl) val_c h2 rfl) (val_var rfl) h4 oky lL
        · rw [e]; exact q H3 (s1.trans (s2.trans s3))
      | endless x z =>
        obtain ⟨okx, okz⟩ := ok
        refine st_seq (st_no (ans_eq (b := false) (res_tag (val_var rfl) hv1) val_c rfl (tag_ne (by simp only [tagOf]; decide))) (st_next ?_))
        refine st_seq (st_no (ans_eq (b := false) (res_tag (val_var rfl) hv1) val_c rfl (tag_ne (by simp only [tagOf]; decide))) (st_next ?_))
        refine st_ret' (vs_and (b1 := true) (b2 := true) (vsv (v_eq (res_tag (val_var rfl) hv1) val_c rfl) rfl) fun _ H3 s3 => vs_and (b1 := true) (b2 := true) (vsv (v_eq (v_lenT (n := 3) (val_var rfl) (sameT s3 hs1) hlen) val_c rfl) rfl) fun _ H4 s4 => ?_) fun u H3 s3 e => ?_
        · obtain ⟨a', vx, vy, ea', h2, h3, h4⟩ := mRes.to (s3.trans s4) hv1
          cases ea'
          refine (vs_all (bs := [x, z].map fun _ => true) (vs_lcN (Z := iB) (R := iRow K) robB mB (fun _ => true) (ws_tup (xs := [x, z]) mRow ?_) (by show 2 ≤ sizeLine; decide) (fun _ => rfl) fun c vc H5 hm s5 hc => VS.el (vs_long T (n := n) (val_var rfl) (val_var rfl) hc (by simp at hm; rcases hm with rfl | rfl <;> assumption) ln)))
          intro Q' k
          refine val_var (i := 0) (v := .ref a) rfl _ ⟨1, rfl, a, _, rfl, h2, fun hw => absurd hw.1 (by simp only [List.length]; decide), fun _ p hp => ?_⟩
          refine k _ _ (same_new hp) ⟨p, [vx, vy], rfl, SqT.of upd_same, .cons (mRow.to (same_new hp) h3) (.cons (mRow.to (same_new hp) h4) .nil)⟩
        · rw [e]; exact q H3 (s1.trans s3)
end
end K19
namespace K19
open PySem PySem.Spec L2
open Mx (LRes Right)
/-! ### the sums the law asks for -/
/-- a fraction that is not large -/
def Lim (q : Rat) : Prop := ∃ z : Int, q * 12 = z ∧ z.natAbs ≤ 2880
theorem Lim.sz {q : Rat} (h : Lim q) : Sz 12 q := by
  obtain ⟨z, e, hz⟩ := h
  have e2 : q = Rat.divInt z 12 := by
    rw [Rat.divInt_eq_div, ← e]
    have : ((12 : Int) : Rat) ≠ 0 := by decide
    show q = q * 12 / 12
    rw [Rat.div_def, Rat.mul_assoc, Rat.mul_inv_cancel _ (by decide), Rat.mul_one]
  rw [e2]
  exact sz_divInt (by unfold Bd; omega) (by unfold Bd; decide) (by decide)
structure LP (cols : List (List Rat)) (cs ts : List Rat) : Prop where
  pos : 0 < cols.length
  few : cols.length ≤ 11
  low : ts.length ≤ 5
  cl : cs.length = cols.length
  rl : ∀ c ∈ cols, c.length = ts.length
  la : ∀ c ∈ cols, ∀ x ∈ c, Lim x
  lc : ∀ x ∈ cs, Lim x
  lt : ∀ x ∈ ts, Lim x
def resSmall (b : Nat) : LRes → Prop
  | .least x y => Small b x ∧ Small b y
  | .none s => Small b s
  | .endless x z => Small b x ∧ Small b z
section
variable {cols : List (List Rat)} {cs ts xs ys : List Rat}
theorem LP.sa (h : LP cols cs ts) : ∀ c ∈ cols, Small 12 c := fun c hc x hx => (h.la c hc x hx).sz
theorem LP.sc (h : LP cols cs ts) : Small 12 cs := fun x hx => (h.lc x hx).sz
theorem LP.st (h : LP cols cs ts) : Small 12 ts := fun x hx => (h.lt x hx).sz
theorem colAt {k : Nat} {c : List Rat} (h : cols[k]? = some c) (i : Nat) : Mx.colF cols k i = Mx.vF c i := by
  unfold Mx.colF; rw [List.getD_eq_getElem?_getD, h]; rfl
theorem dot_col {k : Nat} {c : List Rat} (h : cols[k]? = some c) (e1 : ys.length = ts.length) (e2 : c.length = ts.length) : dotL ys c = Mx.sm ts.length (fun i => Mx.vF ys i * Mx.colF cols k i) := by
  rw [dot_sm e1 e2]
  exact Mx.sm_congr fun i hi => by rw [colAt h]
theorem dot_lvl {i : Nat} (h : xs.length = cols.length) : dotL (lvlOf cols i) xs = Mx.sm cols.length (fun j => Mx.colF cols j i * Mx.vF xs j) := lvl_sm h
theorem nn_all {n : Nat} (h : Mx.Nn n (Mx.vF xs)) (e : xs.length = n) : ∀ x ∈ xs, 0 ≤ x := fun x hx => by
  obtain ⟨i, hi, e2⟩ := List.getElem_of_mem hx
  have := h i (by omega)
  rw [vF_get (x := x) (by rw [List.getElem?_eq_getElem hi, e2])] at this
  exact this
theorem mem_at {c : List Rat} (h : c ∈ cols) : ∃ k, k < cols.length ∧ cols[k]? = some c := by
  obtain ⟨k, hk, e⟩ := List.getElem_of_mem h
  exact ⟨k, hk, by rw [List.getElem?_eq_getElem hk, e]⟩
end
section
variable {P : Program} {w : World} {K : PySem.W.Frag} {mg : Str → Option Value} {base : Heap}
def spJudgeLeast (K : PySem.W.Frag) : Sp := fun vs H Q _ => ∃ v1 v2 v3 v4 cols cs ts r, vs = [v1, v2, v3, v4] ∧ iCols K H v1 cols ∧ iL K (iQ K) H v2 cs ∧ iRow K H v3 ts ∧ iRes K H v4 r ∧ LP cols cs ts ∧ resSmall 200 r ∧ Right cols cs ts r ∧ ∀ H', Same H H' → Q .non H'
theorem sc_judge_least : FnScope ["columns", "costs", "target", "value", "fault"] ["columns", "costs", "target", "value"] (defScope s_judge_least) := ⟨rfl, rfl, rfl, by decide +kernel, rfl, by decide +kernel, by decide +kernel⟩
theorem ok_judge_least (T : Txt K mg) : FnOk P w K mg base CX0 7 T.judge_least.f T.judge_least.fd ["columns", "costs", "target", "value"] (spJudgeLeast K) := by
  refine T.judge_least.F.ok sc_judge_least (fun vs H Q E h => ?_) (fun cdv A outer s H vs Q E hr h => ?_)
  · obtain ⟨_, _, _, _, _, _, _, _, rfl, _⟩ := h; rfl
  · obtain ⟨v1, v2, v3, v4, cols, cs, ts, r, rfl, h1, h2, h3, h4, lp, sr, hR, q⟩ := h
    refine ⟨_, (PSs.nox (pss_cons (ps_if (pt_not (pt_val (pcall T.has_form (ok_has_form T) (hr.mono (by decide)) (pa_cons (pv 3) (pa_cons (pe_callB (k_len K) rfl T.b_len (by decide +kernel) (pa_cons (pv 0) pa_nil)) (pa_cons (pe_callB (k_len K) rfl T.b_len (by decide +kernel) (pa_cons (pv 2) pa_nil)) pa_nil)))))) (pss_one (ps_ret (pe_tup (pa_cons pe_str pa_nil)))) pss_nil) (pss_cons (ps_if (pt_cmpR op_eq (pe_ix (ix_tupK K) (pv 3) pe_int (fun _ _ => rfl)) pe_str (nomark _)) (pss_one (ps_ret (pcall T.slope_fault (ok_slope_fault T) (hr.mono (by decide)) (pa_cons (pv 0) (pa_cons (pe_ix (ix_tupK K) (pv 3) pe_int (fun _ _ => rfl)) (pa_cons (pv 2) pa_nil)))))) pss_nil) (pss_cons (ps_set (i := 4) sc_judge_least.nd rfl (.inl rfl) (pcall T.amounts_fault (ok_amounts_fault T) (hr.mono (by decide)) (pa_cons (pv 0) (pa_cons (pe_ix (ix_tupK K) (pv 3) pe_int (fun _ _ => rfl)) (pa_cons (pv 2) pa_nil))))) (pss_cons (ps_if (pt_cmpR op_notN (pv 4) pe_non (nomark _)) (pss_one (ps_ret (pv 4))) pss_nil) (pss_cons (ps_if (pt_cmpR op_eq (pe_ix (ix_tupK K) (pv 3) pe_int (fun _ _ => rfl)) pe_str (nomark _)) (pss_one (ps_ret (pcall T.prices_fault (ok_prices_fault T) (hr.mono (by decide)) (pa_cons (pv 0) (pa_cons (pv 1) (pa_cons (pv 2) (pa_cons (pe_ix (ix_tupK K) (pv 3) pe_int (fun _ _ => rfl)) (pa_cons (pe_ix (ix_tupK K) (pv 3) pe_int (fun _ _ => rfl)) pa_nil)))))))) pss_nil) (pss_one (ps_ret (pcall T.more_fault (ok_more_fault T) (hr.mono (by decide)) (pa_cons (pv 0) (pa_cons (pv 1) (pa_cons (pe_ix (ix_tupK K) (pv 3) pe_int (fun _ _ => rfl)) pa_nil)))))))))))), ?_⟩
    have l1 := lp.few
    have l3 := lp.low
    have lc := lp.cl
    have hcb : CB cols.length 12 200 := by unfold CB; omega
    have hcb2 : CB ts.length 200 12 := by unfold CB; omega
    have hok : resOk cols.length ts.length r := by
      cases r with
      | least x y => exact ⟨hR.1, hR.2.1⟩
      | none s => exact hR.1
      | endless x z => exact ⟨hR.1, hR.2.1⟩
    refine st_seq (st_no' (as_not (b := true) (as_val (vs_call (vs := [v4, .int (cols.length : Nat), .int (ts.length : Nat)]) (va_cons (val_var rfl) (va2 (v_len (k1 := false) (R := iRow K) (val_var rfl) h1) (v_len (k1 := true) (R := iQ K) (val_var rfl) h3))) fun Q' k => ⟨v4, r, cols.length, ts.length, rfl, h4, hok, by omega, by omega, fun H' s => k _ _ s rfl⟩))) fun H1 s1 => st_next ?_)
    have h4' := mRes.to s1 h4
    have h1' := mCols.to s1 h1
    have h2' := (mL mQ).to s1 h2
    have h3' := mRow.to s1 h3
    dsimp only
    cases r with
    | none s =>
      refine st_seq (st_yes' (as_of (ans_eq (b := true) (res_tag (val_var rfl) h4') val_c rfl (by simp only [tagOf]; decide))) fun H2 s2 => ?_)
      obtain ⟨u, hu, hr⟩ := res_first (σ := [some v1, some v2, some v3, some v4, none]) (val_var (i := 3) rfl) (mRes.to s2 h4')
      obtain ⟨e1, hN⟩ := hR
      refine st_ret' (R := fun v _ => v = .non) (vs_call (va_cons (val_var rfl) (va2 hu (val_var rfl))) fun Q' k => ⟨v1, u, v3, cols, s, ts, 12, 200, rfl, mCols.to s2 h1', hr, mRow.to s2 h3', by omega, lp.sa, lp.st, sr, by rw [e1]; exact hcb2, fun c hc => ?_, ?_, fun H' s => k _ _ s rfl⟩) fun u H3 s3 e => by
        rw [e]; exact q H3 (s1.trans (s2.trans s3))
      · obtain ⟨k, hk, hck⟩ := mem_at hc
        rw [dot_col hck e1 (lp.rl c hc)]
        exact hN.up k hk
      · rw [dot_sm e1 rfl]; exact hN.dn
    | least x y =>
      obtain ⟨e1, e2, hN⟩ := hR
      obtain ⟨sx, sy⟩ := sr
      refine st_seq (st_no (ans_eq (b := false) (res_tag (val_var rfl) h4') val_c rfl (tag_ne (by simp only [tagOf]; decide))) (st_next ?_))
      obtain ⟨u, hu, hr⟩ := res_first (σ := [some v1, some v2, some v3, some v4, none]) (val_var (i := 3) rfl) h4'
      refine st_seq (st_set' (R := fun v _ => v = .non) (vs_call (va_cons (val_var rfl) (va2 hu (val_var rfl))) fun Q' k => ⟨v1, u, v3, cols, x, ts, 12, 200, rfl, h1', hr, h3', by omega, by omega, fun c hc => ⟨lp.rl c hc, lp.sa c hc⟩, sx, hcb, nn_all hN.nn e1, fun i hi => by rw [dot_lvl e1]; exact hN.rc i hi, fun H' s => k _ _ s rfl⟩) fun r2 H2 s2 e => ?_)
      subst e
      refine st_seq (st_no (ans_notN (val_var rfl) rfl) (st_next ?_))
      have h4'' := mRes.to s2 h4'
      have s12 := s1.trans s2
      refine st_seq (st_yes' (as_of (ans_eq (b := true) (res_tag (val_var rfl) h4'') val_c rfl (by simp only [tagOf]; decide))) fun H3 s3 => ?_)
      have s13 := s12.trans s3
      obtain ⟨a, vx, vy, rfl, k2, k3, k4⟩ := mRes.to s3 h4''
      refine st_ret' (R := fun v _ => v = .non) (vs_call (va_cons (val_var rfl) (va_cons (val_var rfl) (va_cons (val_var rfl) (va2 (ixAt (i := 1) (val_var rfl) val_c k2 rfl) (ixAt (i := 2) (val_var rfl) val_c k2 rfl))))) fun Q' k => ⟨v1, v2, v3, vx, vy, cols, cs, ts, x, y, 12, 200, rfl, mCols.to s13 h1, (mL mQ).to s13 h2, mRow.to s13 h3, k3, k4,
        by omega, lc, lp.sa, lp.sc, lp.st, sx, sy, by rw [lc]; exact hcb, by rw [e2]; exact hcb2, fun k c hck => ?_, ?_, fun H' s => k _ _ s rfl⟩) fun u H4 s4 e => by
        rw [e]; exact q H4 (s13.trans s4)
      · rw [dot_col hck e2 (lp.rl c (List.mem_of_getElem? hck))]
        exact hN.pr k (List.getElem?_eq_some_iff.mp hck).1
      · rw [dot_sm e2 rfl, dot_sm (xs := cs) (n := cols.length) lc e1]; exact hN.eq
    | endless x z =>
      obtain ⟨e1, e2, hN⟩ := hR
      obtain ⟨sx, sz⟩ := sr
      refine st_seq (st_no (ans_eq (b := false) (res_tag (val_var rfl) h4') val_c rfl (tag_ne (by simp only [tagOf]; decide))) (st_next ?_))
      obtain ⟨u, hu, hr⟩ := res_first (σ := [some v1, some v2, some v3, some v4, none]) (val_var (i := 3) rfl) h4'
      refine st_seq (st_set' (R := fun v _ => v = .non) (vs_call (va_cons (val_var rfl) (va2 hu (val_var rfl))) fun Q' k => ⟨v1, u, v3, cols, x, ts, 12, 200, rfl, h1', hr, h3', by omega, by omega, fun c hc => ⟨lp.rl c hc, lp.sa c hc⟩, sx, hcb, nn_all hN.nn e1, fun i hi => by rw [dot_lvl e1]; exact hN.rc i hi, fun H' s => k _ _ s rfl⟩) fun r2 H2 s2 e => ?_)
      subst e
      refine st_seq (st_no (ans_notN (val_var rfl) rfl) (st_next ?_))
      have h4'' := mRes.to s2 h4'
      have s12 := s1.trans s2
      refine st_seq (st_no (ans_eq (b := false) (res_tag (val_var rfl) h4'') val_c rfl (tag_ne (by simp only [tagOf]; decide))) (st_next ?_))
      obtain ⟨a, vx, vz, rfl, k2, k3, k4⟩ := h4''
      obtain ⟨c0, hc0⟩ : ∃ c0, cols[0]? = some c0 := ⟨_, List.getElem?_eq_getElem lp.pos⟩
      have l0 := lp.rl c0 (List.mem_of_getElem? hc0)
      refine st_ret' (R := fun v _ => v = .non) (vs_call (va_cons (val_var rfl) (va2 (val_var rfl) (ixAt (i := 2) (val_var rfl) val_c k2 rfl))) fun Q' k => ⟨v1, v2, vz, cols, c0, cs, z, 12, 200, rfl, mCols.to s12 h1, (mL mQ).to s12 h2, k4, hc0, by omega, by omega, fun c hc => ⟨by rw [lp.rl c hc, l0], lp.sa c hc⟩, lp.sc, sz, hcb, by rw [lc]; exact hcb, nn_all hN.nz e2, fun i hi => ?_, ?_, fun H' s => k _ _ s rfl⟩) fun u H4 s4 e => by
        rw [e]; exact q H4 (s12.trans s4)
      · rw [dot_lvl e2]; exact hN.rz i (by omega)
      · rw [dot_sm (xs := cs) (n := cols.length) lc e2]; exact hN.lt
end
end K19
namespace K19
open PySem PySem.Spec L2
/-! ### the table in a heap -/
def rowL (N : Nat) (f : Nat → Int) : List Int := (List.range N).map f
theorem rowL_len {N : Nat} {f : Nat → Int} : (rowL N f).length = N := by unfold rowL; simp
theorem rowL_get {N i : Nat} {f : Nat → Int} (h : i < N) : (rowL N f)[i]? = some (f i) := by unfold rowL; simp [h]
theorem rowL_last {N : Nat} {f : Nat → Int} : rowL (N + 1) f = rowL N f ++ [f N] := by unfold rowL; rw [List.range_succ, List.map_append]; rfl
theorem rowL_congr {N : Nat} {f g : Nat → Int} (h : ∀ i, i < N → f i = g i) : rowL N f = rowL N g := List.map_congr_left fun i hi => h i (List.mem_range.mp hi)
def rowsL (n L : Nat) (S : Mx.St) : List (List Int) := (List.range L).map fun k => rowL (n + L + 1) (S.R k)
theorem rowsL_len {n L : Nat} {S : Mx.St} : (rowsL n L S).length = L := by unfold rowsL; simp
theorem rowsL_get {n L k : Nat} {S : Mx.St} (h : k < L) : (rowsL n L S)[k]? = some (rowL (n + L + 1) (S.R k)) := by unfold rowsL; simp [h]
def basL (L : Nat) (S : Mx.St) : List Int := rowL L fun k => ((S.B k : Nat) : Int)
def tfs (n L : Nat) (d : Int) (vsc vrw : V) (cs : Int) (vco vga vba : V) : List (Str × V) :=
  [("many", .int (n : Int)), ("levels", .int (L : Int)), ("over", .int d), ("scales", vsc), ("rows", vrw), ("cost_scale", .int cs), ("costs", vco), ("gaps", vga), ("basis", vba)]
/-- a new list apart from that of the basis -/
def iLn {α : Type} (bp : Addr) (R : Rp α) : Rp (List α) := fun H v xs => ∃ a, v = .ref a ∧ a ≠ bp ∧ nL R H a xs
theorem iLn.il {K : PySem.W.Frag} {α : Type} {bp : Addr} {R : Rp α} {H : Hp} {v : V} {xs : List α} (h : iLn bp R H v xs) : iL K R H v xs := let ⟨_, e, _, q⟩ := h; e ▸ q.iL
section
variable (C : Addr)
structure TA0 (H0 H : Hp) (p : Addr) (n L : Nat) (sc : List Int) (cs d : Int) (rows : List (List Int)) (co ga ba : List Int) (dx : Addr) (vsc vrw vco vga : V) (bp : Addr) : Prop where
  ob : H p = some (.ins C dx (tfs n L d vsc vrw cs vco vga (.ref bp)))
  hsc : iLn bp iI H vsc sc
  hrw : iLn bp (iLn bp iI) H vrw rows
  hco : iLn bp iI H vco co
  hga : iLn bp iI H vga ga
  hba : nL iI H bp ba
  s0 : Same H0 H
  p0 : H0 p = none
  b0 : H0 bp = none
def TabAt (H0 H : Hp) (p : Addr) (n L : Nat) (sc : List Int) (cs : Int) (S : Mx.St) : Prop := ∃ dx vsc vrw vco vga bp, TA0 C H0 H p n L sc cs S.d (rowsL n L S) (rowL (n + L + 1) (S.R L)) (rowL (n + L + 1) (S.R (L + 1))) (basL L S) dx vsc vrw vco vga bp
end
/-- entries that are not too large -/
def Bnd (n L : Nat) (S : Mx.St) : Prop := Bd 120 S.d ∧ ∀ k, k < L + 2 → ∀ j, j < n + L + 1 → Bd 120 (S.R k j)
section
variable {K : PySem.W.Frag} {C : Addr} {α : Type} {R : Rp α} {H0 H H' : Hp} {p dx bp : Addr} {n L : Nat} {sc : List Int} {cs : Int} {S : Mx.St} {vsc vrw vco vga : V} {σ : L2.St}
theorem mLn (m : Mon R) : Mon (iLn bp R) := ⟨fun e ⟨a, h1, h2, vs, h3, h4⟩ => ⟨a, h1, h2, vs, e _ _ h3, paired_mono m e h4⟩⟩
theorem TA0.to {d : Int} {rows : List (List Int)} {co ga ba : List Int} (t : TA0 C H0 H p n L sc cs d rows co ga ba dx vsc vrw vco vga bp) (e : Same H H') : TA0 C H0 H' p n L sc cs d rows co ga ba dx vsc vrw vco vga bp :=
  ⟨e _ _ t.ob, (mLn mI).to e t.hsc, (mLn (mLn mI)).to e t.hrw, (mLn mI).to e t.hco, (mLn mI).to e t.hga, (let ⟨vs, h1, h2⟩ := t.hba; ⟨vs, e _ _ h1, h2⟩), t.s0.trans e, t.p0, t.b0⟩
theorem TabAt.to (t : TabAt C H0 H p n L sc cs S) (e : Same H H') : TabAt C H0 H' p n L sc cs S := let ⟨dx, a, b, c, d, bp, t⟩ := t; ⟨dx, a, b, c, d, bp, t.to e⟩
theorem tfs_many {d : Int} {vba : V} : (tfs n L d vsc vrw cs vco vga vba).lookup ("many" : Str) = some (.int (n : Int)) := rfl
theorem tfs_levels {d : Int} {vba : V} : (tfs n L d vsc vrw cs vco vga vba).lookup ("levels" : Str) = some (.int (L : Int)) := rfl
theorem tfs_over {d : Int} {vba : V} : (tfs n L d vsc vrw cs vco vga vba).lookup ("over" : Str) = some (.int d) := rfl
theorem tfs_scales {d : Int} {vba : V} : (tfs n L d vsc vrw cs vco vga vba).lookup ("scales" : Str) = some vsc := rfl
theorem tfs_rows {d : Int} {vba : V} : (tfs n L d vsc vrw cs vco vga vba).lookup ("rows" : Str) = some vrw := rfl
theorem tfs_cs {d : Int} {vba : V} : (tfs n L d vsc vrw cs vco vga vba).lookup ("cost_scale" : Str) = some (.int cs) := rfl
theorem tfs_costs {d : Int} {vba : V} : (tfs n L d vsc vrw cs vco vga vba).lookup ("costs" : Str) = some vco := rfl
theorem tfs_gaps {d : Int} {vba : V} : (tfs n L d vsc vrw cs vco vga vba).lookup ("gaps" : Str) = some vga := rfl
theorem tfs_basis {d : Int} {vba : V} : (tfs n L d vsc vrw cs vco vga vba).lookup ("basis" : Str) = some vba := rfl
/-- an int of a list -/
theorem ixI {ta tb : TE} {v : V} {xs : List Int} {i : Nat} {x : Int} (h : Val ta σ H v) (g : Val tb σ H (.int (i : Int))) (hv : iL K iI H v xs) (hx : xs[i]? = some x) : Val (tOp (rIxL K) ta tb) σ H (.int x) := fun Q k =>
  v_ixL h g hv hx fun u hu => by rw [show u = V.int x from hu]; exact k
theorem ixI1 {ta tb : TE} {v : V} {N : Nat} {f : Nat → Int} (h : Val ta σ H v) (g : Val tb σ H (.int (-1))) (hv : iL K iI H v (rowL (N + 1) f)) : Val (tOp (rIxL K) ta tb) σ H (.int (f N)) := fun Q k => by
  obtain ⟨a, vs, rfl, q, p⟩ := hv
  have e := pint p
  rw [rowL_last, List.map_append] at e
  exact h _ (g _ ⟨a, vs, (-1 : Int), .int (f N), rfl, rfl, q, by rw [e]; exact atI_last _ _, k⟩)
theorem ixR {ta tb : TE} {v : V} {rs : List (List Int)} {i : Nat} {x : List Int} (h : Val ta σ H v) (g : Val tb σ H (.int (i : Int))) (hv : iLn bp (iLn bp iI) H v rs) (hx : rs[i]? = some x) : ∃ u, Val (tOp (rIxL K) ta tb) σ H u ∧ iLn bp iI H u x := by
  obtain ⟨a, rfl, _, vs, q, p⟩ := hv
  obtain ⟨u, hu, hr⟩ := pgetR p hx
  exact ⟨u, fun Q k => h _ (g _ ⟨a, vs, (i : Int), u, rfl, rfl, SqL.of q, atI_nat hu, k⟩), hr⟩
/-- a call of a method, the heap growing -/
theorem vs_meth {ta : TE} {t : TA} {m : Str} {sp : Sp} {a : Addr} {fs : List (Str × V)} {A : List V → Hp → Prop} {R : V → Hp → Prop} (h : Val ta σ H (.ref a)) (ho : H a = some (.ins C dx fs)) (hl : fs.lookup m = none) (hA : VSA t σ H A)
    (g : ∀ vs H', Same H H' → A vs H' → ∀ Q : VK, (∀ v H2, Same H' H2 → R v H2 → Q v H2) → sp (.ref a :: (vs ++ [])) H' Q E0) : VS (tMeth C m sp [] E0 ta t) σ H R := fun Q k =>
  h _ ⟨a, dx, fs, rfl, ho, hl, hA _ fun vs H' s r => g vs H' s r Q fun v H2 s2 r2 => k v H2 (s.trans s2) r2⟩
theorem vs_methV {ta : TE} {t : TA} {m : Str} {sp : Sp} {a : Addr} {fs : List (Str × V)} {vs : List V} {R : V → Hp → Prop} (h : Val ta σ H (.ref a)) (ho : H a = some (.ins C dx fs)) (hl : fs.lookup m = none) (hA : ValA t σ H vs)
    (g : ∀ Q : VK, (∀ v H2, Same H H2 → R v H2 → Q v H2) → sp (.ref a :: (vs ++ [])) H Q E0) : VS (tMeth C m sp [] E0 ta t) σ H R := fun Q k =>
  h _ ⟨a, dx, fs, rfl, ho, hl, hA _ (g Q fun v H2 s2 r2 => k v H2 s2 r2)⟩
theorem rowL_mem {N : Nat} {f : Nat → Int} {x : Int} (h : x ∈ rowL N f) : ∃ i, i < N ∧ x = f i := by
  unfold rowL at h
  obtain ⟨i, hi, e⟩ := List.mem_map.mp h
  exact ⟨i, List.mem_range.mp hi, e.symm⟩
theorem rowL_zip {N : Nat} {f g : Nat → Int} {h : Int × Int → Int} : ((rowL N f).zip (rowL N g)).map h = rowL N fun j => h (f j, g j) := by
  unfold rowL
  rw [List.zip_map', List.map_map]
  rfl
theorem zip_mem {N : Nat} {f g : Nat → Int} {x y : Int} (h : (x, y) ∈ (rowL N f).zip (rowL N g)) : ∃ i, i < N ∧ x = f i ∧ y = g i := by
  unfold rowL at h
  rw [List.zip_map'] at h
  obtain ⟨i, hi, e⟩ := List.mem_map.mp h
  cases e
  exact ⟨i, List.mem_range.mp hi, rfl, rfl⟩
/-- the ups with a test: none, or the first -/
theorem ups_first {n : Nat} {q : Int → Bool} : ((ups 0 n).filter q = [] ∧ ∀ c : Nat, c < n → q (c : Int) = false) ∨ ∃ c : Nat, c < n ∧ q (c : Int) = true ∧ (∀ c' : Nat, c' < c → q (c' : Int) = false) ∧ ((ups 0 n).filter q)[0]? = some (c : Int) := by
  induction n with
  | zero => exact .inl ⟨rfl, fun c h => absurd h (Nat.not_lt_zero _)⟩
  | succ n ih =>
    have e : ups 0 (n + 1) = ups 0 n ++ [(n : Int)] := by
      unfold ups; rw [List.range_succ, List.map_append]; simp
    rw [e, List.filter_append]
    rcases ih with ⟨h1, h2⟩ | ⟨c, hc, h1, h2, h3⟩
    · rw [h1]
      cases hq : q (n : Int) with
      | false => exact .inl ⟨by simp [hq], fun c h => by
          by_cases z : c = n
          · rw [z, hq]
          · exact h2 c (by omega)⟩
      | true => exact .inr ⟨n, by omega, hq, fun c' h => h2 c' h, by simp [hq]⟩
    · refine .inr ⟨c, by omega, h1, h2, ?_⟩
      have hl := (List.getElem?_eq_some_iff.mp h3).1
      rw [List.getElem?_append_left hl]
      exact h3
end
section
variable {P : Program} {w : World} {K : PySem.W.Frag} {mg : Str → Option Value} {base : Heap}
/-! ### a row without a column -/
def spLess (K : PySem.W.Frag) (C : Addr) : Sp := fun vs H Q _ => ∃ p dx fs d N f g c x vr vl, vs = [.ref p, vr, vl, .int x, .int ((c : Nat) : Int)] ∧ H p = some (.ins C dx fs) ∧ fs.lookup ("over" : Str) = some (.int d) ∧ iL K iI H vr (rowL N f) ∧ iL K iI H vl (rowL N g) ∧ c < N ∧ N ≤ 1000 ∧
  0 < d ∧ Bd 120 d ∧ Bd 120 x ∧ (∀ i, i < N → Bd 120 (f i) ∧ Bd 120 (g i)) ∧ ∀ a H', Same H H' → H a = none → nL iI H' a (rowL N fun j => (f j * x - f c * g j) / d) → Q (.ref a) H'
theorem sc_T_less : FnScope ["self", "row", "lead", "pivot", "c", "times", "x", "y"] ["self", "row", "lead", "pivot", "c"] (defScope s_T_less) := ⟨rfl, rfl, rfl, by decide +kernel, rfl, by decide +kernel, by decide +kernel⟩
theorem ok_T_less (T : Txt K mg) : FnOk P w K mg base CX0 1 T.T_less.f T.T_less.fd ["self", "row", "lead", "pivot", "c"] (spLess K T.C) := by
  refine T.T_less.F.ok sc_T_less (fun vs H Q E h => ?_) (fun cdv A outer s H vs Q E hr h => ?_)
  · obtain ⟨_, _, _, _, _, _, _, _, _, _, _, rfl, _⟩ := h; rfl
  · obtain ⟨p, dx, fs, d, N, f, g, c, x, vr, vl, rfl, ho, hlo, hr1, hl1, hc, hN, d0, bd, bx, bfg, q⟩ := h
    refine ⟨_, (PSs.nox (pss_cons (ps_set (i := 5) sc_T_less.nd rfl (.inr rfl) (pe_ix (ix_listK K) (pv 1) (pv 4) (fun _ _ => rfl))) (pss_one (ps_ret (pe_lc (own := [("x", 6), ("y", 7)]) (g := (gTup K 2 (gCons (gName 6) (gCons (gName 7) gNil)))) (tt := tYes) rfl sc_T_less.nd (pi_zipK K false false rfl T.b_zip (pa_cons (pv 1) (pa_cons (pv 2) pa_nil))) (blkOk_by (N := ["self", "row", "lead", "pivot", "c", "times", "x", "y"]) (sc := defScope s_T_less) (by decide +kernel)) (fun _ _ _ _ _ => (pg_tup rfl (pgs_cons (pg_name (i := 6) sc_T_less.nd rfl (.inl rfl)) (pgs_cons (pg_name (i := 7) sc_T_less.nd rfl (.inl rfl)) pgs_nil)))) (fun _ _ _ _ _ => pts_nil) (fun _ _ _ _ _ => (pe_op op_fdivW (pe_op op_sub (pe_op op_mulW (pv 6) (pv 3)) (pe_op op_mulW (pv 5) (pv 7))) (pe_fldK K (pv 0) rfl)))))))), ?_⟩
    refine st_seq (st_set (ixI (val_var rfl) (val_var rfl) hr1 (rowL_get hc)) ?_)
    refine st_ret' (R := NewL iI H (rowL N fun j => (f j * x - f c * g j) / d)) (VS.imp (vs_lcP (R := iI) (S := iI) (Z := iI) robI mI (fun p => (p.1 * x - f c * p.2) / d) (ws_zip mI mI (k1 := false) (k2 := false) (va2 (val_var rfl) (val_var rfl)) hr1 hl1) (by rw [List.length_zip, rowL_len, rowL_len]; exact sizeLine_ge (by omega)) (fun _ _ => rfl) fun a b va vb H1 hm s1 ha hb => ?_) fun u H1 s1 hu => by rw [rowL_zip] at hu; exact hu) fun u H1 s1 hu => ?_
    · obtain ⟨i, hi, rfl, rfl⟩ := zip_mem hm
      have ha : va = .int (f i) := ha
      have hb : vb = .int (g i) := hb
      subst ha hb
      have hcc := (bfg c hc).1
      refine VS.el (vsv (vdiv (vsub (vmul (val_var rfl) (val_var rfl) (wide_mul (bfg i hi).1 bx (by decide) (by decide) (by decide))) (vmul (val_var rfl) (val_var rfl) (wide_mul hcc (bfg i hi).2 (by decide) (by decide) (by decide)))) (val_fld (val_var rfl) (s1 _ _ ho) T.cl T.n_over hlo) (wide_div d0 bd (by decide) (by decide))) rfl)
    · obtain ⟨a, rfl, ha, hn⟩ := hu
      exact q a H1 s1 ha hn
/-! ### the least number below 0 -/
def spHelping (K : PySem.W.Frag) (C : Addr) : Sp := fun vs H Q _ => ∃ p dx fs n N f v, vs = [.ref p, v] ∧ H p = some (.ins C dx fs) ∧ fs.lookup ("many" : Str) = some (.int ((n : Nat) : Int)) ∧ iL K iI H v (rowL N f) ∧ n ≤ N ∧ n ≤ 1000 ∧
  (∀ c : Nat, c < n → f c < 0 → (∀ c', c' < c → 0 ≤ f c') → ∀ H', Same H H' → Q (.int (c : Int)) H') ∧ ((∀ c, c < n → 0 ≤ f c) → ∀ H', Same H H' → Q .non H')
theorem as_neL {σ : L2.St} {H : Hp} {ta : TE} {v : V} {xs : List Int} {b : Bool} (h : Val ta σ H v) (hv : iL K iI H v xs) (hb : (!decide (xs = [])) = b) : AS (tTest (tOp (rNeD K) ta (tLst tNil))) σ H b := fun Q k =>
  h _ ⟨by decide, fun p hp => r_neD (dat_L dat_I) (dat_L dat_I) (by decide) (by decide) (mL mI |>.to (same_new hp) hv) (show iL K iI (upd H p (.lst [])) (.ref p) [] from ⟨p, [], rfl, SqL.of upd_same, .nil⟩) ⟨b, by
    rw [eqv_L (fun x y => show PyData.eqv (.int x) (.int y) = decide (x = y) by simp [PyData.eqv]; rfl), hb], k _ (same_new hp)⟩⟩
theorem sc_T_helping : FnScope ["self", "numbers", "helps", "c"] ["self", "numbers"] (defScope s_T_helping) := ⟨rfl, rfl, rfl, by decide +kernel, rfl, by decide +kernel, by decide +kernel⟩
theorem ok_T_helping (T : Txt K mg) : FnOk P w K mg base CX0 1 T.T_helping.f T.T_helping.fd ["self", "numbers"] (spHelping K T.C) := by
  refine T.T_helping.F.ok sc_T_helping (fun vs H Q E h => ?_) (fun cdv A outer s H vs Q E hr h => ?_)
  · obtain ⟨_, _, _, _, _, _, _, rfl, _⟩ := h; rfl
  · obtain ⟨p, dx, fs, n, N, f, v, rfl, ho, hln, hv, hnN, hn, q1, q2⟩ := h
    refine ⟨_, (PSs.nox (pss_cons (ps_setLc (i := 2) (own := [("c", 3)]) (g := (gName 3)) rfl sc_T_helping.nd rfl rfl (sw_true rfl rfl rfl (by decide +kernel)) (pi_range1 rfl T.b_range (pa_cons (pe_fldK K (pv 0) rfl) pa_nil)) (blkOk_by (N := ["self", "numbers", "helps", "c"]) (sc := defScope s_T_helping) (by decide +kernel)) (fun _ _ _ _ _ => (pg_name (i := 3) sc_T_helping.nd rfl (.inl rfl))) (fun _ _ _ _ _ => pts_one (pt_cmpR op_lt (pe_ix (ix_listK K) (pv 1) (pv 3) (fun _ _ => rfl)) pe_int (nomark _))) (fun _ _ _ _ _ => (pv 3))) (pss_one (ps_ret (pe_ifExp (pt_cmpR (op_neDK K hr.units) (pv 2) (pe_lst pa_nil) (nomark _)) (pe_ix (ix_listK K) (pv 2) pe_int (fun _ _ => rfl)) pe_non))))), ?_⟩
    refine st_seq (st_set' (R := NewL iI H ((((ups 0 n).filter fun c => decide (f c.toNat < 0))).map fun c => c)) (vs_lcNF (R := iI) (Z := iI) robI mI (fun c => c) (fun c => decide (f c.toNat < 0)) (ws_range1 (va1 (val_fld (val_var rfl) ho T.cl T.n_many hln)) (by omega) (by omega)) (by rw [ups_len]; exact sizeLine_ge (by omega)) (fun _ => rfl) (fun c vc H1 hm s1 hc C' k => ?_) (fun c vc H1 hm s1 hc _ => VS.el (vsv (val_var rfl) hc)) mI) fun u H1 s1 hu => ?_)
    · unfold ups at hm
      obtain ⟨i, hi, e⟩ := List.mem_map.mp hm
      have hi := List.mem_range.mp hi
      have e : c = (i : Int) := by rw [← e]; omega
      subst e
      have hc : vc = .int (i : Int) := hc
      subst hc
      have z := vcmp (f := fun a b => decide (a < b)) (ixI (σ := [some (.ref p), some v, none, some (.int (i : Int))]) (val_var (i := 1) rfl) (val_var (i := 3) rfl) ((mL mI).to s1 hv) (rowL_get (show i < N by omega))) (val_c (v := .int 0))
      exact z _ ⟨_, rfl, k _ (Same.refl _)⟩
    · obtain ⟨a, rfl, ha, hn1⟩ := hu
      rw [List.map_id'] at hn1
      rcases ups_first (n := n) (q := fun c => decide (f c.toNat < 0)) with ⟨h1, h2⟩ | ⟨c, hc, h1, h2, h3⟩
      · rw [h1] at hn1
        refine st_ret' (vs_if (b := false) (A := fun v _ => v = .non) (as_neL (val_var rfl) hn1.iL rfl) (fun e => absurd e (by decide)) fun _ H2 s2 => vsv val_c rfl) fun u H2 s2 e => ?_
        rw [e]
        exact q2 (fun c hc => by have := of_decide_eq_false (h2 c hc); simp only [Int.toNat_natCast] at this; omega) H2 (s1.trans s2)
      · have hx := h3
        refine st_ret' (vs_if (b := true) (A := fun v _ => v = .int (c : Int)) (as_neL (val_var rfl) hn1.iL (by
          rw [decide_eq_false fun z => by rw [z] at h3; simp at h3]; rfl)) (fun _ H2 s2 => vsv (ixI (i := 0) (val_var rfl) val_c ((mL mI).to s2 hn1.iL) h3) rfl) fun e => absurd e (by decide)) fun u H2 s2 e => ?_
        rw [e]
        exact q1 c hc (by simpa using h1) (fun c' hc' => by have := of_decide_eq_false (h2 c' hc'); simp only [Int.toNat_natCast] at this; omega) H2 (s1.trans s2)
/-! ### which comes first -/
def spSooner (K : PySem.W.Frag) (C : Addr) : Sp := fun vs H Q _ => ∃ p H0 n L sc cs S k o c, vs = [.ref p, .int ((k : Nat) : Int), .int ((o : Nat) : Int), .int ((c : Nat) : Int)] ∧ TabAt C H0 H p n L sc cs S ∧ Bnd n L S ∧ k < L ∧ o < L ∧ c < n + L + 1 ∧
  Q (.bl (decide (S.R k (n + L) * S.R o c < S.R o (n + L) * S.R k c) || (decide (S.R k (n + L) * S.R o c = S.R o (n + L) * S.R k c) && decide (S.B k < S.B o)))) H
theorem v_andV {ta tb : TE} {σ : L2.St} {H : Hp} {b1 b2 : Bool} (h : Val ta σ H (.bl b1)) (g : b1 = true → Val tb σ H (.bl b2)) : Val (tAndV ta tb) σ H (.bl (b1 && b2)) := fun Q k => h _ ⟨b1, rfl, by
  cases b1
  · exact iteF k
  · exact iteT (g rfl _ k)⟩
theorem v_orV {ta tb : TE} {σ : L2.St} {H : Hp} {b1 b2 : Bool} (h : Val ta σ H (.bl b1)) (g : b1 = false → Val tb σ H (.bl b2)) : Val (tOrV ta tb) σ H (.bl (b1 || b2)) := fun Q k => h _ ⟨b1, rfl, by
  cases b1
  · exact iteF (g rfl _ k)
  · exact iteT k⟩
theorem sc_T_is_sooner : FnScope ["self", "k", "other", "c", "one", "two"] ["self", "k", "other", "c"] (defScope s_T_is_sooner) := ⟨rfl, rfl, rfl, by decide +kernel, rfl, by decide +kernel, by decide +kernel⟩
theorem ok_T_is_sooner (T : Txt K mg) : FnOk P w K mg base CX0 1 T.T_is_sooner.f T.T_is_sooner.fd ["self", "k", "other", "c"] (spSooner K T.C) := by
  refine T.T_is_sooner.F.ok sc_T_is_sooner (fun vs H Q E h => ?_) (fun cdv A outer s H vs Q E hr h => ?_)
  · obtain ⟨_, _, _, _, _, _, _, _, _, _, rfl, _⟩ := h; rfl
  · obtain ⟨p, H0, n, L, sc, cs, S, k, o, c, rfl, ⟨dx, vsc, vrw, vco, vga, bp, t⟩, bn, hk, ho, hc, q⟩ := h
    refine ⟨_, (PSs.nox (pss_cons (ps_set (i := 4) sc_T_is_sooner.nd rfl (.inl rfl) (pe_op op_mulW (pe_ix (ix_listK K) (pe_ix (ix_listK K) (pe_fldK K (pv 0) rfl) (pv 1) (fun _ _ => rfl)) (pe_un un_neg pe_int) (fun _ _ => rfl)) (pe_ix (ix_listK K) (pe_ix (ix_listK K) (pe_fldK K (pv 0) rfl) (pv 2) (fun _ _ => rfl)) (pv 3) (fun _ _ => rfl)))) (pss_cons (ps_set (i := 5) sc_T_is_sooner.nd rfl (.inl rfl) (pe_op op_mulW (pe_ix (ix_listK K) (pe_ix (ix_listK K) (pe_fldK K (pv 0) rfl) (pv 2) (fun _ _ => rfl)) (pe_un un_neg pe_int) (fun _ _ => rfl)) (pe_ix (ix_listK K) (pe_ix (ix_listK K) (pe_fldK K (pv 0) rfl) (pv 1) (fun _ _ => rfl)) (pv 3) (fun _ _ => rfl)))) (pss_one (ps_ret (pe_or (pe_cmpR op_lt (pv 4) (pv 5) (nomark _)) (pe_one (pe_and (pe_cmpR op_eq (pv 4) (pv 5) (nomark _)) (pe_one (pe_cmpR op_lt (pe_ix (ix_listK K) (pe_fldK K (pv 0) rfl) (pv 1) (fun _ _ => rfl)) (pe_ix (ix_listK K) (pe_fldK K (pv 0) rfl) (pv 2) (fun _ _ => rfl)) (nomark _))))))))))), ?_⟩
    have rv : ∀ {σ : L2.St}, σ[0]? = some (some (.ref p)) → Val (tFld K (tVar 0) "rows") σ H vrw := fun e => val_fld (val_var e) t.ob T.cl T.n_rows tfs_rows
    have bv : ∀ {σ : L2.St}, σ[0]? = some (some (.ref p)) → Val (tFld K (tVar 0) "basis") σ H (.ref bp) := fun e => val_fld (val_var e) t.ob T.cl T.n_basis tfs_basis
    have at1 : ∀ {σ : L2.St} {i i' : Nat} {tb : TE}, σ[0]? = some (some (.ref p)) → σ[i]? = some (some (.int (i' : Int))) → i' < L → Val tb σ H (.int (-1)) → Val (tOp (rIxL K) (tOp (rIxL K) (tFld K (tVar 0) "rows") (tVar i)) tb) σ H (.int (S.R i' (n + L))) := fun e0 e1 h1 g => by
      obtain ⟨u, hu, hr⟩ := ixR (rv e0) (val_var e1) t.hrw (rowsL_get h1)
      exact ixI1 hu g hr.il
    have at2 : ∀ {σ : L2.St} {i i' j j' : Nat}, σ[0]? = some (some (.ref p)) → σ[i]? = some (some (.int (i' : Int))) → σ[j]? = some (some (.int (j' : Int))) → i' < L → j' < n + L + 1 → Val (tOp (rIxL K) (tOp (rIxL K) (tFld K (tVar 0) "rows") (tVar i)) (tVar j)) σ H (.int (S.R i' j')) := fun e0 e1 e2 h1 h2 => by
      obtain ⟨u, hu, hr⟩ := ixR (rv e0) (val_var e1) t.hrw (rowsL_get h1)
      exact ixI hu (val_var e2) hr.il (rowL_get h2)
    have at3 : ∀ {σ : L2.St} {i i' : Nat}, σ[0]? = some (some (.ref p)) → σ[i]? = some (some (.int (i' : Int))) → i' < L → Val (tOp (rIxL K) (tFld K (tVar 0) "basis") (tVar i)) σ H (.int ((S.B i' : Nat) : Int)) := fun e0 e1 h1 => ixI (bv e0) (val_var e1) t.hba.iL (rowL_get h1)
    have m1 : ∀ {σ : L2.St}, Val (fun σ H Q => tC (.int 1) σ H fun x H' => Q x H') σ H (.int 1) := fun Q k => k
    have w1 : ∀ {a b : Nat} {i j : Nat}, a < L + 2 → b < L + 2 → i < n + L + 1 → j < n + L + 1 → CMulW (S.R a i) (S.R b j) := fun h1 h2 h3 h4 => wide_mul (bn.2 _ h1 _ h3) (bn.2 _ h2 _ h4) (by decide) (by decide) (by decide)
    refine st_seq (st_set (vmul (at1 rfl rfl hk ?_) (at2 rfl rfl rfl ho hc) (w1 (by omega) (by omega) (by omega) (by omega))) (st_seq (st_set (vmul (at1 rfl rfl ho ?_) (at2 rfl rfl rfl hk hc) (w1 (by omega) (by omega) (by omega) (by omega))) ?_)))
    · intro Q' k'; exact ⟨_, rfl, k'⟩
    · intro Q' k'; exact ⟨_, rfl, k'⟩
    refine st_ret (v_orV (vcmp (f := fun a b => decide (a < b)) (val_var rfl) (val_var rfl)) fun _ => v_andV (v_eq (val_var rfl) (val_var rfl) rfl) fun _ => vcmp (f := fun a b => decide (a < b)) (at3 rfl rfl hk) (at3 rfl rfl ho)) ?_
    have e1 : decide (V.int (S.R k (n + L) * S.R o c) = V.int (S.R o (n + L) * S.R k c)) = decide (S.R k (n + L) * S.R o c = S.R o (n + L) * S.R k c) := decide_eq_decide.mpr ⟨fun h => by injection h, fun h => by rw [h]⟩
    have e2 : decide (((S.B k : Nat) : Int) < ((S.B o : Nat) : Int)) = decide (S.B k < S.B o) := decide_eq_decide.mpr (by omega)
    rw [e1, e2]
    exact q
end
end K19
namespace K19
open PySem PySem.Spec L2
section
variable {P : Program} {w : World} {K : PySem.W.Frag} {mg : Str → Option Value} {base : Heap}
/-! ### which leaves -/
/-- o comes no later than k -/
def Soon (n L : Nat) (S : Mx.St) (c o k : Nat) : Prop := S.R o (n + L) * S.R k c < S.R k (n + L) * S.R o c ∨ (S.R o (n + L) * S.R k c = S.R k (n + L) * S.R o c ∧ S.B o ≤ S.B k)
theorem Soon.trans {n L : Nat} {S : Mx.St} {c o k j : Nat} (po : 0 < S.R o c) (pk : 0 < S.R k c) (pj : 0 < S.R j c) (h : Soon n L S c o k) (g : Soon n L S c k j) : Soon n L S c o j := by
  unfold Soon at *
  generalize S.R o (n + L) = x at *
  generalize S.R k (n + L) = y at *
  generalize S.R j (n + L) = z at *
  generalize S.R o c = a at *
  generalize S.R k c = b at *
  generalize S.R j c = d at *
  have e1 : x * b ≤ y * a := by rcases h with h | h <;> omega
  have e2 : y * d ≤ z * b := by rcases g with g | g <;> omega
  have m1 : x * b * d ≤ y * a * d := Int.mul_le_mul_of_nonneg_right e1 (by omega)
  have m2 : y * d * a ≤ z * b * a := Int.mul_le_mul_of_nonneg_right e2 (by omega)
  have m3 : (x * d) * b ≤ (z * a) * b := by
    have : (x * d) * b = x * b * d := by grind
    have : y * a * d = y * d * a := by grind
    have : (z * a) * b = z * b * a := by grind
    omega
  have m4 : x * d ≤ z * a := Int.le_of_mul_le_mul_right m3 pk
  rcases Int.lt_or_eq_of_le m4 with q | q
  · exact .inl q
  · refine .inr ⟨q, ?_⟩
    have f0 : (x * d) * b = (z * a) * b := by rw [q]
    have f1 : x * b * d = (x * d) * b := by grind
    have f2 : y * a * d = y * d * a := by grind
    have f3 : (z * a) * b = z * b * a := by grind
    have f4 : x * b * d = y * a * d := by omega
    have f5 : y * d * a = z * b * a := by omega
    have g1 : x * b = y * a := Int.eq_of_mul_eq_mul_right (by omega) f4
    have g2 : y * d = z * b := Int.eq_of_mul_eq_mul_right (by omega) f5
    rcases h with h | ⟨_, h⟩
    · omega
    · rcases g with g | ⟨_, g⟩
      · omega
      · omega
def spLeaving (C : Addr) : Sp := fun vs H Q _ => ∃ p H0 n L sc cs S c, vs = [.ref p, .int ((c : Nat) : Int)] ∧ TabAt C H0 H p n L sc cs S ∧ Bnd n L S ∧ c < n + L + 1 ∧ L ≤ 1000 ∧
  (∀ r, Mx.Leave n L S c r → ∀ H', Same H H' → Q (.int ((r : Nat) : Int)) H') ∧ ((∀ k, k < L → S.R k c ≤ 0) → ∀ H', Same H H' → Q .non H')
theorem sc_T_leaving : FnScope ["self", "c", "found", "k", "row"] ["self", "c"] (defScope s_T_leaving) := ⟨rfl, rfl, rfl, by decide +kernel, rfl, by decide +kernel, by decide +kernel⟩
theorem ok_T_leaving (T : Txt K mg) : FnOk P w K mg base CX0 2 T.T_leaving.f T.T_leaving.fd ["self", "c"] (spLeaving T.C) := by
  refine T.T_leaving.F.ok sc_T_leaving (fun vs H Q E h => ?_) (fun cdv A outer s H vs Q E hr h => ?_)
  · obtain ⟨_, _, _, _, _, _, _, _, rfl, _⟩ := h; rfl
  · obtain ⟨p, H0, n, L, sc, cs, S, c, rfl, ht, bn, hc, hL, q1, q2⟩ := h
    obtain ⟨dx, vsc, vrw, vco, vga, bp, t⟩ := id ht
    refine ⟨_, (PSs.nox (pss_cons (ps_set (i := 2) sc_T_leaving.nd rfl (.inl rfl) pe_non) (pss_cons (ps_for PassesOwn.never rfl (pi_enumK K false rfl T.b_enumerate (pa_cons (pe_fldK K (pv 0) rfl) pa_nil)) (pg_tup rfl (pgs_cons (pg_name (i := 3) sc_T_leaving.nd rfl (.inl rfl)) (pgs_cons (pg_name (i := 4) sc_T_leaving.nd rfl (.inl rfl)) pgs_nil))) (pss_one (ps_if (PW.pt (pw_and (pt_cmpR op_gt (pe_ix (ix_listK K) (pv 4) (pv 1) (fun _ _ => rfl)) pe_int (nomark _)) (pw_and1 (PW.pt (pw_or (pt_cmpR op_isN (pv 2) pe_non (nomark _)) (pw_or1 (pt_val (pmeth T.T_is_sooner T.cl (ok_T_is_sooner T) (hr.mono (by decide)) (pv 0) (pa_cons (pv 3) (pa_cons (pv 2) (pa_cons (pv 1) pa_nil))))))))))) (pss_one (ps_set (i := 2) sc_T_leaving.nd rfl (.inl rfl) (pv 3))) pss_nil))) (pss_one (ps_ret (pv 2)))))), ?_⟩
    refine st_seq (st_set val_c (st_seq ?_))
    refine st_for (R := iP K iI (iLn bp iI)) (xs := numd (rowsL n L S)) (fun i σ H' => ∃ fv z1 z2, σ = [some (.ref p), some (.int ((c : Nat) : Int)), some fv, z1, z2] ∧ ((fv = .non ∧ ∀ k, k < i → S.R k c ≤ 0) ∨ ∃ o : Nat, fv = .int (o : Int) ∧ o < i ∧ 0 < S.R o c ∧ ∀ k, k < i → 0 < S.R k c → Soon n L S c o k))
      (ws_enum (k1 := false) (mLn mI) (va1 (val_fld (val_var rfl) t.ob T.cl T.n_rows tfs_rows)) t.hrw.il) (fun H1 s1 => ⟨_, none, none, rfl, .inl ⟨rfl, fun k hk => absurd hk (Nat.not_lt_zero _)⟩⟩) ?_ ?_
    · rintro i x vx σ1 H1 H2 N hx ⟨fv, z1, z2, rfl, hfv⟩ s1 s2 hr2 hN
      have hi : i < L := by have := (List.getElem?_eq_some_iff.mp hx).1; rw [numd_len, rowsL_len] at this; exact this
      have hx2 := numd_get (rowsL_get (n := n) (S := S) hi)
      rw [hx2] at hx
      cases hx
      have s12 := s1.trans s2
      refine g_pair hr2 fun vk vrow hk hrow => ?_
      have hk : vk = .int (i : Int) := hk
      subst hk
      have hpos : AS (tTest (tOp (rI0 fun i j => .bl (decide (j < i))) (tOp (rIxL K) (tVar 4) (tVar 1)) (tC (.int 0)))) [some (.ref p), some (.int ((c : Nat) : Int)), some fv, some (.int (i : Int)), some vrow] H2 (decide (0 < S.R i c)) :=
        as_test (vsv (vcmp (f := fun i j => decide (j < i)) (ixI (val_var rfl) (val_var rfl) hrow.il (rowL_get hc)) val_c) rfl)
      have tk := ht.to s12
      rcases hfv with ⟨rfl, hall⟩ | ⟨o, rfl, ho, hop, hall⟩
      · have hb : AS (tAnd (tTest (tOp (rI0 fun i j => .bl (decide (j < i))) (tOp (rIxL K) (tVar 4) (tVar 1)) (tC (.int 0)))) (tOr (tTest (tOp rIsN (tVar 2) (tC .non))) (tB (tMeth T.C "is_sooner" (spSooner K T.C) [] E0 (tVar 0) (tCons (tVar 3) (tCons (tVar 2) (tCons (tVar 1) tNil))))))) [some (.ref p), some (.int ((c : Nat) : Int)), some .non, some (.int (i : Int)), some vrow] H2 (decide (0 < S.R i c) && true) :=
          as_and hpos fun _ H3 s3 => as_of (ans_or1 (ans_isN (val_var rfl) rfl))
        refine st_if' hb fun H3 s3 => ?_
        by_cases hp : 0 < S.R i c
        · rw [decide_eq_true hp]
          refine iteT (st_set (val_var rfl) (hN _ _ s3 ⟨_, _, _, rfl, .inr ⟨i, rfl, by omega, hp, fun k hk hkp => ?_⟩⟩))
          by_cases e : k = i
          · subst e; exact .inr ⟨rfl, Nat.le_refl _⟩
          · have := hall k (by omega); omega
        · rw [decide_eq_false hp]
          refine iteF (st_next (hN _ _ s3 ⟨_, _, _, rfl, .inl ⟨rfl, fun k hk => ?_⟩⟩))
          by_cases e : k = i
          · subst e; omega
          · exact hall k (by omega)
      · have hb : AS (tAnd (tTest (tOp (rI0 fun i j => .bl (decide (j < i))) (tOp (rIxL K) (tVar 4) (tVar 1)) (tC (.int 0)))) (tOr (tTest (tOp rIsN (tVar 2) (tC .non))) (tB (tMeth T.C "is_sooner" (spSooner K T.C) [] E0 (tVar 0) (tCons (tVar 3) (tCons (tVar 2) (tCons (tVar 1) tNil))))))) [some (.ref p), some (.int ((c : Nat) : Int)), some (.int (o : Int)), some (.int (i : Int)), some vrow] H2
            (decide (0 < S.R i c) && (false || (decide (S.R i (n + L) * S.R o c < S.R o (n + L) * S.R i c) || (decide (S.R i (n + L) * S.R o c = S.R o (n + L) * S.R i c) && decide (S.B i < S.B o))))) :=
          as_and hpos fun _ H3 s3 => as_or (as_of (ans_isN (val_var rfl) (decide_eq_false (fun z => by cases z)))) fun _ H4 s4 => as_val (by
            have t4 := tk.to (s3.trans s4)
            obtain ⟨dx', a1, a2, a3, a4, bp', t'⟩ := id t4
            exact vs_methV (val_var rfl) t'.ob rfl (va_cons (val_var rfl) (va2 (val_var rfl) (val_var rfl))) fun Q' k' => ⟨p, H0, n, L, sc, cs, S, i, o, c, rfl, t4, bn, hi, by omega, hc, k' _ _ (Same.refl _) rfl⟩)
        refine st_if' hb fun H3 s3 => ?_
        rw [Bool.false_or]
        by_cases hp : 0 < S.R i c
        · by_cases hs : S.R i (n + L) * S.R o c < S.R o (n + L) * S.R i c ∨ (S.R i (n + L) * S.R o c = S.R o (n + L) * S.R i c ∧ S.B i < S.B o)
          · have e : (decide (0 < S.R i c) && (decide (S.R i (n + L) * S.R o c < S.R o (n + L) * S.R i c) || (decide (S.R i (n + L) * S.R o c = S.R o (n + L) * S.R i c) && decide (S.B i < S.B o)))) = true := by
              simp only [Bool.and_eq_true, Bool.or_eq_true, decide_eq_true_eq]; exact ⟨hp, hs⟩
            rw [e]
            have hio : Soon n L S c i o := by
              rcases hs with h | ⟨h, h2⟩
              · exact .inl h
              · exact .inr ⟨h, by omega⟩
            refine iteT (st_set (val_var rfl) (hN _ _ s3 ⟨_, _, _, rfl, .inr ⟨i, rfl, by omega, hp, fun k hk hkp => ?_⟩⟩))
            by_cases e : k = i
            · subst e; exact .inr ⟨rfl, Nat.le_refl _⟩
            · exact hio.trans hp hop hkp (hall k (by omega) hkp)
          · have e : (decide (0 < S.R i c) && (decide (S.R i (n + L) * S.R o c < S.R o (n + L) * S.R i c) || (decide (S.R i (n + L) * S.R o c = S.R o (n + L) * S.R i c) && decide (S.B i < S.B o)))) = false := by
              rw [Bool.eq_false_iff]
              simp only [ne_eq, Bool.and_eq_true, Bool.or_eq_true, decide_eq_true_eq]
              exact fun z => hs z.2
            rw [e]
            refine iteF (st_next (hN _ _ s3 ⟨_, _, _, rfl, .inr ⟨o, rfl, by omega, hop, fun k hk hkp => ?_⟩⟩))
            by_cases e : k = i
            · subst e
              unfold Soon
              by_cases z : S.R o (n + L) * S.R k c < S.R k (n + L) * S.R o c
              · exact .inl z
              · refine .inr ?_
                have h1 : ¬ S.R k (n + L) * S.R o c < S.R o (n + L) * S.R k c := fun y => hs (.inl y)
                have h2 : S.R o (n + L) * S.R k c = S.R k (n + L) * S.R o c := by omega
                exact ⟨h2, Nat.not_lt.mp fun y => hs (.inr ⟨h2.symm, y⟩)⟩
            · exact hall k (by omega) hkp
        · rw [decide_eq_false hp]
          refine iteF (st_next (hN _ _ s3 ⟨_, _, _, rfl, .inr ⟨o, rfl, by omega, hop, fun k hk hkp => ?_⟩⟩))
          by_cases e : k = i
          · subst e; exact absurd hkp hp
          · exact hall k (by omega) hkp
    · rintro σ1 H1 s1 ⟨fv, z1, z2, rfl, hfv⟩
      rw [numd_len, rowsL_len] at hfv
      rcases hfv with ⟨rfl, hall⟩ | ⟨o, rfl, ho, hop, hall⟩
      · exact st_ret (val_var rfl) (q2 hall H1 s1)
      · exact st_ret (val_var rfl) (q1 o ⟨ho, hop, hall⟩ H1 s1)
def spReached (C : Addr) : Sp := fun vs H Q _ => ∃ p H0 n L sc cs S, vs = [.ref p] ∧ TabAt C H0 H p n L sc cs S ∧ Q (.bl (decide (S.R (L + 1) (n + L) = 0))) H
theorem sc_T_is_reached : FnScope ["self"] ["self"] (defScope s_T_is_reached) := ⟨rfl, rfl, rfl, by decide +kernel, rfl, by decide +kernel, by decide +kernel⟩
theorem ok_T_is_reached (T : Txt K mg) : FnOk P w K mg base CX0 1 T.T_is_reached.f T.T_is_reached.fd ["self"] (spReached T.C) := by
  refine T.T_is_reached.F.ok sc_T_is_reached (fun vs H Q E h => ?_) (fun cdv A outer s H vs Q E hr h => ?_)
  · obtain ⟨_, _, _, _, _, _, _, rfl, _⟩ := h; rfl
  · obtain ⟨p, H0, n, L, sc, cs, S, rfl, ⟨dx, vsc, vrw, vco, vga, bp, t⟩, q⟩ := h
    refine ⟨_, (PSs.nox (pss_one (ps_ret (pe_cmpR op_eq (pe_ix (ix_listK K) (pe_fldK K (pv 0) rfl) (pe_un un_neg pe_int) (fun _ _ => rfl)) pe_int (nomark _))))), ?_⟩
    refine st_ret (v_eq (ixI1 (val_fld (val_var rfl) t.ob T.cl T.n_gaps tfs_gaps) (fun Q' k' => ⟨_, rfl, k'⟩) t.hga.il) val_c rfl) ?_
    have e : decide (V.int (S.R (L + 1) (n + L)) = V.int 0) = decide (S.R (L + 1) (n + L) = 0) := decide_eq_decide.mpr ⟨fun h => by injection h, fun h => by rw [h]⟩
    rw [e]
    exact q
end
end K19
namespace K19
open PySem PySem.Spec L2
section
variable {K : PySem.W.Frag} {C : Addr} {α : Type} {R : Rp α} {H0 H H' : Hp} {p dx bp : Addr} {n L : Nat} {sc : List Int} {cs d : Int} {rows : List (List Int)} {co ga ba : List Int} {vsc vrw vco vga : V} {σ : L2.St}
/-! ### an instance is changed -/
structure RobJ (R : Rp α) : Prop where
  to : ∀ {H : Hp} {p C dx : Addr} {fs : List (Str × V)} {o : HO} {v : V} {x : α}, H p = some (.ins C dx fs) → R H v x → R (upd H p o) v x
theorem robjI : RobJ iI := ⟨fun _ h => h⟩
theorem robjLn (r : RobJ R) : RobJ (iLn bp R) := ⟨fun hp ⟨a, h1, h2, vs, h3, h4⟩ => ⟨a, h1, h2, vs, by rw [upd_ne (ne_of h3 hp (by intro z; cases z))]; exact h3, Paired.mapP h4 fun _ _ q => r.to hp q⟩⟩
theorem robj_nL {a : Addr} {xs : List Int} {fs : List (Str × V)} {o : HO} (hp : H p = some (.ins C dx fs)) (h : nL iI H a xs) : nL iI (upd H p o) a xs := let ⟨vs, h3, h4⟩ := h; ⟨vs, by rw [upd_ne (ne_of h3 hp (by intro z; cases z))]; exact h3, h4⟩
theorem robLn : Rob listNE (iLn bp iI) := ⟨fun hD hne ⟨a, h1, h2, vs, h3, h4⟩ => ⟨a, h1, h2, vs, by rw [upd_ne (fun z => hne (by rw [h1, z]))]; exact h3, h4⟩⟩
abbrev insOf (C dx : Addr) (n L : Nat) (d : Int) (vsc vrw : V) (cs : Int) (vco vga vba : V) : HO := .ins C dx (tfs n L d vsc vrw cs vco vga vba)
theorem TA0.putRows (t : TA0 C H0 H p n L sc cs d rows co ga ba dx vsc vrw vco vga bp) {v : V} {rows' : List (List Int)} (h : iLn bp (iLn bp iI) H v rows') :
    TA0 C H0 (upd H p (insOf C dx n L d vsc v cs vco vga (.ref bp))) p n L sc cs d rows' co ga ba dx vsc v vco vga bp :=
  ⟨upd_same, (robjLn robjI).to t.ob t.hsc, (robjLn (robjLn robjI)).to t.ob h, (robjLn robjI).to t.ob t.hco, (robjLn robjI).to t.ob t.hga, robj_nL t.ob t.hba, same_put t.s0 t.p0, t.p0, t.b0⟩
theorem TA0.putCosts (t : TA0 C H0 H p n L sc cs d rows co ga ba dx vsc vrw vco vga bp) {v : V} {co' : List Int} (h : iLn bp iI H v co') :
    TA0 C H0 (upd H p (insOf C dx n L d vsc vrw cs v vga (.ref bp))) p n L sc cs d rows co' ga ba dx vsc vrw v vga bp :=
  ⟨upd_same, (robjLn robjI).to t.ob t.hsc, (robjLn (robjLn robjI)).to t.ob t.hrw, (robjLn robjI).to t.ob h, (robjLn robjI).to t.ob t.hga, robj_nL t.ob t.hba, same_put t.s0 t.p0, t.p0, t.b0⟩
theorem TA0.putGaps (t : TA0 C H0 H p n L sc cs d rows co ga ba dx vsc vrw vco vga bp) {v : V} {ga' : List Int} (h : iLn bp iI H v ga') :
    TA0 C H0 (upd H p (insOf C dx n L d vsc vrw cs vco v (.ref bp))) p n L sc cs d rows co ga' ba dx vsc vrw vco v bp :=
  ⟨upd_same, (robjLn robjI).to t.ob t.hsc, (robjLn (robjLn robjI)).to t.ob t.hrw, (robjLn robjI).to t.ob t.hco, (robjLn robjI).to t.ob h, robj_nL t.ob t.hba, same_put t.s0 t.p0, t.p0, t.b0⟩
theorem TA0.putOver (t : TA0 C H0 H p n L sc cs d rows co ga ba dx vsc vrw vco vga bp) {d' : Int} :
    TA0 C H0 (upd H p (insOf C dx n L d' vsc vrw cs vco vga (.ref bp))) p n L sc cs d' rows co ga ba dx vsc vrw vco vga bp :=
  ⟨upd_same, (robjLn robjI).to t.ob t.hsc, (robjLn (robjLn robjI)).to t.ob t.hrw, (robjLn robjI).to t.ob t.hco, (robjLn robjI).to t.ob t.hga, robj_nL t.ob t.hba, same_put t.s0 t.p0, t.p0, t.b0⟩
theorem lnB {v : V} {xs : List α} {l : List V} (hr : ∀ {v : V} {x : α}, R H v x → R (upd H bp (.lst l)) v x) (h : iLn bp R H v xs) : iLn bp R (upd H bp (.lst l)) v xs :=
  let ⟨a, h1, h2, vs, h3, h4⟩ := h; ⟨a, h1, h2, vs, by rw [upd_ne h2]; exact h3, Paired.mapP h4 fun _ _ q => hr q⟩
theorem TA0.putBasis (t : TA0 C H0 H p n L sc cs d rows co ga ba dx vsc vrw vco vga bp) {l : List V} {ba' : List Int} (h : Paired (iI (upd H bp (.lst l))) l ba') :
    TA0 C H0 (upd H bp (.lst l)) p n L sc cs d rows co ga ba' dx vsc vrw vco vga bp :=
  ⟨by
    obtain ⟨vs, h3, _⟩ := t.hba
    rw [upd_ne (ne_of t.ob h3 (by intro z; cases z))]; exact t.ob, lnB (fun h => h) t.hsc, lnB (fun h => lnB (fun h => h) h) t.hrw, lnB (fun h => h) t.hco, lnB (fun h => h) t.hga, ⟨l, upd_same, h⟩, same_put t.s0 t.b0, t.p0, t.b0⟩
theorem putF_rows {vba y : V} : putF ("rows" : Str) y (tfs n L d vsc vrw cs vco vga vba) = tfs n L d vsc y cs vco vga vba := rfl
theorem putF_costs {vba y : V} : putF ("costs" : Str) y (tfs n L d vsc vrw cs vco vga vba) = tfs n L d vsc vrw cs y vga vba := rfl
theorem putF_gaps {vba y : V} : putF ("gaps" : Str) y (tfs n L d vsc vrw cs vco vga vba) = tfs n L d vsc vrw cs vco y vba := rfl
theorem putF_over {vba : V} {d' : Int} : putF ("over" : Str) (.int d') (tfs n L d vsc vrw cs vco vga vba) = tfs n L d' vsc vrw cs vco vga vba := rfl
theorem tfs_less {vba : V} : (tfs n L d vsc vrw cs vco vga vba).lookup ("less" : Str) = none := rfl
theorem ixN_at {m j : Nat} (hj : j < m) : ixN m (j : Int) = some j := by
  unfold ixN
  rw [if_pos (by omega), if_pos (by omega)]
  simp
/-- an attribute set to something new -/
theorem st_fld' {a : Addr} {ta tv : TE} {f : Str} {D : Ends} {R : V → Hp → Prop} {fs : List (Str × V)} (hv : VS tv σ H R) (ha : ∀ H', Val ta σ H' (.ref a)) (ho : H a = some (.ins C dx fs)) (hc : Cls K C) (hn : NoAttr K C f) (hl : fs.length < 1000)
    (g : ∀ y H', Same H H' → R y H' → D.nx σ (upd H' a (.ins C dx (putF f y fs)))) : sFld K ta tv f D σ H := by
  refine hv _ fun y H' s r => ?_
  refine ha H' _ ?_
  exact ⟨a, C, dx, fs, rfl, s _ _ ho, hc, hn, hl, g y H' s r⟩
theorem numd_rng {α : Type} {m : Nat} {g : Nat → α} : numd ((List.range m).map g) = (List.range m).map fun k : Nat => ((k : Int), g k) := by
  unfold numd ups
  rw [List.length_map, List.length_range, List.zip_map']
  refine List.map_congr_left fun k _ => ?_
  simp
theorem rowL_set {N r : Nat} {f : Nat → Int} {x : Int} : (rowL N f).set r x = rowL N (Mx.up f r x) := by
  refine List.ext_getElem? fun i => ?_
  unfold rowL
  rw [List.getElem?_set]
  by_cases hi : i < N
  · by_cases e : r = i
    · subst e
      simp [hi, Mx.up]
    · simp [hi, e, Mx.up, Ne.symm e]
  · by_cases e : r = i
    · subst e; simp [hi]
    · simp [hi, e]
theorem nL.ln {H1 : Hp} {a : Addr} {xs : List α} (h : nL R H a xs) (ha : H1 a = none) (hb : nL iI H1 bp ba) : iLn bp R H (.ref a) xs := ⟨a, rfl, fun z => by
  subst z
  obtain ⟨vs, h3, _⟩ := hb
  rw [ha] at h3
  exact absurd h3 (by simp), h⟩
/-- what stood in an earlier heap -/
def iWas {α : Type} (H2 : Hp) (R : Rp α) : Rp α := fun H v x => R H2 v x ∧ Same H2 H
theorem mWas {H2 : Hp} : Mon (iWas H2 R) := ⟨fun e h => ⟨h.1, h.2.trans e⟩⟩
theorem nL.was {a : Addr} {xs : List α} (h : nL R H a xs) : nL (iWas H R) H a xs := let ⟨vs, h1, h2⟩ := h; ⟨vs, h1, Paired.mapP h2 fun _ _ q => ⟨q, Same.refl _⟩⟩
/-- an element that was there, or is new -/
theorem iLn.ne {v : V} {xs : List α} {H1 H2 : Hp} (h : iLn bp R H1 v xs) (s : Same H1 H2) {D : Addr} (hD : H2 D = none) : v ≠ .ref D := by
  obtain ⟨a, rfl, _, vs, h3, _⟩ := h
  intro z
  cases z
  have := s _ _ h3
  rw [hD] at this
  cases this
end
section
variable {P : Program} {w : World} {K : PySem.W.Frag} {mg : Str → Option Value} {base : Heap}
def spExchange (C : Addr) : Sp := fun vs H Q _ => ∃ p H0 n L sc cs S r c, vs = [.ref p, .int ((r : Nat) : Int), .int ((c : Nat) : Int)] ∧ TabAt C H0 H p n L sc cs S ∧ Bnd n L S ∧ 0 < S.d ∧ r < L ∧ c < n + L ∧ n ≤ 100 ∧ L ≤ 100 ∧
  ∀ H', TabAt C H0 H' p n L sc cs (Mx.exch S r c) → Q .non H'
theorem sn_bd {b : Nat} {x y : Int} (h : Bd b y) : Bd b (Mx.sn x * y) := by
  unfold Mx.sn
  split
  · have e : -1 * y = -y := by omega
    rw [e]; exact bd_neg h
  · rw [Int.one_mul]; exact h
theorem sc_T_exchange : FnScope ["self", "r", "c", "lead", "x", "pivot", "others", "row", "k"] ["self", "r", "c"] (defScope s_T_exchange) := ⟨rfl, rfl, rfl, by decide +kernel, rfl, by decide +kernel, by decide +kernel⟩
theorem ok_T_exchange (T : Txt K mg) : FnOk P w K mg base CX0 2 T.T_exchange.f T.T_exchange.fd ["self", "r", "c"] (spExchange T.C) := by
  refine T.T_exchange.F.ok sc_T_exchange (fun vs H Q E h => ?_) (fun cdv A outer s H vs Q E hr h => ?_)
  · obtain ⟨_, _, _, _, _, _, _, _, _, rfl, _⟩ := h; rfl
  · obtain ⟨p, H0, n, L, sc, cs, S, r, c, rfl, ⟨dx, vsc, vrw, vco, vga, bp, t⟩, bn, d0, hr1, hc, hn, hL, q⟩ := h
    refine ⟨_, (PSs.nox (pss_cons (ps_set (i := 3) sc_T_exchange.nd rfl (.inr rfl) (pe_ifExp (pt_cmpR op_lt (pe_ix (ix_listK K) (pe_ix (ix_listK K) (pe_fldK K (pv 0) rfl) (pv 1) (fun _ _ => rfl)) (pv 2) (fun _ _ => rfl)) pe_int (nomark _)) (pe_lc (own := [("x", 4)]) (g := (gName 4)) (tt := tYes) rfl sc_T_exchange.nd (pi_listK K (pe_ix (ix_listK K) (pe_fldK K (pv 0) rfl) (pv 1) (fun _ _ => rfl))) (blkOk_by (N := ["self", "r", "c", "lead", "x", "pivot", "others", "row", "k"]) (sc := defScope s_T_exchange) (by decide +kernel)) (fun _ _ _ _ _ => (pg_name (i := 4) sc_T_exchange.nd rfl (.inl rfl))) (fun _ _ _ _ _ => pts_nil) (fun _ _ _ _ _ => (pe_un un_neg (pv 4)))) (pe_ix (ix_listK K) (pe_fldK K (pv 0) rfl) (pv 1) (fun _ _ => rfl)))) (pss_cons (ps_set (i := 5) sc_T_exchange.nd rfl (.inr rfl) (pe_ix (ix_listK K) (pv 3) (pv 2) (fun _ _ => rfl))) (pss_cons (ps_setLc (i := 6) (own := [("row", 7)]) (g := (gName 7)) (tt := tYes) rfl sc_T_exchange.nd rfl rfl (sw_true rfl rfl rfl (by decide +kernel)) (pi_listK K (pe_fldK K (pv 0) rfl)) (blkOk_by (N := ["self", "r", "c", "lead", "x", "pivot", "others", "row", "k"]) (sc := defScope s_T_exchange) (by decide +kernel)) (fun _ _ _ _ _ => (pg_name (i := 7) sc_T_exchange.nd rfl (.inl rfl))) (fun _ _ _ _ _ => pts_nil) (fun _ _ _ _ _ => (pmeth T.T_less T.cl (ok_T_less T) (hr.mono (by decide)) (pv 0) (pa_cons (pv 7) (pa_cons (pv 3) (pa_cons (pv 5) (pa_cons (pv 2) pa_nil))))))) (pss_cons (ps_fldK K (pv 0) (pe_lc (own := [("k", 8), ("row", 7)]) (g := (gTup K 2 (gCons (gName 8) (gCons (gName 7) gNil)))) (tt := tYes) rfl sc_T_exchange.nd (pi_enumK K false rfl T.b_enumerate (pa_cons (pv 6) pa_nil)) (blkOk_by (N := ["self", "r", "c", "lead", "x", "pivot", "others", "row", "k"]) (sc := defScope s_T_exchange) (by decide +kernel)) (fun _ _ _ _ _ => (pg_tup rfl (pgs_cons (pg_name (i := 8) sc_T_exchange.nd rfl (.inl rfl)) (pgs_cons (pg_name (i := 7) sc_T_exchange.nd rfl (.inl rfl)) pgs_nil)))) (fun _ _ _ _ _ => pts_nil) (fun _ _ _ _ _ => (pe_ifExp (pt_cmpR op_eq (pv 8) (pv 1) (nomark _)) (pv 3) (pv 7)))) rfl) (pss_cons (ps_fldK K (pv 0) (pmeth T.T_less T.cl (ok_T_less T) (hr.mono (by decide)) (pv 0) (pa_cons (pe_fldK K (pv 0) rfl) (pa_cons (pv 3) (pa_cons (pv 5) (pa_cons (pv 2) pa_nil))))) rfl) (pss_cons (ps_fldK K (pv 0) (pmeth T.T_less T.cl (ok_T_less T) (hr.mono (by decide)) (pv 0) (pa_cons (pe_fldK K (pv 0) rfl) (pa_cons (pv 3) (pa_cons (pv 5) (pa_cons (pv 2) pa_nil))))) rfl) (pss_cons (ps_fldK K (pv 0) (pv 5) rfl) (pss_one (ps_asg (pv 2) (pg_sub (pe_fldK K (pv 0) rfl) (pv 1) set_list))))))))))), ?_⟩
    -- the leading row
    let ld : Nat → Int := fun j => Mx.sn (S.R r c) * S.R r j
    have hbl : ∀ j, j < n + L + 1 → Bd 120 (ld j) := fun j hj => sn_bd (bn.2 r (by omega) j hj)
    refine st_seq (st_set' (R := fun v H' => iLn bp iI H' v (rowL (n + L + 1) ld)) (vs_if (b := decide (S.R r c < 0)) (as_test (vsv ?_ rfl)) (fun hb H1 s1 => ?_) fun hb H1 s1 => ?_) fun vl H1 s1 hl => ?_)
    · obtain ⟨u, hu, hr2⟩ := ixR (K := K) (σ := L2.start ["self", "r", "c", "lead", "x", "pivot", "others", "row", "k"] [.ref p, .int ((r : Nat) : Int), .int ((c : Nat) : Int)]) (val_fld (val_var (i := 0) rfl) t.ob T.cl T.n_rows tfs_rows) (val_var (i := 1) rfl) t.hrw (rowsL_get hr1)
      exact vcmp (f := fun i j => decide (i < j)) (ixI hu (val_var rfl) hr2.il (rowL_get (by omega))) val_c
    · have hneg := of_decide_eq_true hb
      have t1 := t.to s1
      obtain ⟨u, hu, hr2⟩ := ixR (K := K) (σ := L2.start ["self", "r", "c", "lead", "x", "pivot", "others", "row", "k"] [.ref p, .int ((r : Nat) : Int), .int ((c : Nat) : Int)]) (val_fld (val_var (i := 0) rfl) t1.ob T.cl T.n_rows tfs_rows) (val_var (i := 1) rfl) t1.hrw (rowsL_get hr1)
      refine VS.imp (vs_lcN (R := iI) (Z := iI) robI mI (fun x => -x) (ws_list mI (vsv hu hr2.il)) (by rw [rowL_len]; exact sizeLine_ge (by omega)) (fun _ => rfl) fun x vx H2 hm s2 hx => VS.el ?_) fun u H2 s2 hu => ?_
      · have hx : vx = .int x := hx
        subst hx
        intro Q' k
        exact ⟨_, rfl, x, rfl, k _ _ (Same.refl _) rfl⟩
      · obtain ⟨a, rfl, ha, hn⟩ := hu
        refine ⟨a, rfl, fun z => ?_, ?_⟩
        · subst z
          obtain ⟨vs, h3, _⟩ := t1.hba
          rw [ha] at h3; cases h3
        · have e : (rowL (n + L + 1) (S.R r)).map (fun x => -x) = rowL (n + L + 1) ld := by
            unfold rowL
            rw [List.map_map]
            refine List.map_congr_left fun j _ => ?_
            show - S.R r j = Mx.sn (S.R r c) * S.R r j
            unfold Mx.sn
            rw [if_pos hneg]; omega
          rw [← e]; exact hn
    · have hpos := of_decide_eq_false hb
      have t1 := t.to s1
      obtain ⟨u, hu, hr2⟩ := ixR (K := K) (σ := L2.start ["self", "r", "c", "lead", "x", "pivot", "others", "row", "k"] [.ref p, .int ((r : Nat) : Int), .int ((c : Nat) : Int)]) (val_fld (val_var (i := 0) rfl) t1.ob T.cl T.n_rows tfs_rows) (val_var (i := 1) rfl) t1.hrw (rowsL_get hr1)
      refine vsv hu ?_
      have e : rowL (n + L + 1) (S.R r) = rowL (n + L + 1) ld := rowL_congr fun j _ => by
        show S.R r j = Mx.sn (S.R r c) * S.R r j
        unfold Mx.sn
        rw [if_neg hpos, Int.one_mul]
      rw [← e]; exact hr2
    have t1 := t.to s1
    dsimp only
    refine st_seq (st_set (ixI (val_var rfl) (val_var rfl) hl.il (rowL_get (by omega))) ?_)
    -- the other rows
    let gk : Nat → Nat → Int := fun k j => (S.R k j * ld c - S.R k c * ld j) / S.d
    have hless : ∀ {σ : L2.St} {H2 : Hp} {i : Nat} {fs : List (Str × V)} {ta : TE} {f : Nat → Int} {vr : V}, H2 p = some (.ins T.C dx fs) → fs.lookup ("over" : Str) = some (.int S.d) → iL K iI H2 vl (rowL (n + L + 1) ld) → fs.lookup ("less" : Str) = none →
        σ[0]? = some (some (.ref p)) → σ[2]? = some (some (.int (c : Int))) → σ[3]? = some (some vl) → σ[5]? = some (some (.int (ld c))) → Val ta σ H2 vr → iL K iI H2 vr (rowL (n + L + 1) f) → (∀ j, j < n + L + 1 → Bd 120 (f j)) →
        VS (tMeth T.C "less" (spLess K T.C) [] E0 (tVar 0) (tCons ta (tCons (tVar 3) (tCons (tVar 5) (tCons (tVar 2) tNil))))) σ H2 (NewL iI H2 (rowL (n + L + 1) fun j => (f j * ld c - f c * ld j) / S.d)) := by
      intro σ H2 i fs ta f vr ho h1 h2 h3 e0 e2 e3 e5 hv hr4 hb
      exact vs_methV (val_var e0) ho h3 (va_cons hv (va_cons (val_var e3) (va2 (val_var e5) (val_var e2)))) fun Q' k => ⟨p, dx, fs, S.d, n + L + 1, f, ld, c, ld c, vr, vl, rfl, ho, h1, hr4, h2, by omega, by omega, d0, bn.1, hbl c (by omega), fun i hi => ⟨hb i hi, hbl i hi⟩, fun a H' s ha hn => k _ _ s ⟨a, rfl, ha, hn⟩⟩
    dsimp only
    refine st_seq (st_set' (R := NewL (iLn bp iI) H1 ((List.range L).map fun k => rowL (n + L + 1) (gk k))) (VS.imp (vs_lcN (R := iLn bp iI) (Z := iLn bp iI) robLn (mLn mI) (fun row => rowL (n + L + 1) fun j => (row.getD j 0 * ld c - row.getD c 0 * ld j) / S.d) (ws_list (mLn mI) (vsv (val_fld (val_var rfl) t1.ob T.cl T.n_rows tfs_rows) t1.hrw.il)) (by rw [rowsL_len]; exact sizeLine_ge (by omega)) (fun _ => rfl) fun row vr H2 hm s2 hr3 => ?_) fun u H2 s2 hu => ?_) fun vo H2 s2 hvo => ?_)
    · obtain ⟨k, hk, e⟩ := List.mem_map.mp hm
      have hk := List.mem_range.mp hk
      subst e
      have t2 := t1.to s2
      refine VS.imp (hless (i := 0) t2.ob tfs_over ((mLn mI).to s2 hl).il tfs_less rfl rfl rfl rfl (val_var rfl) hr3.il (bn.2 k (by omega))) fun y H3 s3 hy => ?_
      obtain ⟨a, rfl, ha, hn⟩ := hy
      refine ⟨⟨a, rfl, fun z => ?_, ?_⟩, fun D acc hD => fun z => ?_⟩
      · subst z
        obtain ⟨vs, h3, _⟩ := t2.hba
        rw [ha] at h3; cases h3
      · have e : (rowL (n + L + 1) fun j => ((rowL (n + L + 1) (S.R k)).getD j 0 * ld c - (rowL (n + L + 1) (S.R k)).getD c 0 * ld j) / S.d) = rowL (n + L + 1) fun j => (S.R k j * ld c - S.R k c * ld j) / S.d := rowL_congr fun j hj => by
          rw [List.getD_eq_getElem?_getD, rowL_get hj, List.getD_eq_getElem?_getD, rowL_get (show c < n + L + 1 by omega), Option.getD_some, Option.getD_some]
        rw [e]; exact hn
      · cases z; rw [ha] at hD; cases hD
    · have e : (rowsL n L S).map (fun row => rowL (n + L + 1) fun j => (row.getD j 0 * ld c - row.getD c 0 * ld j) / S.d) = (List.range L).map fun k => rowL (n + L + 1) (gk k) := by
        unfold rowsL
        rw [List.map_map]
        refine List.map_congr_left fun k hk => rowL_congr fun j hj => ?_
        rw [List.getD_eq_getElem?_getD, rowL_get hj, List.getD_eq_getElem?_getD, rowL_get (show c < n + L + 1 by omega), Option.getD_some, Option.getD_some]
      rw [← e]; exact hu
    obtain ⟨po, rfl, hpo, hno⟩ := hvo
    have t2 := t1.to s2
    have hl2 := (mLn mI).to s2 hl
    dsimp only
    let rw' : Nat → List Int := fun k => if k = r then rowL (n + L + 1) ld else rowL (n + L + 1) (gk k)
    refine st_seq (st_fld' (R := fun u H' => iLn bp (iLn bp iI) H' u ((List.range L).map rw')) (VS.imp (vs_lcP2 (R := iI) (S := iWas H2 (iLn bp iI)) (Z := iLn bp iI) robLn (mLn mI) (fun p => if p.1 = (r : Int) then rowL (n + L + 1) ld else p.2) (ws_enum (k1 := false) mWas (va1 (val_var rfl)) hno.was.iL) (by rw [numd_len]; simp only [List.length_map, List.length_range]; exact sizeLine_ge (by omega)) (fun _ _ => rfl) fun k row vk vr H3 H4 hm s3 s4 hk hrow => ?_) fun u H3 s3 hu => ?_) (fun _ => val_var rfl) t2.ob T.cl T.n_rows (by show 9 < 1000; decide) fun u H3 s3 hu => ?_)
    · have hk : vk = .int k := hk
      subst hk
      refine vs_if (b := decide (k = (r : Int))) (as_test (vsv (v_eq (val_var rfl) (val_var rfl) rfl) ?_)) (fun hb H5 s5 => ?_) fun hb H5 s5 => ?_
      · rw [show decide (V.int k = V.int (r : Int)) = decide (k = (r : Int)) from decide_eq_decide.mpr ⟨fun h => by injection h, fun h => by rw [h]⟩]
      · refine vsv (val_var rfl) ⟨?_, fun D acc hD _ => hl2.ne s3 hD⟩
        rw [if_pos (of_decide_eq_true hb)]
        exact (mLn mI).to (s3.trans (s4.trans s5)) hl2
      · refine vsv (val_var rfl) ⟨?_, fun D acc hD hD4 => ?_⟩
        · rw [if_neg (of_decide_eq_false hb)]
          exact (mLn mI).to (hrow.2.trans s5) hrow.1
        · exact hrow.1.ne s3 hD
    · obtain ⟨a, rfl, ha, hn1⟩ := hu
      refine ⟨a, rfl, fun z => ?_, ?_⟩
      · subst z
        obtain ⟨vs, h3, _⟩ := t2.hba
        rw [ha] at h3; cases h3
      · rw [numd_rng, List.map_map] at hn1
        have e : (List.range L).map ((fun p : Int × List Int => if p.1 = (r : Int) then rowL (n + L + 1) ld else p.2) ∘ fun k : Nat => ((k : Int), rowL (n + L + 1) (gk k))) = (List.range L).map rw' := List.map_congr_left fun k _ => by
          show (if (k : Int) = (r : Int) then _ else _) = if k = r then _ else _
          by_cases z : k = r
          · rw [if_pos (by omega), if_pos z]
          · rw [if_neg (by omega), if_neg z]
        rw [← e]; exact hn1
    rw [putF_rows]
    have t3 := (t2.to s3).putRows hu
    have hl3 : iLn bp iI (upd H3 p (insOf T.C dx n L S.d vsc u cs vco vga (.ref bp))) vl (rowL (n + L + 1) ld) := (robjLn robjI).to (t2.to s3).ob ((mLn mI).to s3 hl2)
    dsimp only
    -- the costs
    refine st_seq (st_fld' (fs := tfs n L S.d vsc u cs vco vga (.ref bp)) (hless (i := 0) t3.ob tfs_over hl3.il tfs_less rfl rfl rfl rfl (val_fld (val_var rfl) t3.ob T.cl T.n_costs tfs_costs) t3.hco.il (bn.2 L (by omega))) (fun _ => val_var rfl) t3.ob T.cl T.n_costs (by show 9 < 1000; decide) fun vc H4 s4 hvc => ?_)
    rw [putF_costs]
    obtain ⟨ac, rfl, hac, hnc⟩ := hvc
    have hnc' : iLn bp iI H4 (.ref ac) (rowL (n + L + 1) (gk L)) := hnc.ln hac t3.hba
    have t4 := (t3.to s4).putCosts hnc'
    have hl4 := (robjLn (bp := bp) robjI).to (o := insOf T.C dx n L S.d vsc u cs (.ref ac) vga (.ref bp)) (t3.to s4).ob ((mLn mI).to s4 hl3)
    dsimp only
    refine st_seq (st_fld' (fs := tfs n L S.d vsc u cs (.ref ac) vga (.ref bp)) (hless (i := 0) t4.ob tfs_over hl4.il tfs_less rfl rfl rfl rfl (val_fld (val_var rfl) t4.ob T.cl T.n_gaps tfs_gaps) t4.hga.il (bn.2 (L + 1) (by omega))) (fun _ => val_var rfl) t4.ob T.cl T.n_gaps (by show 9 < 1000; decide) fun vg H5 s5 hvg => ?_)
    rw [putF_gaps]
    obtain ⟨ag, rfl, hag, hng⟩ := hvg
    have hng' : iLn bp iI H5 (.ref ag) (rowL (n + L + 1) (gk (L + 1))) := hng.ln hag t4.hba
    have t5 := (t4.to s5).putGaps hng'
    dsimp only
    refine st_seq (st_fld (fs := tfs n L S.d vsc u cs (.ref ac) (.ref ag) (.ref bp)) (val_var rfl) (val_var rfl) t5.ob T.cl T.n_over (by show 9 < 1000; decide) ?_)
    rw [putF_over]
    have t6 := t5.putOver (d' := ld c)
    dsimp only
    -- the basis
    obtain ⟨vs, hb1, hb2⟩ := t6.hba
    have hlen := plen hb2
    refine val_var (i := 2) (v := .int (c : Int)) rfl _ ?_
    refine val_fld (val_var rfl) t6.ob T.cl T.n_basis tfs_basis _ (val_var (i := 1) (v := .int (r : Int)) rfl _ ?_)
    refine ⟨bp, vs, (r : Int), r, rfl, rfl, hb1, ixN_at (by rw [hlen]; unfold basL; rw [rowL_len]; exact hr1), ?_⟩
    have t7 := t6.putBasis (l := vs.set r (.int (c : Int))) (ba' := (basL L S).set r (c : Int)) (pset (R := iI) rfl r hb2)
    have e1 : (List.range L).map rw' = rowsL n L (Mx.exch S r c) := List.map_congr_left fun k hk => by
      show (if k = r then _ else _) = _
      by_cases z : k = r
      · rw [if_pos z]
        exact rowL_congr fun j _ => by
          show ld j = Mx.exR S r c k j
          unfold Mx.exR
          rw [if_pos z]
      · rw [if_neg z]
        exact rowL_congr fun j _ => by
          show gk k j = Mx.exR S r c k j
          unfold Mx.exR
          rw [if_neg z]
    have e2 : ∀ k, L ≤ k → rowL (n + L + 1) (gk k) = rowL (n + L + 1) ((Mx.exch S r c).R k) := fun k hk => rowL_congr fun j _ => by
      show gk k j = Mx.exR S r c k j
      unfold Mx.exR
      rw [if_neg (by omega)]
    have e3 : (basL L S).set r (c : Int) = basL L (Mx.exch S r c) := by
      unfold basL
      rw [rowL_set]
      exact rowL_congr fun k _ => by
        show Mx.up _ r _ k = ((Mx.up S.B r c k : Nat) : Int)
        unfold Mx.up
        split <;> rfl
    rw [e1, e2 L (Nat.le_refl _), e2 (L + 1) (by omega), e3] at t7
    exact q _ ⟨dx, vsc, u, .ref ac, .ref ag, bp, t7⟩
end
end K19
namespace K19
open PySem PySem.Spec L2
open Mx (Lp Gd Feas Fst Leave Ends Rea Art)
/-! ### a loop that may not turn at all -/
theorem st_whileB {tc : TT} {ts : TS} {D : L2.Ends} {σ : L2.St} {H : Hp} (W : Nat → L2.St → Hp → Prop) (B : L2.St → Hp → Prop) (h0 : (∃ m, W m σ H) ∨ B σ H) (hc : ∀ m σ H, W m σ H → Ans tc σ H true) (hb : ∀ σ H, B σ H → Ans tc σ H false) (hB : ∀ σ H, B σ H → D.nx σ H)
    (hs : ∀ (N : L2.St → Hp → Prop) m σ H, W m σ H → (∀ m' σ' H', m' < m → W m' σ' H' → N σ' H') → (∀ σ' H', B σ' H' → N σ' H') → ts { D with nx := N, ct := N, bk := D.nx } σ H) : tWhile tc ts D σ H := by
  refine ⟨fun m σ H => (m = 0 ∧ B σ H) ∨ ∃ m', m = m' + 1 ∧ W m' σ H, ?_, ?_⟩
  · rcases h0 with ⟨m, h⟩ | h
    · exact ⟨m + 1, .inr ⟨m, rfl, h⟩⟩
    · exact ⟨0, .inl ⟨rfl, h⟩⟩
  · rintro m σ H (⟨rfl, h⟩ | ⟨m', rfl, h⟩)
    · refine hb σ H h _ ?_
      exact iteF (hB σ H h)
    · refine hc m' σ H h _ ?_
      refine iteT ⟨fun σ H => ∃ m2, m2 < m' + 1 ∧ ((m2 = 0 ∧ B σ H) ∨ ∃ m3, m2 = m3 + 1 ∧ W m3 σ H), fun _ _ n => n, hs _ m' σ H h (fun m2 σ' H' l w => ⟨m2 + 1, by omega, .inr ⟨m2, rfl, w⟩⟩) fun σ' H' b => ⟨0, by omega, .inl ⟨rfl, b⟩⟩⟩
section
variable {n L : Nat} {d : Int} {vsc vrw vco vga vba : V} {cs : Int}
theorem tfs_helping : (tfs n L d vsc vrw cs vco vga vba).lookup ("helping" : Str) = none := rfl
theorem tfs_exchange : (tfs n L d vsc vrw cs vco vga vba).lookup ("exchange" : Str) = none := rfl
theorem tfs_leaving : (tfs n L d vsc vrw cs vco vga vba).lookup ("leaving" : Str) = none := rfl
theorem tfs_reached : (tfs n L d vsc vrw cs vco vga vba).lookup ("is_reached" : Str) = none := rfl
end
/-- a table of the law's sizes -/
structure Tok (n L : Nat) (A : Nat → Nat → Int) (S : Mx.St) : Prop where
  lp : Lp n L A
  gd : Gd n L A S
  fe : Feas n L S
  n11 : n ≤ 11
  l5 : L ≤ 5
  sm : ∀ j, j ≤ n + L → ∀ i, i < L + 2 → (A j i).natAbs ≤ 14400
theorem bnd_of {n L : Nat} {A : Nat → Nat → Int} {S : Mx.St} (g : Gd n L A S) (l5 : L ≤ 5) (sm : ∀ j, j ≤ n + L → ∀ i, i < L + 2 → (A j i).natAbs ≤ 14400) : Bnd n L S := by
  have h : Mx.fac (L + 2) * 14400 ^ (L + 2) < 2 ^ 120 := by
    have : ∀ L, L < 6 → Mx.fac (L + 2) * 14400 ^ (L + 2) < 2 ^ 120 := by decide +kernel
    exact this L (by omega)
  exact ⟨Nat.lt_of_le_of_lt (g.absd (by decide) sm) h, fun k hk j hj => Nat.lt_of_le_of_lt (g.abs (by decide) sm hk (by omega)) h⟩
theorem Tok.bn {n L : Nat} {A : Nat → Nat → Int} {S : Mx.St} (t : Tok n L A S) : Bnd n L S := bnd_of t.gd t.l5 t.sm
theorem Tok.next {n L : Nat} {A : Nat → Nat → Int} {S : Mx.St} (t : Tok n L A S) {r c : Nat} (hc : c < n) (hl : Leave n L S c r) : Tok n L A (Mx.exch S r c) :=
  ⟨t.lp, t.gd.exchd hl.lt (by omega) (by have := hl.pos; omega), Mx.feas_exch t.gd t.fe hc hl, t.n11, t.l5, t.sm⟩
section
variable {P : Program} {w : World} {K : PySem.W.Frag} {mg : Str → Option Value} {base : Heap}
variable {σ : L2.St} {H0 H : Hp} {p : Addr} {n L : Nat} {sc : List Int} {cs : Int} {S : Mx.St} {A : Nat → Nat → Int}
theorem vs_help (T : Txt K mg) {ta : TE} {v : V} {f : Nat → Int} (ht : TabAt T.C H0 H p n L sc cs S) (hn : n ≤ 11) (e0 : Val (tVar 0) σ H (.ref p)) (hv : Val ta σ H v) (hl : iL K iI H v (rowL (n + L + 1) f)) :
    VS (tMeth T.C "helping" (spHelping K T.C) [] E0 (tVar 0) (tCons ta tNil)) σ H (fun u H' => (∃ c : Nat, u = .int (c : Int) ∧ c < n ∧ f c < 0 ∧ ∀ c', c' < c → 0 ≤ f c') ∨ (u = .non ∧ ∀ c, c < n → 0 ≤ f c)) := by
  obtain ⟨dx, vsc, vrw, vco, vga, bp, t⟩ := ht
  exact vs_methV e0 t.ob tfs_helping (va1 hv) fun Q' k => ⟨p, dx, _, n, _, f, v, rfl, t.ob, tfs_many, hl, by omega, by omega, fun c hc h1 h2 H' s => k _ _ s (.inl ⟨c, rfl, hc, h1, h2⟩), fun h H' s => k _ _ s (.inr ⟨rfl, h⟩)⟩
theorem val_gaps (T : Txt K mg) (ht : TabAt T.C H0 H p n L sc cs S) (e0 : Val (tVar 0) σ H (.ref p)) : ∃ v, Val (tFld K (tVar 0) "gaps") σ H v ∧ iL K iI H v (rowL (n + L + 1) (S.R (L + 1))) := by
  obtain ⟨dx, vsc, vrw, vco, vga, bp, t⟩ := ht
  exact ⟨vga, val_fld e0 t.ob T.cl T.n_gaps tfs_gaps, t.hga.il⟩
theorem val_costs (T : Txt K mg) (ht : TabAt T.C H0 H p n L sc cs S) (e0 : Val (tVar 0) σ H (.ref p)) : ∃ v, Val (tFld K (tVar 0) "costs") σ H v ∧ iL K iI H v (rowL (n + L + 1) (S.R L)) := by
  obtain ⟨dx, vsc, vrw, vco, vga, bp, t⟩ := ht
  exact ⟨vco, val_fld e0 t.ob T.cl T.n_costs tfs_costs, t.hco.il⟩
/-- which leaves -/
theorem vs_leave (T : Txt K mg) {tc : TE} {c : Nat} (ht : TabAt T.C H0 H p n L sc cs S) (ok : Tok n L A S) (hc : c < n) (e0 : Val (tVar 0) σ H (.ref p)) (e1 : Val tc σ H (.int (c : Int))) :
    VS (tMeth T.C "leaving" (spLeaving T.C) [] E0 (tVar 0) (tCons tc tNil)) σ H (fun u H' => (∃ r : Nat, u = .int (r : Int) ∧ Leave n L S c r) ∨ (u = .non ∧ ∀ k, k < L → S.R k c ≤ 0)) := by
  obtain ⟨dx, vsc, vrw, vco, vga, bp, t⟩ := id ht
  have := ok.l5
  exact vs_methV e0 t.ob tfs_leaving (va1 e1) fun Q' k => ⟨p, H0, n, L, sc, cs, S, c, rfl, ht, ok.bn, by omega, by omega, fun r hr H' s => k _ _ s (.inl ⟨r, rfl, hr⟩), fun h H' s => k _ _ s (.inr ⟨rfl, h⟩)⟩
/-- an exchange -/
theorem st_exch (T : Txt K mg) {tr tc : TE} {c : Nat} {Q : VK} {Pr : Nat → Prop} (ht : TabAt T.C H0 H p n L sc cs S) (bn : Bnd n L S) (d0 : 0 < S.d) (h11 : n ≤ 11) (h5 : L ≤ 5) (hc : c < n + L) (e0 : Val (tVar 0) σ H (.ref p))
    (e1 : VS tr σ H (fun u H' => ∃ r : Nat, u = .int (r : Int) ∧ r < L ∧ Pr r)) (e2 : ∀ H', Same H H' → Val tc σ H' (.int (c : Int))) (q : ∀ r, Pr r → ∀ H', TabAt T.C H0 H' p n L sc cs (Mx.exch S r c) → Q .non H') :
    tMeth T.C "exchange" (spExchange T.C) [] E0 (tVar 0) (tCons tr (tCons tc tNil)) σ H Q := by
  obtain ⟨dx, vsc, vrw, vco, vga, bp, t⟩ := id ht
  refine e0 _ ⟨p, dx, _, rfl, t.ob, tfs_exchange, ?_⟩
  refine e1 _ fun u H1 s1 ⟨r, e, hr, hx⟩ => ?_
  subst e
  refine e2 H1 s1 _ ?_
  exact ⟨p, H0, n, L, sc, cs, S, r, c, rfl, ht.to s1, bn, d0, hr, hc, by omega, by omega, q r hx⟩
theorem as_neZ {ta tb : TE} {x : Int} (h : Val ta σ H (.int x)) (g : Val tb σ H (.int 0)) : AS (tTest (tOp rNe ta tb)) σ H (decide (x ≠ 0)) := as_test (vsv (v_ne h g rfl) (by
  rw [show decide (V.int x = V.int 0) = decide (x = 0) from decide_eq_decide.mpr ⟨fun h => by injection h, fun h => by rw [h]⟩]
  by_cases z : x = 0 <;> simp [z]))
def spReach (C : Addr) : Sp := fun vs H Q _ => ∃ p H0 n L sc cs S A, vs = [.ref p] ∧ TabAt C H0 H p n L sc cs S ∧ Tok n L A S ∧
  ∀ S' H', TabAt C H0 H' p n L sc cs S' → Tok n L A S' → ((S'.R (L + 1) (n + L) ≠ 0 ∧ ∀ j, j < n → 0 ≤ S'.R (L + 1) j) ∨ (S'.R (L + 1) (n + L) = 0 ∧ Art n L S')) → Q .non H'
theorem rea_gap (g : Gd n L A S) (lp : Lp n L A) (h : Rea n L S) : S.R (L + 1) (n + L) = 0 := by
  have e := g.gap lp (j := n + L) (.inr rfl)
  rw [e, Mx.sm_zero fun k hk => ?_]
  · rfl
  · by_cases z : n ≤ S.B k
    · rw [if_pos z]; exact h k hk z
    · rw [if_neg z]
theorem sc_T_reach : FnScope ["self", "c", "r", "others"] ["self"] (defScope s_T_reach) := ⟨rfl, rfl, rfl, by decide +kernel, rfl, by decide +kernel, by decide +kernel⟩
theorem ok_T_reach (T : Txt K mg) : FnOk P w K mg base CX0 3 T.T_reach.f T.T_reach.fd ["self"] (spReach T.C) := by
  refine T.T_reach.F.ok sc_T_reach (fun vs H Q E h => ?_) (fun cdv A outer s H vs Q E hr h => ?_)
  · obtain ⟨_, _, _, _, _, _, _, _, rfl, _⟩ := h; rfl
  · obtain ⟨p, H0, n, L, sc, cs, S, A', rfl, ht, ok, q⟩ := h
    have n11 := ok.n11
    have l5 := ok.l5
    refine ⟨_, (PSs.nox (pss_cons (ps_set (i := 1) sc_T_reach.nd rfl (.inl rfl) (pmeth T.T_helping T.cl (ok_T_helping T) (hr.mono (by decide)) (pv 0) (pa_cons (pe_fldK K (pv 0) rfl) pa_nil))) (pss_cons (ps_while PassesOwn.never (pt_cmpR op_notN (pv 1) pe_non (nomark _)) (pss_cons (ps_expr (pmeth T.T_exchange T.cl (ok_T_exchange T) (hr.mono (by decide)) (pv 0) (pa_cons (pmeth T.T_leaving T.cl (ok_T_leaving T) (hr.mono (by decide)) (pv 0) (pa_cons (pv 1) pa_nil)) (pa_cons (pv 1) pa_nil)))) (pss_one (ps_set (i := 1) sc_T_reach.nd rfl (.inl rfl) (pmeth T.T_helping T.cl (ok_T_helping T) (hr.mono (by decide)) (pv 0) (pa_cons (pe_fldK K (pv 0) rfl) pa_nil)))))) (pss_cons (ps_if (pt_not (pt_val (pmeth0 T.T_is_reached T.cl (ok_T_is_reached T) (hr.mono (by decide)) (pv 0)))) (pss_one ps_retN) pss_nil) (pss_one (ps_for PassesOwn.never rfl (pi_range1 rfl T.b_range (pa_cons (pe_fldK K (pv 0) rfl) pa_nil)) (pg_name (i := 2) sc_T_reach.nd rfl (.inr rfl)) (pss_one (ps_if (PW.pt (pw_and (pt_cmpR op_ge (pe_ix (ix_listK K) (pe_fldK K (pv 0) rfl) (pv 2) (fun _ _ => rfl)) (pe_fldK K (pv 0) rfl) (nomark _)) (pw_and1 (pt_cmpR op_eq (pe_ix (ix_listK K) (pe_ix (ix_listK K) (pe_fldK K (pv 0) rfl) (pv 2) (fun _ _ => rfl)) (pe_un un_neg pe_int) (fun _ _ => rfl)) pe_int (nomark _))))) (pss_cons (ps_setLc (i := 3) (own := [("c", 1)]) (g := (gName 1)) rfl sc_T_reach.nd rfl rfl (sw_true rfl rfl rfl (by decide +kernel)) (pi_range1 rfl T.b_range (pa_cons (pe_fldK K (pv 0) rfl) pa_nil)) (blkOk_by (N := ["self", "c", "r", "others"]) (sc := defScope s_T_reach) (by decide +kernel)) (fun _ _ _ _ _ => (pg_name (i := 1) sc_T_reach.nd rfl (.inl rfl))) (fun _ _ _ _ _ => pts_one (pt_cmpR op_ne (pe_ix (ix_listK K) (pe_ix (ix_listK K) (pe_fldK K (pv 0) rfl) (pv 2) (fun _ _ => rfl)) (pv 1) (fun _ _ => rfl)) pe_int (nomark _))) (fun _ _ _ _ _ => (pv 1))) (pss_one (ps_if (pt_cmpR (op_neDK K hr.units) (pv 3) (pe_lst pa_nil) (nomark _)) (pss_one (ps_expr (pmeth T.T_exchange T.cl (ok_T_exchange T) (hr.mono (by decide)) (pv 0) (pa_cons (pv 2) (pa_cons (pe_ix (ix_listK K) (pv 3) pe_int (fun _ _ => rfl)) pa_nil))))) pss_nil))) pss_nil)))))))), ?_⟩
    obtain ⟨vg, hvg, hlg⟩ := val_gaps (σ := L2.start ["self", "c", "r", "others"] [.ref p]) T ht (val_var rfl)
    refine st_seq (st_set' (vs_help T ht n11 (val_var rfl) hvg hlg) fun u H1 s1 hu => ?_)
    dsimp only
    have ht1 := ht.to s1
    refine st_seq ?_
    refine st_whileB (fun m σ H => ∃ S c, σ = [some (.ref p), some (.int ((c : Nat) : Int)), none, none] ∧ TabAt T.C H0 H p n L sc cs S ∧ Tok n L A' S ∧ Ends n L (L + 1) m S ∧ c < n ∧ Fst (L + 1) S c)
      (fun σ H => ∃ S, σ = [some (.ref p), some .non, none, none] ∧ TabAt T.C H0 H p n L sc cs S ∧ Tok n L A' S ∧ ∀ c, c < n → 0 ≤ S.R (L + 1) c) ?_ ?_ ?_ ?_ ?_
    · rcases hu with ⟨c, rfl, hc, h1, h2⟩ | ⟨rfl, h⟩
      · obtain ⟨k, hk⟩ := Mx.ends ok.lp (.inr rfl) ok.gd ok.fe
        exact .inl ⟨k, S, c, rfl, ht1, ok, hk, hc, h1, h2⟩
      · exact .inr ⟨S, rfl, ht1, ok, h⟩
    · rintro m σ H ⟨S, c, rfl, _⟩
      exact ans_notN (val_var rfl) rfl
    · rintro σ H ⟨S, rfl, _⟩
      exact ans_notN (val_var rfl) rfl
    · rintro σ2 H2 ⟨S2, rfl, ht2, ok2, hge⟩
      dsimp only
      obtain ⟨dx, vsc, vrw, vco, vga, bp, t2⟩ := id ht2
      have hrd : AS (tNot (tB (tMeth T.C "is_reached" (spReached T.C) [] E0 (tVar 0) tNil))) [some (.ref p), some .non, none, none] H2 (!decide (S2.R (L + 1) (n + L) = 0)) :=
        as_not (as_val (vs_methV (val_var rfl) t2.ob tfs_reached va_nil fun Q' k => ⟨p, H0, n, L, sc, cs, S2, rfl, ht2, k _ _ (Same.refl _) rfl⟩))
      by_cases hz : S2.R (L + 1) (n + L) = 0
      · refine st_seq (st_no' (hrd.to (by rw [decide_eq_true hz]; rfl)) fun H3 s3 => st_next ?_)
        dsimp only
        have ht3 := ht2.to s3
        have hrea := Mx.reached_of ok2.gd ok2.lp ok2.fe hz
        obtain ⟨dx, vsc, vrw, vco, vga, bp, t3⟩ := id ht3
        refine val_fld (val_var rfl) t3.ob T.cl T.n_levels tfs_levels _ ⟨_, rfl, by omega, by omega, ?_⟩
        refine for_it (walk_range (lo := 0)) (fun i σ H => ∃ S z1 z2, σ = [some (.ref p), some .non, z1, z2] ∧ TabAt T.C H0 H p n L sc cs S ∧ Tok n L A' S ∧ Rea n L S ∧ ∀ k, k < i → n ≤ S.B k → ∀ c, c < n → S.R k c = 0) ⟨S2, none, none, rfl, ht3, ok2, hrea, fun k hk => absurd hk (Nat.not_lt_zero _)⟩ (fun _ _ _ _ _ => trivial) ?_ ?_
        · rintro r v σ4 H4 H5 hr ⟨S4, z1, z2, rfl, ht4, ok4, rea4, h4⟩ y
          obtain ⟨rfl, ev⟩ := y
          have hrL : r < L := by omega
          have ev : v = .int (r : Int) := by
            have e : v = V.int (0 + (r : Int)) := ev
            rw [e, Int.zero_add]
          subst ev
          show tIfS _ _ _ _ [some (.ref p), some .non, some (.int (r : Int)), z2] _
          obtain ⟨dx, vsc, vrw, vco, vga, bp, t4⟩ := id ht4
          have hb1 : AS (tTest (tOp (rI0 fun i j => .bl (decide (j ≤ i))) (tOp (rIxL K) (tFld K (tVar 0) "basis") (tVar 2)) (tFld K (tVar 0) "many"))) [some (.ref p), some .non, some (.int (r : Int)), z2] H5 (decide (n ≤ S4.B r)) :=
            as_test (vsv (vcmp (f := fun i j => decide (j ≤ i)) (ixI (val_fld (val_var rfl) t4.ob T.cl T.n_basis tfs_basis) (val_var rfl) t4.hba.iL (rowL_get hrL)) (val_fld (val_var rfl) t4.ob T.cl T.n_many tfs_many)) (by
              rw [show decide (((n : Nat) : Int) ≤ ((S4.B r : Nat) : Int)) = decide (n ≤ S4.B r) from decide_eq_decide.mpr (by omega)]))
          by_cases hart : n ≤ S4.B r
          · have h0 := rea4 r hrL hart
            have hb2 : ∀ H6, Same H5 H6 → AS (tTest (tOp rEq (tOp (rIxL K) (tOp (rIxL K) (tFld K (tVar 0) "rows") (tVar 2)) (tUn (rU fun i => .int (-i)) (tC (.int 1)))) (tC (.int 0)))) [some (.ref p), some .non, some (.int (r : Int)), z2] H6 true := fun H6 s6 => by
              have t5 := t4.to s6
              obtain ⟨u, hu, hru⟩ := ixR (K := K) (σ := [some (.ref p), some .non, some (.int (r : Int)), z2]) (val_fld (val_var (i := 0) rfl) t5.ob T.cl T.n_rows tfs_rows) (val_var (i := 2) rfl) t5.hrw (rowsL_get hrL)
              exact as_test (vsv (v_eq (ixI1 hu (fun Q' k' => ⟨_, rfl, k'⟩) hru.il) val_c rfl) (by
                rw [h0]; rfl))
            refine st_yes' ((as_and hb1 fun _ H6 s6 => hb2 H6 s6).to (by rw [decide_eq_true hart]; rfl)) fun H6 s6 => ?_
            have ht6 := ht4.to s6
            obtain ⟨dx6, vsc6, vrw6, vco6, vga6, bp6, t6⟩ := id ht6
            refine st_seq (st_set' (R := NewL iI H6 ((((ups 0 n).filter fun c => decide (S4.R r c.toNat ≠ 0))).map fun c => c)) (vs_lcNF (R := iI) (Z := iI) robI mI (fun c => c) (fun c => decide (S4.R r c.toNat ≠ 0)) (ws_range1 (va1 (val_fld (val_var rfl) t6.ob T.cl T.n_many tfs_many)) (by omega) (by omega)) (by rw [ups_len]; exact sizeLine_ge (by omega)) (fun _ => rfl) (fun c vc H7 hm s7 hc C' k => ?_) (fun c vc H1 hm s1 hc _ => VS.el (vsv (val_var rfl) hc)) mI) fun u H7 s7 hu => ?_)
            · unfold ups at hm
              obtain ⟨i, hi, e⟩ := List.mem_map.mp hm
              have hi := List.mem_range.mp hi
              have e : c = (i : Int) := by rw [← e]; omega
              subst e
              have hc : vc = .int (i : Int) := hc
              subst hc
              have t7 := t6.to s7
              obtain ⟨u, hu, hru⟩ := ixR (K := K) (σ := [some (.ref p), some (.int (i : Int)), some (.int (r : Int)), z2]) (val_fld (val_var (i := 0) rfl) t7.ob T.cl T.n_rows tfs_rows) (val_var (i := 2) rfl) t7.hrw (rowsL_get hrL)
              exact as_neZ (ixI hu (val_var (i := 1) rfl) hru.il (rowL_get (show i < n + L + 1 by omega))) val_c C' k
            · obtain ⟨a, rfl, ha, hn1⟩ := hu
              rw [List.map_id'] at hn1
              dsimp only
              have ht7 := ht6.to s7
              rcases ups_first (n := n) (q := fun c => decide (S4.R r c.toNat ≠ 0)) with ⟨g1, g2⟩ | ⟨c, hc, g1, g2, g3⟩
              · rw [g1] at hn1
                refine st_no' (as_neL (val_var rfl) hn1.iL rfl) fun H8 s8 => st_next ?_
                refine ⟨S4, _, _, rfl, ht7.to s8, ok4, rea4, fun k hk hb c hc => ?_⟩
                by_cases z : k = r
                · subst z
                  have := of_decide_eq_false (g2 c hc)
                  simp only [Int.toNat_natCast] at this
                  omega
                · exact h4 k (by omega) hb c hc
              · refine st_yes' (as_neL (val_var rfl) hn1.iL (by
                  rw [decide_eq_false fun z => by rw [z] at g3; simp at g3]; rfl)) fun H8 s8 => ?_
                have hp : S4.R r c ≠ 0 := by simpa using g1
                refine st_exch (σ := [some (.ref p), some .non, some (.int (r : Int)), some (.ref a)]) (Pr := fun r' => r' = r) T (ht7.to s8) ok4.bn ok4.gd.dpos n11 l5 (show c < n + L by omega) (val_var rfl) (vsv (val_var rfl) ⟨r, rfl, hrL, rfl⟩) (fun H9 s9 => ixI (i := 0) (val_var rfl) val_c ((mL mI).to (s8.trans s9) hn1.iL) g3) fun r' e H9 ht9 => ?_
                subst e
                obtain ⟨d1, d2, d3⟩ := Mx.drive ok4.gd ok4.fe rea4 hrL hart hc hp
                refine ⟨_, _, _, rfl, ht9, ⟨ok4.lp, ok4.gd.exchd hrL (by omega) hp, d1, n11, l5, ok4.sm⟩, d2, fun k hk hb c' hc' => ?_⟩
                by_cases z : k = r'
                · subst z
                  have : (Mx.exch S4 k c).B k = c := Mx.up_same
                  omega
                · have e2 : (Mx.exch S4 r' c).B k = S4.B k := Mx.up_ne z
                  rw [e2] at hb
                  exact d3 k (by omega) hb (h4 k (by omega) hb) c' hc'
          · refine st_no' (fun Q' k => hb1 _ fun H6 s6 => ?_) fun H6 s6 => st_next ?_
            · rw [decide_eq_false hart]
              exact iteF (k H6 s6)
            · refine ⟨S4, _, _, rfl, ht4.to s6, ok4, rea4, fun k hk hb c hc => ?_⟩
              by_cases z : k = r
              · subst z; exact absurd hb hart
              · exact h4 k (by omega) hb c hc
        · rintro σ4 H4 ⟨S4, z1, z2, rfl, ht4, ok4, rea4, h4⟩
          exact q S4 H4 ht4 ok4 (.inr ⟨rea_gap ok4.gd ok4.lp rea4, fun k hk hb => ⟨h4 k (by omega) hb, rea4 k hk hb⟩⟩)
      · refine st_seq (st_yes' (hrd.to (by rw [decide_eq_false hz]; rfl)) fun H3 s3 => ?_)
        exact q S2 H3 (ht2.to s3) ok2 (.inl ⟨hz, hge⟩)
    · rintro N m σ2 H2 ⟨S2, c, rfl, ht2, ok2, hends, hc, hf⟩ hW hB
      refine st_seq ?_
      obtain ⟨k0, hk0, hk1⟩ := Mx.gap_leaves ok2.gd ok2.lp hc hf.1
      refine st_exch (Pr := fun r => Leave n L S2 c r) T ht2 ok2.bn ok2.gd.dpos n11 l5 (by omega) (val_var rfl) (VS.imp (vs_leave T ht2 ok2 hc (val_var rfl) (val_var rfl)) fun u H3 s3 hu => ?_) (fun _ _ => val_var rfl) fun r hr H3 ht3 => ?_
      · rcases hu with ⟨r, e, hr⟩ | ⟨_, h⟩
        · exact ⟨r, e, hr.lt, hr⟩
        · have := h k0 hk0; omega
      · have ok3 := ok2.next hc hr
        obtain ⟨vg, hvg, hlg⟩ := val_gaps (σ := [some (.ref p), some (.int ((c : Nat) : Int)), none, none]) T ht3 (val_var rfl)
        dsimp only
        refine st_set' (vs_help T ht3 n11 (val_var rfl) hvg hlg) fun u H4 s4 hu => ?_
        rcases hu with ⟨c', rfl, hc', h1, h2⟩ | ⟨rfl, h⟩
        · cases m with
          | zero => exact absurd hr (hends c r hc hf)
          | succ m => exact hW m _ _ (by omega) ⟨_, c', rfl, ht3.to s4, ok3, hends c r hc hf hr, hc', h1, h2⟩
        · exact hB _ _ ⟨_, rfl, ht3.to s4, ok3, h⟩
end
end K19
namespace K19
open PySem PySem.Spec L2
open Mx (Lp Gd Feas Fst Leave Ends Rea Art)
/-! ### lists that are put together -/
section
variable {K : PySem.W.Frag} {α : Type} {R : Rp α} {σ : L2.St} {H : Hp} {ta tb : TE}
abbrev iN (R : Rp α) : Rp (List α) := fun H v xs => ∃ a, v = .ref a ∧ nL R H a xs
theorem mN (m : Mon R) : Mon (iN R) := ⟨fun e ⟨a, h, vs, h1, h2⟩ => ⟨a, h, vs, e _ _ h1, paired_mono m e h2⟩⟩
theorem vs_cat {xs ys : List α} (m : Mon R) (h : VS ta σ H (fun v H' => iN R H' v xs)) (g : ∀ H', Same H H' → VS tb σ H' (fun v H2 => iN R H2 v ys)) (hl : xs.length + ys.length ≤ sizeLine) : VS (tOp rCat ta tb) σ H (NewL R H (xs ++ ys)) := fun Q k =>
  h _ fun v H1 s1 ⟨a, e, vs, h1, h2⟩ => g H1 s1 _ fun u H2 s2 ⟨b, e2, ws, g1, g2⟩ => by
    subst e e2
    refine ⟨a, b, vs, ws, rfl, rfl, s2 _ _ h1, g1, by rw [plen h2, plen g2]; exact hl, fun p hp => ?_⟩
    exact k _ _ ((s1.trans s2).trans (same_new hp)) ⟨p, rfl, (s1.trans s2).free hp, vs ++ ws, upd_same, papp (paired_mono m (s2.trans (same_new hp)) h2) (paired_mono m (same_new hp) g2)⟩
theorem prep {x : α} {v : V} (h : R H v x) : ∀ n : Nat, Paired (R H) (List.replicate n v) (List.replicate n x)
  | 0 => .nil
  | n + 1 => .cons h (prep h n)
theorem flat1 {α : Type} {v : α} : ∀ n : Nat, (List.replicate n [v]).flatten = List.replicate n v
  | 0 => rfl
  | n + 1 => by rw [List.replicate_succ, List.flatten_cons, flat1 n]; rfl
/-- [x] * n -/
theorem vs_rep {x : α} {n : Nat} (m : Mon R) (h : VS ta σ H (fun v H' => R H' v x)) (g : ∀ H', Same H H' → Val tb σ H' (.int (n : Int))) (hl : n ≤ 1000) : VS (tOp rRep (tLst (tCons ta tNil)) tb) σ H (NewL R H (List.replicate n x)) := fun Q k =>
  h _ fun v H1 s1 hv => ⟨by show 1 ≤ sizeLine; decide, fun a ha => g _ (s1.trans (same_new ha)) _ ⟨a, (n : Int), [v], rfl, rfl, upd_same, by omega, by omega, by simp only [Int.toNat_natCast, List.length_singleton, Nat.one_mul]; exact sizeLine_ge hl, fun p hp => by
    have s2 := (s1.trans (same_new ha)).trans (same_new (o := .lst (List.replicate n v)) hp)
    have f := (s1.trans (same_new ha)).free hp
    have e : (List.replicate ((n : Int)).toNat [v]).flatten = List.replicate n v := by rw [Int.toNat_natCast, flat1]
    rw [e]
    refine k _ _ s2 ⟨p, rfl, f, _, upd_same, ?_⟩
    exact prep (m.to ((same_new ha).trans (same_new hp)) hv) n⟩⟩
end
/-! ### loops that change lists -/
def WSG {α : Type} (wi : TI) (σ : L2.St) (H : Hp) (R : Rp α) (xs : List α) (G : Hp → Prop) : Prop := ∀ Rr : It → Hp → Prop, (∀ J H1, Same H H1 → Walk J xs.length G (YR R xs) → Rr J H1) → wi σ H Rr
theorem st_forG {α : Type} {R : Rp α} {wi : TI} {g : TG} {tb : TS} {D : L2.Ends} {σ : L2.St} {H : Hp} {xs : List α} {G : Hp → Prop} (Pv : Nat → L2.St → Hp → Prop) (w : WSG wi σ H R xs G) (h0 : ∀ H1, Same H H1 → Pv 0 σ H1) (hG : ∀ i σ1 H1, Pv i σ1 H1 → G H1)
    (hs : ∀ i x v σ1 H1 H2, xs[i]? = some x → Pv i σ1 H1 → Same H1 H2 → R H2 v x → g v σ1 H2 fun σ2 H3 => tb { D with nx := Pv (i + 1), ct := Pv (i + 1), bk := D.nx } σ2 H3) (hd : ∀ σ1 H1, Pv xs.length σ1 H1 → D.nx σ1 H1) : tFor wi g tb D σ H :=
  w _ fun J H1 s tw => for_it tw Pv (h0 H1 s) (fun i σ1 H1 _ p => hG i σ1 H1 p) (fun i v σ1 H1 H2 hi p y => by
    obtain ⟨s2, x, hx, hr⟩ := y
    exact hs i x v σ1 H1 H2 hx p s2 hr) hd
theorem wsg_zip {K : PySem.W.Frag} {α β : Type} {R : Rp α} {S : Rp β} (mR : Mon R) (mS : Mon S) {k1 k2 : Bool} {t : TA} {σ : L2.St} {H0 H : Hp} {v w : V} {xs : List α} {ys : List β} (h : ValA t σ H [v, w]) (s : Same H0 H) (hv : iSq K k1 R H0 v xs) (hw : iSq K k2 S H0 w ys) : WSG (iZipM K k1 k2 t) σ H (iP K R S) (xs.zip ys) (Same H0) := fun Rr k => by
  obtain ⟨a, vs, rfl, q1, p1⟩ := hv.out
  obtain ⟨b, ws, rfl, q2, p2⟩ := hw.out
  exact h _ ⟨a, b, vs, ws, rfl, q1.same s, q2.same s, k _ _ (Same.refl _) (tw_zip mR mS q1 q2 p1 p2)⟩
def rowQ (N : Nat) (f : Nat → Rat) : List Rat := (List.range N).map f
theorem rowQ_len {N : Nat} {f : Nat → Rat} : (rowQ N f).length = N := by unfold rowQ; simp
theorem rowQ_get {N i : Nat} {f : Nat → Rat} (h : i < N) : (rowQ N f)[i]? = some (f i) := by unfold rowQ; simp [h]
theorem rowQ_congr {N : Nat} {f g : Nat → Rat} (h : ∀ i, i < N → f i = g i) : rowQ N f = rowQ N g := List.map_congr_left fun i hi => h i (List.mem_range.mp hi)
theorem rowQ_rep {N : Nat} {x : Rat} : List.replicate N x = rowQ N fun _ => x := by unfold rowQ; rw [List.map_const', List.length_range]
theorem rowQ_set {N r : Nat} {f : Nat → Rat} {x : Rat} : (rowQ N f).set r x = rowQ N (Mx.up f r x) := by
  refine List.ext_getElem? fun i => ?_
  unfold rowQ
  rw [List.getElem?_set]
  by_cases hi : i < N
  · by_cases e : r = i
    · subst e
      simp [hi, Mx.up]
    · simp [hi, e, Mx.up, Ne.symm e]
  · by_cases e : r = i
    · subst e; simp [hi]
    · simp [hi, e]
/-- a list's item set -/
theorem st_put {α : Type} {R : Rp α} (rb : Rob noNE R) (mR : Mon R) {te to ti : TE} {σ : L2.St} {H : Hp} {D : L2.Ends} {a : Addr} {xs : List α} {i : Nat} {x : α} (h : VS te σ H (fun v H' => R H' v x)) (ho : ∀ H', Same H H' → Val to σ H' (.ref a)) (hi : ∀ H', Same H H' → Val ti σ H' (.int (i : Int)))
    (hn : nL R H a xs) (hl : i < xs.length) (q : ∀ H' vs', Same H H' → nL R (upd H' a (.lst vs')) a (xs.set i x) → D.nx σ (upd H' a (.lst vs'))) : tAsg te (gSub to ti rSetL) D σ H := by
  refine h _ fun v H1 s1 hv => ho H1 s1 _ (hi H1 s1 _ ?_)
  obtain ⟨vs, h1, h2⟩ := hn
  refine ⟨a, vs, (i : Int), i, rfl, rfl, s1 _ _ h1, ixN_at (by rw [plen h2]; exact hl), q H1 (vs.set i v) s1 ⟨_, upd_same, ?_⟩⟩
  exact pset (rb.to (s1 _ _ h1) trivial hv) i (Paired.mapP (paired_mono mR s1 h2) fun _ _ r => rb.to (s1 _ _ h1) trivial r)
/-! ### the methods that read -/
section
variable {P : Program} {w : World} {K : PySem.W.Frag} {mg : Str → Option Value} {base : Heap}
def spImprove (C : Addr) : Sp := fun vs H Q _ => ∃ p H0 n L sc cs S A, vs = [.ref p] ∧ TabAt C H0 H p n L sc cs S ∧ Tok n L A S ∧ Art n L S ∧
  (∀ S' H', TabAt C H0 H' p n L sc cs S' → Tok n L A S' → Art n L S' → (∀ j, j < n → 0 ≤ S'.R L j) → Q .non H') ∧
  ∀ S' H' (c : Nat), TabAt C H0 H' p n L sc cs S' → Tok n L A S' → Art n L S' → c < n → S'.R L c < 0 → (∀ k, k < L → S'.R k c ≤ 0) → Q (.int (c : Int)) H'
theorem sc_T_improve : FnScope ["self", "c", "r"] ["self"] (defScope s_T_improve) := ⟨rfl, rfl, rfl, by decide +kernel, rfl, by decide +kernel, by decide +kernel⟩
theorem ok_T_improve (T : Txt K mg) : FnOk P w K mg base CX0 3 T.T_improve.f T.T_improve.fd ["self"] (spImprove T.C) := by
  refine T.T_improve.F.ok sc_T_improve (fun vs H Q E h => ?_) (fun cdv A outer s H vs Q E hr h => ?_)
  · obtain ⟨_, _, _, _, _, _, _, _, rfl, _⟩ := h; rfl
  · obtain ⟨p, H0, n, L, sc, cs, S, A', rfl, ht, ok, ar, q1, q2⟩ := h
    have n11 := ok.n11
    have l5 := ok.l5
    refine ⟨_, (PSs.nox (pss_cons (ps_set (i := 1) sc_T_improve.nd rfl (.inl rfl) (pmeth T.T_helping T.cl (ok_T_helping T) (hr.mono (by decide)) (pv 0) (pa_cons (pe_fldK K (pv 0) rfl) pa_nil))) (pss_cons (ps_while PassesOwn.never (pt_cmpR op_notN (pv 1) pe_non (nomark _)) (pss_cons (ps_set (i := 2) sc_T_improve.nd rfl (.inl rfl) (pmeth T.T_leaving T.cl (ok_T_leaving T) (hr.mono (by decide)) (pv 0) (pa_cons (pv 1) pa_nil))) (pss_cons (ps_if (pt_cmpR op_isN (pv 2) pe_non (nomark _)) (pss_one (ps_ret (pv 1))) pss_nil) (pss_cons (ps_expr (pmeth T.T_exchange T.cl (ok_T_exchange T) (hr.mono (by decide)) (pv 0) (pa_cons (pv 2) (pa_cons (pv 1) pa_nil)))) (pss_one (ps_set (i := 1) sc_T_improve.nd rfl (.inl rfl) (pmeth T.T_helping T.cl (ok_T_helping T) (hr.mono (by decide)) (pv 0) (pa_cons (pe_fldK K (pv 0) rfl) pa_nil)))))))) (pss_one (ps_ret pe_non))))), ?_⟩
    obtain ⟨vg, hvg, hlg⟩ := val_costs (σ := L2.start ["self", "c", "r"] [.ref p]) T ht (val_var rfl)
    refine st_seq (st_set' (vs_help T ht n11 (val_var rfl) hvg hlg) fun u H1 s1 hu => ?_)
    dsimp only
    have ht1 := ht.to s1
    refine st_seq ?_
    refine st_whileB (fun m σ H => ∃ S z, ∃ c : Nat, σ = [some (.ref p), some (.int (c : Int)), z] ∧ TabAt T.C H0 H p n L sc cs S ∧ Tok n L A' S ∧ Art n L S ∧ Ends n L L m S ∧ c < n ∧ Fst L S c)
      (fun σ H => ∃ S z, σ = [some (.ref p), some .non, z] ∧ TabAt T.C H0 H p n L sc cs S ∧ Tok n L A' S ∧ Art n L S ∧ ∀ c, c < n → 0 ≤ S.R L c) ?_ ?_ ?_ ?_ ?_
    · rcases hu with ⟨c, rfl, hc, h1, h2⟩ | ⟨rfl, h⟩
      · obtain ⟨k, hk⟩ := Mx.ends ok.lp (.inl rfl) ok.gd ok.fe
        exact .inl ⟨k, S, none, c, rfl, ht1, ok, ar, hk, hc, h1, h2⟩
      · exact .inr ⟨S, none, rfl, ht1, ok, ar, h⟩
    · rintro m σ H ⟨S, z, c, rfl, _⟩
      exact ans_notN (val_var rfl) rfl
    · rintro σ H ⟨S, z, rfl, _⟩
      exact ans_notN (val_var rfl) rfl
    · rintro σ2 H2 ⟨S2, z, rfl, ht2, ok2, ar2, hge⟩
      dsimp only
      exact st_ret val_c (q1 S2 H2 ht2 ok2 ar2 hge)
    · rintro N m σ2 H2 ⟨S2, z, c, rfl, ht2, ok2, ar2, hends, hc, hf⟩ hW hB
      refine st_seq (st_set' (vs_leave T ht2 ok2 hc (val_var rfl) (val_var rfl)) fun u H3 s3 hu => ?_)
      dsimp only
      have ht3 := ht2.to s3
      rcases hu with ⟨r, rfl, hr⟩ | ⟨rfl, hno⟩
      · refine st_seq (st_no (ans_isN (val_var rfl) rfl) (st_next ?_))
        refine st_seq ?_
        refine st_exch (σ := [some (.ref p), some (.int (c : Int)), some (.int (r : Int))]) (Pr := fun r' => r' = r) T ht3 ok2.bn ok2.gd.dpos n11 l5 (show c < n + L by omega) (val_var rfl) (vsv (val_var rfl) ⟨r, rfl, hr.lt, rfl⟩) (fun _ _ => val_var rfl) fun r' e H4 ht4 => ?_
        subst e
        have ok4 := ok2.next hc hr
        have ar4 := Mx.art_exch ok2.gd ar2 hc hr
        obtain ⟨vg, hvg, hlg⟩ := val_costs (σ := [some (.ref p), some (.int (c : Int)), some (.int (r' : Int))]) T ht4 (val_var rfl)
        dsimp only
        refine st_set' (vs_help T ht4 n11 (val_var rfl) hvg hlg) fun u H5 s5 hu => ?_
        rcases hu with ⟨c', rfl, hc', h1, h2⟩ | ⟨rfl, h⟩
        · cases m with
          | zero => exact absurd hr (hends c r' hc hf)
          | succ m => exact hW m _ _ (by omega) ⟨_, _, c', rfl, ht4.to s5, ok4, ar4, hends c r' hc hf hr, hc', h1, h2⟩
        · exact hB _ _ ⟨_, _, rfl, ht4.to s5, ok4, ar4, h⟩
      · refine st_seq (st_yes' (as_of (ans_isN (val_var rfl) rfl)) fun H4 s4 => ?_)
        exact st_ret (val_var rfl) (q2 S2 H4 c (ht3.to s4) ok2 ar2 hc hf.1 hno)
/-- the amounts so far -/
def amtI (S : Mx.St) (wv : Nat → Int) (i j : Nat) : Rat := Mx.sm i fun k => if S.B k = j then (wv k : Rat) / S.d else 0
theorem amtI_step {n L : Nat} {A : Nat → Nat → Int} {S : Mx.St} (g : Gd n L A S) {wv : Nat → Int} {i : Nat} (hi : i < L) : amtI S wv (i + 1) = Mx.up (amtI S wv i) (S.B i) ((wv i : Rat) / S.d) := by
  funext j
  unfold amtI
  rw [Mx.sm_succ]
  unfold Mx.up
  by_cases e : j = S.B i
  · subst e
    rw [if_pos rfl, if_pos rfl, Mx.sm_zero fun k hk => if_neg fun z => by have := g.inj (by omega) hi z; omega]
    grind
  · rw [if_neg (fun z => e z.symm), if_neg e]; grind
def spAmounts (K : PySem.W.Frag) (C : Addr) : Sp := fun vs H Q _ => ∃ p H0 n L sc cs S A, vs = [.ref p] ∧ TabAt C H0 H p n L sc cs S ∧ Tok n L A S ∧
  ∀ u H', Same H H' → iRow K H' u (rowQ n (Mx.amt L S fun k => S.R k (n + L))) → Q u H'
theorem divI {a d : Int} : Rat.divInt a d = (a : Rat) / (d : Rat) := Rat.divInt_eq_div _ _
theorem sc_T_amounts : FnScope ["self", "found", "row", "c"] ["self"] (defScope s_T_amounts) := ⟨rfl, rfl, rfl, by decide +kernel, rfl, by decide +kernel, by decide +kernel⟩
theorem ok_T_amounts (T : Txt K mg) : FnOk P w K mg base CX0 3 T.T_amounts.f T.T_amounts.fd ["self"] (spAmounts K T.C) := by
  refine T.T_amounts.F.ok sc_T_amounts (fun vs H Q E h => ?_) (fun cdv A outer s H vs Q E hr h => ?_)
  · obtain ⟨_, _, _, _, _, _, _, _, rfl, _⟩ := h; rfl
  · obtain ⟨p, H0, n, L, sc, cs, S, A', rfl, ht, ok, q⟩ := h
    have n11 := ok.n11
    have l5 := ok.l5
    obtain ⟨dx, vsc, vrw, vco, vga, bp, t⟩ := id ht
    refine ⟨_, (PSs.nox (pss_cons (ps_set (i := 1) sc_T_amounts.nd rfl (.inl rfl) (pe_op op_rep (pe_lst (pa_cons (pgl T.gZERO) pa_nil)) (pe_fldK K (pv 0) rfl))) (pss_cons (ps_for PassesOwn.never rfl (pi_zipK K false false rfl T.b_zip (pa_cons (pe_fldK K (pv 0) rfl) (pa_cons (pe_fldK K (pv 0) rfl) pa_nil))) (pg_tup rfl (pgs_cons (pg_name (i := 2) sc_T_amounts.nd rfl (.inl rfl)) (pgs_cons (pg_name (i := 3) sc_T_amounts.nd rfl (.inl rfl)) pgs_nil))) (pss_one (ps_if (pt_cmpR op_lt (pv 3) (pe_fldK K (pv 0) rfl) (nomark _)) (pss_one (ps_asg (pcall T.fraction (ok_fraction T) (hr.mono (by decide)) (pa_cons (pe_ix (ix_listK K) (pv 2) (pe_un un_neg pe_int) (fun _ _ => rfl)) (pa_cons (pe_fldK K (pv 0) rfl) pa_nil))) (pg_sub (pv 1) (pv 3) set_list))) pss_nil))) (pss_one (ps_ret (pe_callTy (k_tuple K) rfl T.b_tuple (by decide +kernel) (pa_cons (pv 1) pa_nil))))))), ?_⟩
    refine st_seq (st_set' (vs_rep (x := (0 : Rat)) (n := n) mQ (vsv val_c (q0 T H)) (fun H1 s1 => val_fld (val_var rfl) (t.to s1).ob T.cl T.n_many tfs_many) (by omega)) fun u H1 s1 hu => ?_)
    obtain ⟨D, rfl, hD, hn⟩ := hu
    rw [rowQ_rep] at hn
    dsimp only
    have t1 := t.to s1
    refine st_seq (st_forG (R := iP K (iLn bp iI) iI) (fun i σ H' => ∃ z1 z2, σ = [some (.ref p), some (.ref D), z1, z2] ∧ Same H H' ∧ nL (iQ K) H' D (rowQ n (amtI S (fun k => S.R k (n + L)) i))) (wsg_zip (k1 := false) (k2 := false) (mLn mI) mI (va2 (val_fld (val_var rfl) t1.ob T.cl T.n_rows tfs_rows) (val_fld (val_var rfl) t1.ob T.cl T.n_basis tfs_basis)) s1 t.hrw.il t.hba.iL) (fun H2 s2 => ⟨_, _, rfl, s1.trans s2, (let ⟨vs, h1, h2⟩ := hn; ⟨vs, s2 _ _ h1, paired_mono mQ s2 h2⟩)⟩) (fun _ _ _ h => by obtain ⟨_, _, _, h, _⟩ := h; exact h) ?_ ?_)
    · rintro i x v σ2 H2 H3 hx ⟨z1, z2, rfl, s2, hn2⟩ s3 hp
      have hi := (List.getElem?_eq_some_iff.mp hx).1
      rw [List.length_zip, rowsL_len] at hi
      have hiL : i < L := by omega
      have ex : x = (rowL (n + L + 1) (S.R i), ((S.B i : Nat) : Int)) := by
        have this : ((rowsL n L S).zip (basL L S))[i]? = some (rowL (n + L + 1) (S.R i), ((S.B i : Nat) : Int)) := List.getElem?_zip_eq_some.mpr ⟨rowsL_get hiL, rowL_get (f := fun k => ((S.B k : Nat) : Int)) hiL⟩
        have h2 : some x = some _ := hx.symm.trans this
        exact Option.some.inj h2
      subst ex
      refine g_pair hp fun vr vc hvr hvc => ?_
      have hvc : vc = .int ((S.B i : Nat) : Int) := hvc
      subst hvc
      have s23 := s2.trans s3
      have t3 := t.to s23
      have hn3 : nL (iQ K) H3 D (rowQ n (amtI S (fun k => S.R k (n + L)) i)) := let ⟨vs, h1, h2⟩ := hn2; ⟨vs, s3 _ _ h1, paired_mono mQ s3 h2⟩
      have hcond : Ans (tTest (tOp (rI0 fun i j => .bl (decide (i < j))) (tVar 3) (tFld K (tVar 0) "many"))) [some (.ref p), some (.ref D), some vr, some (.int ((S.B i : Nat) : Int))] H3 (decide (S.B i < n)) := by
        intro Q' k
        refine vcmp (f := fun a b => decide (a < b)) (val_var (i := 3) rfl) (val_fld (val_var (i := 0) rfl) t3.ob T.cl T.n_many tfs_many) _ ⟨decide (S.B i < n), ?_, k⟩
        rw [show decide (((S.B i : Nat) : Int) < ((n : Nat) : Int)) = decide (S.B i < n) from decide_eq_decide.mpr (by omega)]
      by_cases hb : S.B i < n
      · refine st_yes (hcond.to (decide_eq_true hb)) ?_
        refine st_put (x := ((S.R i (n + L) : Int) : Rat) / S.d) (i := S.B i) robQ mQ (vs_call (va2 (ixI1 (val_var rfl) (fun Q' k' => ⟨_, rfl, k'⟩) hvr.il) (val_fld (val_var rfl) t3.ob T.cl T.n_over tfs_over)) fun Q' k => ⟨S.R i (n + L), S.d, rfl, by have := ok.gd.dpos; omega, ok.bn.1.mono (by decide), fun v H' s hv => k v H' s ?_⟩) (fun _ _ => val_var rfl) (fun _ _ => val_var rfl) hn3 (by rw [rowQ_len]; exact hb) fun H4 vs' s4 hn4 => ?_
        · rw [← divI]; exact hv
        · refine ⟨_, _, rfl, same_put (s23.trans s4) hD, ?_⟩
          rw [rowQ_set] at hn4
          rw [amtI_step ok.gd hiL]
          exact hn4
      · refine st_no (hcond.to (decide_eq_false hb)) (st_next ?_)
        refine ⟨_, _, rfl, s23, ?_⟩
        have e : rowQ n (amtI S (fun k => S.R k (n + L)) (i + 1)) = rowQ n (amtI S (fun k => S.R k (n + L)) i) := rowQ_congr fun j hj => by
          rw [amtI_step ok.gd hiL]
          exact Mx.up_ne (by omega)
        rw [e]; exact hn3
    · rintro σ2 H2 ⟨z1, z2, rfl, s2, hn2⟩
      rw [List.length_zip, rowsL_len, show (basL L S).length = L from rowL_len, Nat.min_self] at hn2
      dsimp only
      refine st_ret' (vs_tupleL (Z := iQ K) mQ (vsv (val_var rfl) hn2.iL)) fun u H3 s3 hu => q u H3 (s2.trans s3) hu
end
end K19
namespace K19
open PySem PySem.Spec L2
open Mx (Lp Gd Feas Fst Leave Ends Rea Art)
section
variable {P : Program} {w : World} {K : PySem.W.Frag} {mg : Str → Option Value} {base : Heap}
def morI (S : Mx.St) (e i j : Nat) : Rat := if j = e then 1 else amtI S (fun k => - S.R k e) i j
theorem morI_step {n L : Nat} {A : Nat → Nat → Int} {S : Mx.St} (g : Gd n L A S) {e i : Nat} (hi : i < L) (he : S.B i ≠ e) : morI S e (i + 1) = Mx.up (morI S e i) (S.B i) (((- S.R i e : Int) : Rat) / S.d) := by
  funext j
  unfold morI
  rw [amtI_step g hi]
  unfold Mx.up
  by_cases z : j = S.B i
  · subst z; rw [if_neg he, if_pos rfl, if_pos rfl]
  · rw [if_neg z, if_neg z]
def spMore (K : PySem.W.Frag) (C : Addr) : Sp := fun vs H Q _ => ∃ p H0 n L sc cs S A, ∃ e : Nat, vs = [.ref p, .int (e : Int)] ∧ TabAt C H0 H p n L sc cs S ∧ Tok n L A S ∧ e < n ∧ (∀ k, k < L → S.B k ≠ e) ∧
  ∀ u H', Same H H' → iRow K H' u (rowQ n (Mx.mor L S e)) → Q u H'
theorem sc_T_more : FnScope ["self", "c", "found", "row", "other"] ["self", "c"] (defScope s_T_more) := ⟨rfl, rfl, rfl, by decide +kernel, rfl, by decide +kernel, by decide +kernel⟩
theorem ok_T_more (T : Txt K mg) : FnOk P w K mg base CX0 3 T.T_more.f T.T_more.fd ["self", "c"] (spMore K T.C) := by
  refine T.T_more.F.ok sc_T_more (fun vs H Q E h => ?_) (fun cdv A outer s H vs Q E hr h => ?_)
  · obtain ⟨_, _, _, _, _, _, _, _, _, rfl, _⟩ := h; rfl
  · obtain ⟨p, H0, n, L, sc, cs, S, A', e, rfl, ht, ok, he, hbe, q⟩ := h
    have n11 := ok.n11
    have l5 := ok.l5
    obtain ⟨dx, vsc, vrw, vco, vga, bp, t⟩ := id ht
    refine ⟨_, (PSs.nox (pss_cons (ps_set (i := 2) sc_T_more.nd rfl (.inl rfl) (pe_op op_rep (pe_lst (pa_cons (pgl T.gZERO) pa_nil)) (pe_fldK K (pv 0) rfl))) (pss_cons (ps_asg (pe_tup (pa_cons pe_int (pa_cons pe_int pa_nil))) (pg_sub (pv 2) (pv 1) set_list)) (pss_cons (ps_for PassesOwn.never rfl (pi_zipK K false false rfl T.b_zip (pa_cons (pe_fldK K (pv 0) rfl) (pa_cons (pe_fldK K (pv 0) rfl) pa_nil))) (pg_tup rfl (pgs_cons (pg_name (i := 3) sc_T_more.nd rfl (.inl rfl)) (pgs_cons (pg_name (i := 4) sc_T_more.nd rfl (.inl rfl)) pgs_nil))) (pss_one (ps_if (pt_cmpR op_lt (pv 4) (pe_fldK K (pv 0) rfl) (nomark _)) (pss_one (ps_asg (pcall T.fraction (ok_fraction T) (hr.mono (by decide)) (pa_cons (pe_un un_neg (pe_ix (ix_listK K) (pv 3) (pv 1) (fun _ _ => rfl))) (pa_cons (pe_fldK K (pv 0) rfl) pa_nil))) (pg_sub (pv 2) (pv 4) set_list))) pss_nil))) (pss_one (ps_ret (pe_callTy (k_tuple K) rfl T.b_tuple (by decide +kernel) (pa_cons (pv 2) pa_nil)))))))), ?_⟩
    refine st_seq (st_set' (vs_rep (x := (0 : Rat)) (n := n) mQ (vsv val_c (q0 T H)) (fun H1 s1 => val_fld (val_var rfl) (t.to s1).ob T.cl T.n_many tfs_many) (by omega)) fun u H1 s1 hu => ?_)
    obtain ⟨D, rfl, hD, hn⟩ := hu
    rw [rowQ_rep] at hn
    dsimp only
    refine st_seq (st_put (x := (1 : Rat)) (i := e) robQ mQ (R := iQ K) ?_ (fun _ _ => val_var rfl) (fun _ _ => val_var rfl) hn (by rw [rowQ_len]; exact he) fun H2 vs2 s2 hn2 => ?_)
    · intro Q' k
      exact ⟨by show 2 ≤ sizeLine; decide, fun a ha => k _ _ (same_new ha) ⟨a, rfl, SqT.of upd_same⟩⟩
    rw [rowQ_set] at hn2
    have e0 : rowQ n (Mx.up (fun _ => (0 : Rat)) e 1) = rowQ n (morI S e 0) := rowQ_congr fun j hj => by
      unfold Mx.up morI amtI; rfl
    rw [e0] at hn2
    dsimp only
    have s02 : Same H (upd H2 D (.lst vs2)) := same_put (s1.trans s2) hD
    have t1 := t.to s02
    refine st_seq (st_forG (R := iP K (iLn bp iI) iI) (fun i σ H' => ∃ z1 z2, σ = [some (.ref p), some (.int (e : Int)), some (.ref D), z1, z2] ∧ Same H H' ∧ nL (iQ K) H' D (rowQ n (morI S e i))) (wsg_zip (k1 := false) (k2 := false) (mLn mI) mI (va2 (val_fld (val_var rfl) t1.ob T.cl T.n_rows tfs_rows) (val_fld (val_var rfl) t1.ob T.cl T.n_basis tfs_basis)) s02 t.hrw.il t.hba.iL) (fun H3 s3 => ⟨_, _, rfl, s02.trans s3, (let ⟨vs, h1, h2⟩ := hn2; ⟨vs, s3 _ _ h1, paired_mono mQ s3 h2⟩)⟩) (fun _ _ _ h => by obtain ⟨_, _, _, h, _⟩ := h; exact h) ?_ ?_)
    · rintro i x v σ2 H2 H3 hx ⟨z1, z2, rfl, s2, hn2⟩ s3 hp
      have hi := (List.getElem?_eq_some_iff.mp hx).1
      rw [List.length_zip, rowsL_len] at hi
      have hiL : i < L := by omega
      have ex : x = (rowL (n + L + 1) (S.R i), ((S.B i : Nat) : Int)) := by
        have this : ((rowsL n L S).zip (basL L S))[i]? = some (rowL (n + L + 1) (S.R i), ((S.B i : Nat) : Int)) := List.getElem?_zip_eq_some.mpr ⟨rowsL_get hiL, rowL_get (f := fun k => ((S.B k : Nat) : Int)) hiL⟩
        have h2 : some x = some _ := hx.symm.trans this
        exact Option.some.inj h2
      subst ex
      refine g_pair hp fun vr vc hvr hvc => ?_
      have hvc : vc = .int ((S.B i : Nat) : Int) := hvc
      subst hvc
      have s23 := s2.trans s3
      have t3 := t.to s23
      have hn3 : nL (iQ K) H3 D (rowQ n (morI S e i)) := let ⟨vs, h1, h2⟩ := hn2; ⟨vs, s3 _ _ h1, paired_mono mQ s3 h2⟩
      have hcond : Ans (tTest (tOp (rI0 fun i j => .bl (decide (i < j))) (tVar 4) (tFld K (tVar 0) "many"))) [some (.ref p), some (.int (e : Int)), some (.ref D), some vr, some (.int ((S.B i : Nat) : Int))] H3 (decide (S.B i < n)) := by
        intro Q' k
        refine vcmp (f := fun a b => decide (a < b)) (val_var (i := 4) rfl) (val_fld (val_var (i := 0) rfl) t3.ob T.cl T.n_many tfs_many) _ ⟨decide (S.B i < n), ?_, k⟩
        rw [show decide (((S.B i : Nat) : Int) < ((n : Nat) : Int)) = decide (S.B i < n) from decide_eq_decide.mpr (by omega)]
      by_cases hb : S.B i < n
      · refine st_yes (hcond.to (decide_eq_true hb)) ?_
        refine st_put (x := ((- S.R i e : Int) : Rat) / S.d) (i := S.B i) robQ mQ (vs_call (vs := [.int (- S.R i e), .int S.d]) (va2 (fun Q' k' => ixI (i := e) (val_var (i := 3) rfl) (val_var (i := 1) rfl) hvr.il (rowL_get (show e < n + L + 1 by omega)) _ ⟨_, rfl, k'⟩) (val_fld (val_var rfl) t3.ob T.cl T.n_over tfs_over)) fun Q' k => ⟨- S.R i e, S.d, rfl, by have := ok.gd.dpos; omega, ok.bn.1.mono (by decide), fun v H' s hv => k v H' s ?_⟩) (fun _ _ => val_var rfl) (fun _ _ => val_var rfl) hn3 (by rw [rowQ_len]; exact hb) fun H4 vs' s4 hn4 => ?_
        · rw [← divI]; exact hv
        · refine ⟨_, _, rfl, same_put (s23.trans s4) hD, ?_⟩
          rw [rowQ_set] at hn4
          rw [morI_step ok.gd hiL (hbe i hiL)]
          exact hn4
      · refine st_no (hcond.to (decide_eq_false hb)) (st_next ?_)
        refine ⟨_, _, rfl, s23, ?_⟩
        have e1 : rowQ n (morI S e (i + 1)) = rowQ n (morI S e i) := rowQ_congr fun j hj => by
          rw [morI_step ok.gd hiL (hbe i hiL)]
          exact Mx.up_ne (by omega)
        rw [e1]; exact hn3
    · rintro σ2 H2 ⟨z1, z2, rfl, s2, hn2⟩
      rw [List.length_zip, rowsL_len, show (basL L S).length = L from rowL_len, Nat.min_self] at hn2
      dsimp only
      exact st_ret' (vs_tupleL (Z := iQ K) mQ (vsv (val_var rfl) hn2.iL)) fun u H3 s3 hu => q u H3 (s2.trans s3) hu
/-- a part of a list -/
theorem vs_slice {α : Type} {R : Rp α} {ta : TE} {tl th : TE} {σ : L2.St} {H : Hp} {v : V} {xs : List α} {a b : Nat} (m : Mon R) (h : Val ta σ H v) (g1 : Val tl σ H (.int (a : Int))) (g2 : Val th σ H (.int (b : Int))) (hv : iL K R H v xs) (hab : a ≤ b) (hb : b ≤ xs.length) :
    VS (tSl (rSlL K) ta (tPart tl) (tPart th)) σ H (NewL R H ((xs.drop a).take (b - a))) := fun Q k => by
  obtain ⟨l, vs, rfl, hq, hp⟩ := hv
  refine h _ (g1 _ ⟨_, rfl, g2 _ ⟨_, rfl, l, vs, rfl, hq, fun p hf => ?_⟩⟩)
  have e : cutV vs (some (a : Int)) (some (b : Int)) = (vs.drop a).take (b - a) := by
    unfold cutV
    have hl := plen hp
    have e1 : HT.sIx vs.length 0 (some (a : Int)) = a := by rw [HT.sIx_nat]; omega
    have e2 : HT.sIx vs.length vs.length (some (b : Int)) = b := by rw [HT.sIx_nat]; omega
    rw [e1, e2]
  rw [e]
  exact k _ _ (same_new hf) ⟨p, rfl, hf, _, upd_same, paired_mono m (same_new hf) (ptake _ (pdrop _ hp))⟩
theorem rowL_cut {N a m : Nat} {f : Nat → Int} (h : a + m ≤ N) : ((rowL N f).drop a).take m = rowL m fun i => f (a + i) := by
  refine List.ext_getElem? fun i => ?_
  rw [List.getElem?_take]
  by_cases hi : i < m
  · rw [if_pos hi, List.getElem?_drop, rowL_get (by omega), rowL_get hi]
  · rw [if_neg hi]
    have hl : (rowL m fun i => f (a + i)).length ≤ i := by rw [rowL_len]; omega
    rw [List.getElem?_eq_none hl]
theorem rowL_zipQ {N : Nat} {f g : Nat → Int} {h : Int × Int → Rat} : ((rowL N f).zip (rowL N g)).map h = rowQ N fun j => h (f j, g j) := by
  unfold rowL rowQ
  rw [List.zip_map', List.map_map]
  rfl
def spPrices (K : PySem.W.Frag) (C : Addr) : Sp := fun vs H Q _ => ∃ p H0 n L s cs S A, vs = [.ref p] ∧ TabAt C H0 H p n L (rowL L s) cs S ∧ Tok n L A S ∧ 0 < cs ∧ Bd 10 cs ∧ (∀ i, i < L → Bd 10 (s i)) ∧
  ∀ u H', Same H H' → iRow K H' u (rowQ L (Mx.prc n L S s cs)) → Q u H'
theorem sc_T_prices : FnScope ["self", "units", "x", "s"] ["self"] (defScope s_T_prices) := ⟨rfl, rfl, rfl, by decide +kernel, rfl, by decide +kernel, by decide +kernel⟩
theorem ok_T_prices (T : Txt K mg) : FnOk P w K mg base CX0 3 T.T_prices.f T.T_prices.fd ["self"] (spPrices K T.C) := by
  refine T.T_prices.F.ok sc_T_prices (fun vs H Q E h => ?_) (fun cdv A outer s H vs Q E hr h => ?_)
  · obtain ⟨_, _, _, _, _, _, _, _, rfl, _⟩ := h; rfl
  · obtain ⟨p, H0, n, L, s, cs, S, A', rfl, ht, ok, cs0, bcs, bs, q⟩ := h
    have n11 := ok.n11
    have l5 := ok.l5
    have d0 := ok.gd.dpos
    have bn := ok.bn
    obtain ⟨dx, vsc, vrw, vco, vga, bp, t⟩ := id ht
    refine ⟨_, (PSs.nox (pss_cons (ps_set (i := 1) sc_T_prices.nd rfl (.inl rfl) (pe_slice (sl_listK K) (pe_fldK K (pv 0) rfl) (po_some (pe_fldK K (pv 0) rfl)) (po_some (pe_op op_add (pe_fldK K (pv 0) rfl) (pe_fldK K (pv 0) rfl))))) (pss_one (ps_ret (pe_callTy (k_tuple K) rfl T.b_tuple (by decide +kernel) (pa_cons (pe_lc (own := [("x", 2), ("s", 3)]) (g := (gTup K 2 (gCons (gName 2) (gCons (gName 3) gNil)))) (tt := tYes) rfl sc_T_prices.nd (pi_zipK K false false rfl T.b_zip (pa_cons (pv 1) (pa_cons (pe_fldK K (pv 0) rfl) pa_nil))) (blkOk_by (N := ["self", "units", "x", "s"]) (sc := defScope s_T_prices) (by decide +kernel)) (fun _ _ _ _ _ => (pg_tup rfl (pgs_cons (pg_name (i := 2) sc_T_prices.nd rfl (.inl rfl)) (pgs_cons (pg_name (i := 3) sc_T_prices.nd rfl (.inl rfl)) pgs_nil)))) (fun _ _ _ _ _ => pts_nil) (fun _ _ _ _ _ => (pcall T.fraction (ok_fraction T) (hr.mono (by decide)) (pa_cons (pe_op op_mulW (pe_un un_neg (pv 2)) (pv 3)) (pa_cons (pe_op op_mulW (pe_fldK K (pv 0) rfl) (pe_fldK K (pv 0) rfl)) pa_nil))))) pa_nil)))))), ?_⟩
    refine st_seq (st_set' (vs_slice (a := n) (b := n + L) mI (val_fld (val_var rfl) t.ob T.cl T.n_costs tfs_costs) (val_fld (val_var rfl) t.ob T.cl T.n_many tfs_many) (by
      have := vadd (val_fld (σ := L2.start ["self", "units", "x", "s"] [.ref p]) (val_var (i := 0) rfl) t.ob T.cl T.n_many tfs_many) (val_fld (val_var (i := 0) rfl) t.ob T.cl T.n_levels tfs_levels)
      rw [show ((n : Int) + (L : Int)) = ((n + L : Nat) : Int) by omega] at this
      exact this) t.hco.il (by omega) (by rw [rowL_len]; omega)) fun u H1 s1 hu => ?_)
    obtain ⟨a, rfl, ha, hn⟩ := hu
    rw [show n + L - n = L by omega, rowL_cut (by omega)] at hn
    dsimp only
    have t1 := t.to s1
    refine st_ret' (VS.imp (vs_tuple (Z := iQ K) mQ (vs_lcP (R := iI) (S := iI) (Z := iQ K) robQ mQ (fun x => Rat.divInt ((-x.1) * x.2) (S.d * cs)) (ws_zip (k1 := false) (k2 := false) mI mI (va2 (val_var rfl) (val_fld (val_var rfl) t1.ob T.cl T.n_scales tfs_scales)) hn.iL t1.hsc.il) (by rw [List.length_zip, rowL_len, rowL_len]; exact sizeLine_ge (by omega)) (fun _ _ => rfl) fun x y vx vy H2 hm s2 hx hy => ?_)) fun u H2 s2 hu => ?_) fun u H2 s2 hu => q u H2 (s1.trans s2) hu
    · obtain ⟨i, hi, rfl, rfl⟩ := zip_mem hm
      have hx : vx = .int (S.R L (n + i)) := hx
      have hy : vy = .int (s i) := hy
      subst hx hy
      have t2 := t1.to s2
      have b1 := bd_neg (bn.2 L (by omega) (n + i) (by omega))
      have hden : S.d * cs ≠ 0 := Int.ne_of_gt (Int.mul_pos d0 cs0)
      refine VS.el (vs_call (vs := [.int ((- S.R L (n + i)) * s i), .int (S.d * cs)]) (va2 (vmul (fun Q' k' => ⟨_, rfl, _, rfl, k'⟩) (val_var rfl) (wide_mul b1 (bs i hi) (by decide) (by decide) (by decide))) (vmul (val_fld (val_var rfl) t2.ob T.cl T.n_over tfs_over) (val_fld (val_var rfl) t2.ob T.cl T.n_cost_scale tfs_cs) (wide_mul bn.1 bcs (by decide) (by decide) (by decide)))) fun Q' k => ⟨_, _, rfl, hden, (bd_mul bn.1 bcs).mono (by decide), fun v H' s hv => k v H' s hv⟩)
    · rw [rowL_zipQ] at hu
      have e : rowQ L (Mx.prc n L S s cs) = rowQ L fun j => Rat.divInt ((- S.R L (n + j)) * s j) (S.d * cs) := rowQ_congr fun j hj => by
        rw [divI]; rfl
      rw [e]; exact hu
def spSlope (K : PySem.W.Frag) (C : Addr) : Sp := fun vs H Q _ => ∃ p H0 n L s cs S A, vs = [.ref p] ∧ TabAt C H0 H p n L (rowL L s) cs S ∧ Tok n L A S ∧ (∀ i, i < L → Bd 10 (s i)) ∧
  ∀ u H', Same H H' → iRow K H' u (rowQ L (Mx.slp n L S s)) → Q u H'
theorem sc_T_slope : FnScope ["self", "units", "x", "s"] ["self"] (defScope s_T_slope) := ⟨rfl, rfl, rfl, by decide +kernel, rfl, by decide +kernel, by decide +kernel⟩
theorem ok_T_slope (T : Txt K mg) : FnOk P w K mg base CX0 3 T.T_slope.f T.T_slope.fd ["self"] (spSlope K T.C) := by
  refine T.T_slope.F.ok sc_T_slope (fun vs H Q E h => ?_) (fun cdv A outer s H vs Q E hr h => ?_)
  · obtain ⟨_, _, _, _, _, _, _, _, rfl, _⟩ := h; rfl
  · obtain ⟨p, H0, n, L, s, cs, S, A', rfl, ht, ok, bs, q⟩ := h
    have n11 := ok.n11
    have l5 := ok.l5
    have d0 := ok.gd.dpos
    have bn := ok.bn
    obtain ⟨dx, vsc, vrw, vco, vga, bp, t⟩ := id ht
    refine ⟨_, (PSs.nox (pss_cons (ps_set (i := 1) sc_T_slope.nd rfl (.inl rfl) (pe_slice (sl_listK K) (pe_fldK K (pv 0) rfl) (po_some (pe_fldK K (pv 0) rfl)) (po_some (pe_op op_add (pe_fldK K (pv 0) rfl) (pe_fldK K (pv 0) rfl))))) (pss_one (ps_ret (pe_callTy (k_tuple K) rfl T.b_tuple (by decide +kernel) (pa_cons (pe_lc (own := [("x", 2), ("s", 3)]) (g := (gTup K 2 (gCons (gName 2) (gCons (gName 3) gNil)))) (tt := tYes) rfl sc_T_slope.nd (pi_zipK K false false rfl T.b_zip (pa_cons (pv 1) (pa_cons (pe_fldK K (pv 0) rfl) pa_nil))) (blkOk_by (N := ["self", "units", "x", "s"]) (sc := defScope s_T_slope) (by decide +kernel)) (fun _ _ _ _ _ => (pg_tup rfl (pgs_cons (pg_name (i := 2) sc_T_slope.nd rfl (.inl rfl)) (pgs_cons (pg_name (i := 3) sc_T_slope.nd rfl (.inl rfl)) pgs_nil)))) (fun _ _ _ _ _ => pts_nil) (fun _ _ _ _ _ => (pcall T.fraction (ok_fraction T) (hr.mono (by decide)) (pa_cons (pe_op op_mulW (pe_op op_sub (pv 2) (pe_fldK K (pv 0) rfl)) (pv 3)) (pa_cons (pe_fldK K (pv 0) rfl) pa_nil))))) pa_nil)))))), ?_⟩
    refine st_seq (st_set' (vs_slice (a := n) (b := n + L) mI (val_fld (val_var rfl) t.ob T.cl T.n_gaps tfs_gaps) (val_fld (val_var rfl) t.ob T.cl T.n_many tfs_many) (by
      have := vadd (val_fld (σ := L2.start ["self", "units", "x", "s"] [.ref p]) (val_var (i := 0) rfl) t.ob T.cl T.n_many tfs_many) (val_fld (val_var (i := 0) rfl) t.ob T.cl T.n_levels tfs_levels)
      rw [show ((n : Int) + (L : Int)) = ((n + L : Nat) : Int) by omega] at this
      exact this) t.hga.il (by omega) (by rw [rowL_len]; omega)) fun u H1 s1 hu => ?_)
    obtain ⟨a, rfl, ha, hn⟩ := hu
    rw [show n + L - n = L by omega, rowL_cut (by omega)] at hn
    dsimp only
    have t1 := t.to s1
    refine st_ret' (VS.imp (vs_tuple (Z := iQ K) mQ (vs_lcP (R := iI) (S := iI) (Z := iQ K) robQ mQ (fun x => Rat.divInt ((x.1 - S.d) * x.2) S.d) (ws_zip (k1 := false) (k2 := false) mI mI (va2 (val_var rfl) (val_fld (val_var rfl) t1.ob T.cl T.n_scales tfs_scales)) hn.iL t1.hsc.il) (by rw [List.length_zip, rowL_len, rowL_len]; exact sizeLine_ge (by omega)) (fun _ _ => rfl) fun x y vx vy H2 hm s2 hx hy => ?_)) fun u H2 s2 hu => ?_) fun u H2 s2 hu => q u H2 (s1.trans s2) hu
    · obtain ⟨i, hi, rfl, rfl⟩ := zip_mem hm
      have hx : vx = .int (S.R (L + 1) (n + i)) := hx
      have hy : vy = .int (s i) := hy
      subst hx hy
      have t2 := t1.to s2
      have b1 := bd_sub (bn.2 (L + 1) (by omega) (n + i) (by omega)) bn.1
      refine VS.el (vs_call (vs := [.int ((S.R (L + 1) (n + i) - S.d) * s i), .int S.d]) (va2 (vmul (vsub (val_var rfl) (val_fld (val_var rfl) t2.ob T.cl T.n_over tfs_over)) (val_var rfl) (wide_mul b1 (bs i hi) (by decide) (by decide) (by decide))) (val_fld (val_var rfl) t2.ob T.cl T.n_over tfs_over)) fun Q' k => ⟨_, _, rfl, by omega, bn.1.mono (by decide), fun v H' s hv => k v H' s hv⟩)
    · rw [rowL_zipQ] at hu
      have e : rowQ L (Mx.slp n L S s) = rowQ L fun j => Rat.divInt ((S.R (L + 1) (n + j) - S.d) * s j) S.d := rowQ_congr fun j hj => by
        rw [divI]; rfl
      rw [e]; exact hu
end
end K19
namespace K19
open PySem PySem.Spec L2
open Mx (Lp Gd Feas Sc sm)
theorem lcm_step {a b : Int} (ha : 0 < a) (hb : 0 < b) : a * (b / ((Nat.gcd a.natAbs b.natAbs : Nat) : Int)) = ((Nat.lcm a.natAbs b.natAbs : Nat) : Int) := by
  obtain ⟨x, rfl⟩ := Int.eq_ofNat_of_zero_le (Int.le_of_lt ha)
  obtain ⟨y, rfl⟩ := Int.eq_ofNat_of_zero_le (Int.le_of_lt hb)
  simp only [Int.natAbs_natCast]
  rw [← Int.natCast_ediv, ← Int.natCast_mul, ← Nat.mul_div_assoc _ (Nat.gcd_dvd_right x y)]
  rfl
theorem lcmL_ok : ∀ {n : Nat} {ns : List Int}, ns.length = n → (∀ x ∈ ns, 0 < x) → 0 < lcmL ns ∧ (∀ x ∈ ns, x ∣ lcmL ns) ∧ ∀ c, (∀ x ∈ ns, x ∣ c) → lcmL ns ∣ c
  | 0, ns, hl, _ => by
    have : ns = [] := List.eq_nil_of_length_eq_zero hl
    subst this
    exact ⟨by decide, by simp, fun c _ => Int.one_dvd c⟩
  | n + 1, ns, hl, h => by
    have hne : ns ≠ [] := fun e => by subst e; simp at hl
    have e := (List.dropLast_concat_getLast hne).symm
    generalize ns.dropLast = T at e
    generalize ns.getLast hne = l at e
    subst e
    obtain ⟨h1, h2, h3⟩ := lcmL_ok (n := n) (ns := T) (by simpa using hl) fun x hx => h x (by simp [hx])
    have hp := h l (by simp)
    rw [lcmL_snoc, lcm_step h1 hp]
    have d1 : lcmL T ∣ ((Nat.lcm (lcmL T).natAbs l.natAbs : Nat) : Int) := Int.natAbs_dvd_natAbs.mp (by rw [Int.natAbs_natCast]; exact Nat.dvd_lcm_left _ _)
    have d2 : l ∣ ((Nat.lcm (lcmL T).natAbs l.natAbs : Nat) : Int) := Int.natAbs_dvd_natAbs.mp (by rw [Int.natAbs_natCast]; exact Nat.dvd_lcm_right _ _)
    refine ⟨?_, fun x hx => ?_, fun c hc => ?_⟩
    · have := Nat.lcm_pos (m := (lcmL T).natAbs) (n := l.natAbs) (by omega) (by omega)
      omega
    · rcases List.mem_append.mp hx with z | z
      · exact Int.dvd_trans (h2 x z) d1
      · rw [List.mem_singleton] at z; subst z; exact d2
    · refine Int.natAbs_dvd_natAbs.mp ?_
      rw [Int.natAbs_natCast]
      exact Nat.lcm_dvd (Int.natAbs_dvd_natAbs.mpr (h3 c fun x hx => hc x (by simp [hx]))) (Int.natAbs_dvd_natAbs.mpr (hc l (by simp)))
abbrev den (q : Rat) : Int := (q.den : Int)
def ent (q : Rat) (s : Int) : Int := q.num * s / den q
theorem den_pos {q : Rat} : 0 < den q := by have := q.den_pos; show (0 : Int) < (q.den : Int); omega
theorem mul_den (q : Rat) : q * ((den q : Int) : Rat) = (q.num : Rat) := by
  have e : q = (q.num : Rat) / ((den q : Int) : Rat) := by
    have := Rat.num_divInt_den q
    rw [Rat.divInt_eq_div] at this
    exact this.symm
  have h0 : ((den q : Int) : Rat) ≠ 0 := fun z => by
    have : ((den q : Int) : Rat) = ((0 : Int) : Rat) := z
    have := Rat.intCast_inj.mp this
    have := den_pos (q := q)
    omega
  generalize ((den q : Int) : Rat) = y at *
  generalize (q.num : Rat) = z at *
  rw [e, Rat.div_def, Rat.mul_assoc, Rat.inv_mul_cancel _ h0, Rat.mul_one]
theorem ent_eq {q : Rat} {s : Int} (h : den q ∣ s) : ((ent q s : Int) : Rat) = q * s := by
  obtain ⟨m, rfl⟩ := h
  have e : ent q (den q * m) = q.num * m := by
    unfold ent
    rw [show q.num * (den q * m) = den q * (q.num * m) by grind, Int.mul_ediv_cancel_left _ (Int.ne_of_gt den_pos)]
  rw [e]
  have h2 := mul_den q
  rw [Rat.intCast_mul, Rat.intCast_mul, ← Rat.mul_assoc, h2]
theorem Lim.dvd {q : Rat} (h : Lim q) : den q ∣ 12 := by
  obtain ⟨z, e, _⟩ := h
  have h1 : q.num * 12 = z * den q := by
    have h2 := mul_den q
    have h3 : ((q.num * 12 : Int) : Rat) = ((z * den q : Int) : Rat) := by
      rw [Rat.intCast_mul, Rat.intCast_mul, ← h2, ← e]
      have : ((12 : Int) : Rat) = 12 := rfl
      rw [this]
      grind
    exact Rat.intCast_inj.mp h3
  have hc : Nat.Coprime q.den q.num.natAbs := q.reduced.symm
  have h4 : q.den ∣ q.num.natAbs * 12 := by
    have := congrArg Int.natAbs h1
    rw [Int.natAbs_mul, Int.natAbs_mul, Int.natAbs_natCast] at this
    have h5 : (12 : Int).natAbs = 12 := rfl
    rw [h5] at this
    exact ⟨z.natAbs, by rw [this, Nat.mul_comm]⟩
  exact Int.natAbs_dvd_natAbs.mp (by rw [Int.natAbs_natCast]; exact hc.dvd_of_dvd_mul_left h4)
/-- an entry is not large -/
theorem ent_abs {q : Rat} {s : Int} (h : Lim q) (h1 : den q ∣ s) (h2 : s ∣ 12) : (ent q s).natAbs ≤ 2880 := by
  obtain ⟨z, e, hz⟩ := h
  obtain ⟨m, hm⟩ := h2
  have h3 : ent q s * m = z := by
    have : ((ent q s * m : Int) : Rat) = (z : Rat) := by
      rw [Rat.intCast_mul, ent_eq h1, ← e, Rat.mul_assoc, ← Rat.intCast_mul, ← hm]
      rfl
    exact Rat.intCast_inj.mp this
  have hm0 : m ≠ 0 := fun z => by subst z; simp at hm
  have h4 := congrArg Int.natAbs h3
  rw [Int.natAbs_mul] at h4
  have : 0 < m.natAbs := Int.natAbs_pos.mpr hm0
  have := Nat.le_mul_of_pos_right (ent q s).natAbs this
  omega
def sclOf (cols : List (List Rat)) (ts : List Rat) (i : Nat) : Int := lcmL ((lvlOf cols i ++ [Mx.vF ts i]).map den) * (if (Mx.vF ts i).num < 0 then -1 else 1)
def cscOf (cs : List Rat) : Int := lcmL (cs.map den)
section
variable {cols : List (List Rat)} {cs ts : List Rat}
def AAr (cols : List (List Rat)) (ts : List Rat) (i j : Nat) : Int :=
  if j < cols.length then ent (Mx.colF cols j i) (sclOf cols ts i) else if j < cols.length + ts.length then (if j - cols.length = i then 1 else 0) else ent (Mx.vF ts i) (sclOf cols ts i)
def AAc (cols : List (List Rat)) (cs : List Rat) (j : Nat) : Int := if j < cols.length then ent (Mx.vF cs j) (cscOf cs) else 0
def AAg (cols : List (List Rat)) (ts : List Rat) (j : Nat) : Int := if j < cols.length ∨ j = cols.length + ts.length then - sm ts.length (fun i => AAr cols ts i j) else 0
def AA (cols : List (List Rat)) (cs ts : List Rat) (j k : Nat) : Int := if k < ts.length then AAr cols ts k j else if k = ts.length then AAc cols cs j else AAg cols ts j
theorem lp_at (h : LP cols cs ts) {j i : Nat} (hj : j < cols.length) (hi : i < ts.length) : Lim (Mx.colF cols j i) := by
  have hc := List.getElem?_eq_getElem hj
  rw [colAt hc]
  have hm := List.getElem_mem hj
  exact h.la _ hm _ (List.mem_of_getElem? (get_vF (by rw [h.rl _ hm]; exact hi)))
theorem lp_t (h : LP cols cs ts) {i : Nat} (hi : i < ts.length) : Lim (Mx.vF ts i) := h.lt _ (List.mem_of_getElem? (get_vF hi))
theorem lp_c (h : LP cols cs ts) {j : Nat} (hj : j < cols.length) : Lim (Mx.vF cs j) := h.lc _ (List.mem_of_getElem? (get_vF (by rw [h.cl]; exact hj)))
theorem whole_lim (h : LP cols cs ts) {i : Nat} (hi : i < ts.length) : ∀ q ∈ lvlOf cols i ++ [Mx.vF ts i], Lim q := fun q hq => by
  rcases List.mem_append.mp hq with z | z
  · obtain ⟨c, hc, rfl⟩ := List.mem_map.mp z
    exact h.la c hc _ (List.mem_of_getElem? (get_vF (by rw [h.rl c hc]; exact hi)))
  · rw [List.mem_singleton] at z; subst z; exact lp_t h hi
theorem dens_ok {qs : List Rat} (h : ∀ q ∈ qs, Lim q) : 0 < lcmL (qs.map den) ∧ (∀ q ∈ qs, den q ∣ lcmL (qs.map den)) ∧ lcmL (qs.map den) ∣ 12 := by
  obtain ⟨h1, h2, h3⟩ := lcmL_ok (ns := qs.map den) rfl fun x hx => by
    obtain ⟨q, _, rfl⟩ := List.mem_map.mp hx; exact den_pos
  exact ⟨h1, fun q hq => h2 _ (List.mem_map_of_mem hq), h3 12 fun x hx => by
    obtain ⟨q, hq, rfl⟩ := List.mem_map.mp hx; exact (h q hq).dvd⟩
theorem scl_ok (h : LP cols cs ts) {i : Nat} (hi : i < ts.length) : sclOf cols ts i ≠ 0 ∧ (∀ q ∈ lvlOf cols i ++ [Mx.vF ts i], den q ∣ sclOf cols ts i) ∧ sclOf cols ts i ∣ 12 := by
  obtain ⟨h1, h2, h3⟩ := dens_ok (whole_lim h hi)
  unfold sclOf
  split
  · refine ⟨by omega, fun q hq => Int.dvd_trans (h2 q hq) (Int.dvd_mul_right _ _), ?_⟩
    rw [Int.mul_neg, Int.mul_one]; exact Int.neg_dvd.mpr h3
  · rw [Int.mul_one]; exact ⟨by omega, h2, h3⟩
theorem csc_ok (h : LP cols cs ts) : 0 < cscOf cs ∧ (∀ q ∈ cs, den q ∣ cscOf cs) ∧ cscOf cs ∣ 12 := dens_ok h.lc
theorem lvl_mem {j i : Nat} (hj : j < cols.length) : Mx.colF cols j i ∈ lvlOf cols i ++ [Mx.vF ts i] := by
  refine List.mem_append.mpr (.inl ?_)
  unfold lvlOf
  rw [colAt (List.getElem?_eq_getElem hj)]
  exact List.mem_map_of_mem (f := fun c => Mx.vF c i) (List.getElem_mem hj)
theorem tgt_mem {i : Nat} : Mx.vF ts i ∈ lvlOf cols i ++ [Mx.vF ts i] := by simp
theorem aim_nn (h : LP cols cs ts) {i : Nat} (hi : i < ts.length) : 0 ≤ ent (Mx.vF ts i) (sclOf cols ts i) := by
  obtain ⟨h1, h2, h3⟩ := dens_ok (whole_lim h hi)
  unfold ent sclOf
  refine Int.ediv_nonneg ?_ (Int.le_of_lt den_pos)
  split
  · rename_i hn
    rw [Int.mul_neg, Int.mul_one, Int.mul_neg, ← Int.neg_mul]
    exact Int.mul_nonneg (by omega) (by omega)
  · rename_i hn
    rw [Int.mul_one]
    exact Int.mul_nonneg (by omega) (by omega)
theorem lpA (h : LP cols cs ts) : Lp cols.length ts.length (AA cols cs ts) where
  hu := fun i hi l hl => by
    unfold AA
    by_cases h1 : l < ts.length
    · rw [if_pos h1]
      unfold AAr
      rw [if_neg (by omega), if_pos (by omega), show cols.length + i - cols.length = i by omega]
      by_cases z : l = i
      · rw [if_pos z.symm, if_pos z]
      · rw [if_neg (fun y => z y.symm), if_neg z]
    · rw [if_neg h1, if_neg (show ¬ l = i by omega)]
      by_cases h2 : l = ts.length
      · rw [if_pos h2]; unfold AAc; rw [if_neg (by omega)]
      · rw [if_neg h2]; unfold AAg; rw [if_neg (by omega)]
  hg := fun j hj => by
    unfold AA
    rw [if_neg (by omega), if_neg (by omega)]
    unfold AAg
    rw [if_pos hj]
    congr 1
    exact Mx.sm_congr fun i hi => by rw [if_pos hi]
  hl := by
    unfold AA AAc
    rw [if_neg (by omega), if_pos rfl, if_neg (by omega)]
  hb := fun i hi => by
    unfold AA AAr
    rw [if_pos hi, if_neg (by omega), if_neg (by omega)]
    exact aim_nn h hi
theorem scA (h : LP cols cs ts) : Sc cols.length ts.length (AA cols cs ts) (Mx.colF cols) (Mx.vF cs) (Mx.vF ts) (sclOf cols ts) (cscOf cs) where
  col := fun j hj i hi => by
    unfold AA AAr
    rw [if_pos hi, if_pos hj]
    exact ent_eq ((scl_ok h hi).2.1 _ (lvl_mem hj))
  aim := fun i hi => by
    unfold AA AAr
    rw [if_pos hi, if_neg (by omega), if_neg (by omega)]
    exact ent_eq ((scl_ok h hi).2.1 _ tgt_mem)
  s0 := fun i hi => (scl_ok h hi).1
  cost := fun j hj => by
    unfold AA AAc
    rw [if_neg (by omega), if_pos rfl, if_pos hj]
    exact ent_eq ((csc_ok h).2.1 _ (List.mem_of_getElem? (get_vF (by rw [h.cl]; exact hj))))
  cs0 := (csc_ok h).1
  unit := fun i hi => by
    unfold AA AAc
    rw [if_neg (by omega), if_pos rfl, if_neg (by omega)]
theorem sm_abs {f : Nat → Int} {X : Nat} : ∀ {n : Nat}, (∀ i, i < n → (f i).natAbs ≤ X) → (sm n f).natAbs ≤ n * X
  | 0, _ => by simp [sm]
  | n + 1, h => by
    rw [Mx.sm_succ, Nat.succ_mul]
    have h1 := sm_abs (f := f) (X := X) (n := n) fun i hi => h i (by omega)
    have h2 := h n (by omega)
    have := Int.natAbs_add_le (sm n f) (f n)
    omega
theorem AAr_abs (h : LP cols cs ts) {i j : Nat} (hi : i < ts.length) : (AAr cols ts i j).natAbs ≤ 2880 := by
  unfold AAr
  obtain ⟨_, h2, h3⟩ := scl_ok h hi
  split
  · exact ent_abs (lp_at h (by assumption) hi) (h2 _ (lvl_mem (by assumption))) h3
  · split
    · split <;> decide
    · exact ent_abs (lp_t h hi) (h2 _ tgt_mem) h3
theorem absA (h : LP cols cs ts) : ∀ j, j ≤ cols.length + ts.length → ∀ k, k < ts.length + 2 → (AA cols cs ts j k).natAbs ≤ 14400 := fun j hj k hk => by
  have hl := h.low
  unfold AA
  split
  · have := AAr_abs h (i := k) (j := j) (by assumption); omega
  · split
    · unfold AAc
      split
      · have := ent_abs (lp_c h (by assumption)) ((csc_ok h).2.1 _ (List.mem_of_getElem? (get_vF (by rw [h.cl]; assumption)))) (csc_ok h).2.2
        omega
      · decide
    · unfold AAg
      split
      · rw [Int.natAbs_neg]
        have := sm_abs (f := fun i => AAr cols ts i j) (X := 2880) (n := ts.length) fun i hi => AAr_abs h hi
        have : ts.length * 2880 ≤ 5 * 2880 := Nat.mul_le_mul_right _ hl
        omega
      · decide
/-- the table at the start -/
def T0 (cols : List (List Rat)) (cs ts : List Rat) : Mx.St := ⟨fun k => cols.length + k, 1, fun k j => AA cols cs ts j k⟩
theorem tokA (h : LP cols cs ts) : Tok cols.length ts.length (AA cols cs ts) (T0 cols cs ts) :=
  ⟨lpA h, Gd.start (lpA h), fun k hk => (lpA h).hb k hk, h.few, h.low, absA h⟩
end
end K19
namespace K19
open PySem PySem.Spec L2
section
variable {K : PySem.W.Frag} {C : Addr} {α γ : Type} {R : Rp α} {Z : Rp γ} {H0 H H' : Hp} {p dx sp rp : Addr} {σ : L2.St} {ta tb te : TE}
theorem vs_mulI {a b : Int} (h : VS ta σ H (fun v _ => v = .int a)) (g : ∀ H', Same H H' → VS tb σ H' (fun v _ => v = .int b)) (c : CMulW a b) : VS (tOp (L2.rI CMulW fun i j => .int (i * j)) ta tb) σ H (fun v _ => v = .int (a * b)) := fun Q k =>
  h _ fun v H1 s1 e => g H1 s1 _ fun u H2 s2 e2 => ⟨a, b, e, e2, c, k _ _ (s1.trans s2) rfl⟩
theorem vs_neg {a : Int} (h : VS ta σ H (fun v _ => v = .int a)) : VS (tUn (rU fun i => V.int (-i)) ta) σ H (fun v _ => v = .int (-a)) := fun Q k =>
  h _ fun v H1 s1 e => ⟨a, e, k _ _ s1 rfl⟩
theorem val_neg1 : Val (tUn (rU fun i => V.int (-i)) (tC (V.int 1))) σ H (.int (-1)) := fun Q k => ⟨1, rfl, k⟩
/-- the fractions of a list, as pairs -/
theorem vs_lcQ {NE : V → Addr → Prop} (rb : Rob NE Z) (mZ : Mon Z) {t0 : TE} {vs : List Nat} {i j : Nat} {zs : List Rat} (f : Rat → γ) (w : VS t0 σ H (fun v H' => iL K (iQ K) H' v zs)) (hlen : zs.length ≤ sizeLine) (hwp : ∀ a b, wipe (((wipe σ vs).set i a).set j b) vs = wipe σ vs)
    (hs : ∀ (q : Rat) (H' : Hp), q ∈ zs → Same H H' → VS te (((wipe σ vs).set i (some (.int q.num))).set j (some (.int (q.den : Int)))) H' (El NE Z H' (f q))) : VS (tLc (iList K t0) (gTup K 2 (gCons (gName i) (gCons (gName j) gNil))) tYes te vs) σ H (NewL Z H (zs.map f)) := by
  have z := vs_lcP (K := K) (R := iI) (S := iI) (te := te) rb mZ (fun p => f (Rat.divInt p.1 p.2)) (ws_list (K := K) (xs := zs.map fun x => (x.num, (x.den : Int))) (mP mI mI) (w.imp fun v H' s h => iL_map (fun h => q_pair h) h)) (by rw [List.length_map]; exact hlen) hwp fun n d vn vd H1 hm s1 hn hd => by
    obtain ⟨x, hx, e⟩ := List.mem_map.mp hm
    cases e
    have evn : vn = V.int x.num := hn
    have evd : vd = V.int (x.den : Int) := hd
    subst evn evd
    have := hs x H1 hx s1
    rw [Rat.num_divInt_den]
    exact this
  refine z.imp fun u H' s hu => ?_
  have e : (zs.map fun x => (x.num, (x.den : Int))).map (fun p => f (Rat.divInt p.1 p.2)) = zs.map f := by
    rw [List.map_map]
    exact List.map_congr_left fun x _ => by show f (Rat.divInt x.num x.den) = f x; rw [Rat.num_divInt_den]
  rw [e] at hu
  exact hu
/-- [x] -/
theorem vs_lst1 {x : α} (m : Mon R) (h : VS ta σ H (fun v H' => R H' v x)) : VS (tLst (tCons ta tNil)) σ H (NewL R H [x]) := fun Q k =>
  h _ fun v H1 s1 hv => ⟨by show 1 ≤ sizeLine; decide, fun a ha => k _ _ (s1.trans (same_new ha)) ⟨a, rfl, s1.free ha, [v], upd_same, .cons (m.to (same_new ha) hv) .nil⟩⟩
theorem NewL.n {zs : List α} {v : V} (h : NewL R H zs v H') : iN R H' v zs := let ⟨a, e, _, q⟩ := h; ⟨a, e, q⟩
/-- all but the last, and the last -/
theorem vs_front {v : V} {zs : List α} {z : α} (m : Mon R) (h : Val ta σ H v) (hv : iL K R H v (zs ++ [z])) : VS (tSl (rSlL K) ta tNoPart (tPart (tUn (rU fun i => V.int (-i)) (tC (V.int 1))))) σ H (NewL R H zs) := fun Q k => by
  obtain ⟨a, vs, rfl, hq, hp⟩ := hv
  have hl := plen hp
  rw [List.length_append, List.length_singleton] at hl
  refine h _ ⟨1, rfl, _, rfl, a, vs, rfl, hq, fun p hf => ?_⟩
  have e : cutV vs none (some (-1)) = vs.take zs.length := by
    unfold cutV
    have e2 : HT.sIx vs.length vs.length (some (-1)) = zs.length := by
      show (if (-1 : Int) < 0 then ((-1 : Int) + (vs.length : Int)).toNat else min (-1 : Int).toNat vs.length) = _
      rw [if_pos (by decide)]; omega
    rw [e2, HT.sIx_none]; rfl
  show Q (.ref p) (upd H p (.lst (cutV vs none (some (-1)))))
  rw [e]
  refine k _ _ (same_new hf) ⟨p, rfl, hf, _, upd_same, ?_⟩
  have q := ptake zs.length hp
  rw [List.take_left' rfl] at q
  exact paired_mono m (same_new hf) q
theorem vs_back1 {v : V} {zs : List α} {z : α} (m : Mon R) (h : Val ta σ H v) (hv : iL K R H v (zs ++ [z])) : VS (tSl (rSlL K) ta (tPart (tUn (rU fun i => V.int (-i)) (tC (V.int 1)))) tNoPart) σ H (NewL R H [z]) := fun Q k => by
  obtain ⟨a, vs, rfl, hq, hp⟩ := hv
  have hl := plen hp
  rw [List.length_append, List.length_singleton] at hl
  refine h _ ⟨1, rfl, _, rfl, a, vs, rfl, hq, fun p hf => ?_⟩
  have e : cutV vs (some (-1)) none = vs.drop zs.length := by
    unfold cutV
    have e2 : HT.sIx vs.length 0 (some (-1)) = zs.length := by
      show (if (-1 : Int) < 0 then ((-1 : Int) + (vs.length : Int)).toNat else min (-1 : Int).toNat vs.length) = _
      rw [if_pos (by decide)]; omega
    rw [e2, HT.sIx_none]
    exact List.take_of_length_le (by rw [List.length_drop]; omega)
  show Q (.ref p) (upd H p (.lst (cutV vs (some (-1)) none)))
  rw [e]
  refine k _ _ (same_new hf) ⟨p, rfl, hf, _, upd_same, ?_⟩
  have q := pdrop zs.length hp
  rw [List.drop_left' rfl] at q
  exact paired_mono m (same_new hf) q
/-- xs.append(x) -/
theorem st_append {D : Ends} {a : Addr} {xs : List α} {x : α} (hrob : ∀ {H : Hp} {l : List V} {v : V} {x : α}, R H v x → R (upd H a (.lst l)) v x) (mR : Mon R) (h : Val ta σ H (.ref a)) (hn : nL R H a xs) (g : VS tb σ H (fun v H' => R H' v x)) (hl : xs.length < 1000)
    (q : ∀ H' vs', Same H H' → nL R (upd H' a (.lst vs')) a (xs ++ [x]) → D.nx σ (upd H' a (.lst vs'))) : tDrop (tBM K "list" rAppend ta (tCons tb tNil)) D σ H := by
  obtain ⟨vs, h1, h2⟩ := hn
  refine h _ ⟨.inl ⟨rfl, _, SqL.of h1⟩, g _ fun v H1 s1 hv => ?_⟩
  refine ⟨a, vs, v, rfl, rfl, s1 _ _ h1, Nat.lt_of_lt_of_le (show vs.length < 1000 by rw [plen h2]; exact hl) (sizeLine_ge (Nat.le_refl _)), q H1 (vs ++ [v]) s1 ⟨_, upd_same, ?_⟩⟩
  exact papp (Paired.mapP (paired_mono mR s1 h2) fun _ _ r => hrob r) (.cons (hrob hv) .nil)
/-! ### the table under way -/
def iR2 (sp rp : Addr) : Rp (List Int) := fun H v xs => ∃ a, v = .ref a ∧ a ≠ sp ∧ a ≠ rp ∧ nL iI H a xs
theorem mR2 : Mon (iR2 sp rp) := ⟨fun e ⟨a, h1, h2, h3, vs, h4, h5⟩ => ⟨a, h1, h2, h3, vs, e _ _ h4, h5⟩⟩
theorem iR2.il {v : V} {xs : List Int} (h : iR2 sp rp H v xs) : iL K iI H v xs := let ⟨_, e, _, _, q⟩ := h; e ▸ q.iL
structure IA (C H0 : _) (H : Hp) (p dx : Addr) (fs : List (Str × V)) (sp rp : Addr) (ss : List Int) (rs : List (List Int)) : Prop where
  ob : H p = some (.ins C dx fs)
  s0 : Same H0 H
  p0 : H0 p = none
  sn : H0 sp = none
  rn : H0 rp = none
  ne : sp ≠ rp
  hs : nL iI H sp ss
  hr : nL (iR2 sp rp) H rp rs
variable {fs : List (Str × V)} {ss : List Int} {rs : List (List Int)}
theorem IA.to (t : IA C H0 H p dx fs sp rp ss rs) (e : Same H H') : IA C H0 H' p dx fs sp rp ss rs :=
  ⟨e _ _ t.ob, t.s0.trans e, t.p0, t.sn, t.rn, t.ne, (let ⟨vs, h1, h2⟩ := t.hs; ⟨vs, e _ _ h1, h2⟩), (let ⟨vs, h1, h2⟩ := t.hr; ⟨vs, e _ _ h1, paired_mono mR2 e h2⟩)⟩
theorem IA.put (t : IA C H0 H p dx fs sp rp ss rs) {fs' : List (Str × V)} : IA C H0 (upd H p (.ins C dx fs')) p dx fs' sp rp ss rs :=
  ⟨upd_same, same_put t.s0 t.p0, t.p0, t.sn, t.rn, t.ne, robj_nL t.ob t.hs, (let ⟨vs, h1, h2⟩ := t.hr; ⟨vs, by rw [upd_ne (ne_of h1 t.ob (by intro z; cases z))]; exact h1, Paired.mapP h2 fun _ _ ⟨a, g1, g2, g3, g4⟩ => ⟨a, g1, g2, g3, robj_nL t.ob g4⟩⟩)⟩
theorem IA.appS (t : IA C H0 H p dx fs sp rp ss rs) {l : List V} {ss' : List Int} (h : nL iI (upd H sp (.lst l)) sp ss') : IA C H0 (upd H sp (.lst l)) p dx fs sp rp ss' rs :=
  ⟨by
    obtain ⟨vs, h1, _⟩ := t.hs
    rw [upd_ne (ne_of t.ob h1 (by intro z; cases z))]; exact t.ob, same_put t.s0 t.sn, t.p0, t.sn, t.rn, t.ne, h,
    (let ⟨vs, h1, h2⟩ := t.hr; ⟨vs, by rw [upd_ne (Ne.symm t.ne)]; exact h1, Paired.mapP h2 fun _ _ ⟨a, g1, g2, g3, ws, g4, g5⟩ => ⟨a, g1, g2, g3, ws, by rw [upd_ne g2]; exact g4, g5⟩⟩)⟩
theorem robR2 {l : List V} {v : V} {xs : List Int} (h : iR2 sp rp H v xs) : iR2 sp rp (upd H rp (.lst l)) v xs := let ⟨a, g1, g2, g3, ws, g4, g5⟩ := h; ⟨a, g1, g2, g3, ws, by rw [upd_ne g3]; exact g4, g5⟩
theorem IA.appR (t : IA C H0 H p dx fs sp rp ss rs) {l : List V} {rs' : List (List Int)} (h : nL (iR2 sp rp) (upd H rp (.lst l)) rp rs') : IA C H0 (upd H rp (.lst l)) p dx fs sp rp ss rs' :=
  ⟨by
    obtain ⟨vs, h1, _⟩ := t.hr
    rw [upd_ne (ne_of t.ob h1 (by intro z; cases z))]; exact t.ob, same_put t.s0 t.rn, t.p0, t.sn, t.rn, t.ne,
    (let ⟨vs, h1, h2⟩ := t.hs; ⟨vs, by rw [upd_ne t.ne]; exact h1, h2⟩), h⟩
theorem wsg_enum {k1 : Bool} {t : TA} {v : V} {xs : List α} (mR : Mon R) (h : ValA t σ H [v]) (s : Same H0 H) (hv : iSq K k1 R H0 v xs) : WSG (iEnumB K k1 t) σ H (iP K iI R) (numd xs) (Same H0) := fun Rr k => by
  obtain ⟨a, vs, rfl, q1, p1⟩ := hv.out
  exact h _ ⟨a, vs, rfl, q1.same s, k _ _ (Same.refl _) (tw_enum mR q1 p1)⟩
end
theorem rowL_append {a b : Nat} {f : Nat → Int} : rowL (a + b) f = rowL a f ++ rowL b fun i => f (a + i) := by
  unfold rowL
  rw [List.range_add, List.map_append, List.map_map]; rfl
theorem lvl_row {cols : List (List Rat)} {i : Nat} : lvlOf cols i = rowQ cols.length fun j => Mx.colF cols j i := by
  refine List.ext_getElem? fun j => ?_
  by_cases h : j < cols.length
  · rw [rowQ_get h]
    unfold lvlOf
    rw [List.getElem?_map, List.getElem?_eq_getElem h, colAt (List.getElem?_eq_getElem h)]; rfl
  · have h1 : (lvlOf cols i).length ≤ j := by unfold lvlOf; rw [List.length_map]; omega
    rw [List.getElem?_eq_none h1, List.getElem?_eq_none (by rw [rowQ_len]; omega)]
theorem rowQ_mapI {N : Nat} {f : Nat → Rat} {g : Rat → Int} : (rowQ N f).map g = rowL N fun j => g (f j) := by
  unfold rowQ rowL; rw [List.map_map]; rfl
theorem ups0 {n : Nat} : ups 0 n = rowL n fun k => (k : Int) := by
  unfold ups rowL; exact List.map_congr_left fun k _ => by omega
theorem rowL_map {N : Nat} {f : Nat → Int} {g : Int → Int} : (rowL N f).map g = rowL N fun j => g (f j) := by unfold rowL; rw [List.map_map]; rfl
theorem row_is {cols : List (List Rat)} {ts : List Rat} {i : Nat} : ((lvlOf cols i).map fun q => ent q (sclOf cols ts i)) ++ (rowL ts.length fun k => if k = i then 1 else 0) ++ [ent (Mx.vF ts i) (sclOf cols ts i)] = rowL (cols.length + ts.length + 1) (AAr cols ts i) := by
  rw [rowL_last, rowL_append, lvl_row, rowQ_mapI]
  congr 1
  · congr 1
    · exact rowL_congr fun j hj => by unfold AAr; rw [if_pos hj]
    · refine rowL_congr fun j hj => ?_
      have e : AAr cols ts i (cols.length + j) = if j = i then 1 else 0 := by
        unfold AAr
        rw [if_neg (by omega), if_pos (by omega), show cols.length + j - cols.length = j by omega]
      rw [e]
  · unfold AAr
    rw [if_neg (by omega), if_neg (by omega)]
end K19
namespace K19
open PySem PySem.Spec L2
section
variable {K : PySem.W.Frag} {α γ : Type} {R : Rp α} {H0 H H' H2 : Hp} {p dx sp rp bp : Addr} {σ : L2.St} {ta tb te : TE}
theorem vs_nil : VS (tLst tNil) σ H (NewL R H []) := fun Q k => ⟨Nat.zero_le _, fun a ha => k _ _ (same_new ha) ⟨a, rfl, ha, [], upd_same, .nil⟩⟩
/-- the lists of one heap stand in another -/
def KL (H H' : Hp) : Prop := ∀ a l, H a = some (.lst l) → H' a = some (.lst l)
theorem KL.of (h : Same H H') : KL H H' := fun a l e => h a _ e
theorem KL.trans (h : KL H H') (g : KL H' H2) : KL H H2 := fun a l e => g a l (h a l e)
theorem KL.put {C : Addr} {fs : List (Str × V)} {o : HO} (h : KL H H') (hp : H p = some (.ins C dx fs)) : KL H (upd H' p o) := fun a l e => by rw [upd_ne (ne_of e hp (by intro z; cases z))]; exact h a l e
theorem KL.new {o : HO} {D : Addr} (h : KL H H') (hD : H D = none) : KL H (upd H' D o) := fun a l e => by rw [upd_ne (ne_of_none e hD)]; exact h a l e
theorem nL.kl {a : Addr} {xs : List Int} (h : nL iI H a xs) (k : KL H H') : nL iI H' a xs := let ⟨vs, h1, h2⟩ := h; ⟨vs, k a vs h1, h2⟩
theorem nL.klr {a : Addr} {xs : List (List Int)} (h : nL (iR2 sp rp) H a xs) (k1 : KL H H2) (hb : H2 bp = none) (k : KL H H') : nL (iLn bp iI) H' a xs :=
  let ⟨vs, h1, h2⟩ := h; ⟨vs, k a vs h1, Paired.mapP h2 fun _ _ ⟨b, g1, g2, g3, g4⟩ => ⟨b, g1, (let ⟨ws, w1, _⟩ := g4.kl k1; ne_of_none w1 hb), g4.kl k⟩⟩
theorem nL.nb {a : Addr} {xs : List α} (h : nL R H a xs) (hb : H bp = none) : a ≠ bp := let ⟨_, h1, _⟩ := h; ne_of_none h1 hb
def if3 (n L : Nat) : List (Str × V) := [("many", .int (n : Int)), ("levels", .int (L : Int)), ("over", .int 1)]
def if4 (n L : Nat) (sp : Addr) : List (Str × V) := [("many", .int (n : Int)), ("levels", .int (L : Int)), ("over", .int 1), ("scales", .ref sp)]
def ifs (n L : Nat) (sp rp : Addr) : List (Str × V) := [("many", .int (n : Int)), ("levels", .int (L : Int)), ("over", .int 1), ("scales", .ref sp), ("rows", .ref rp)]
end
def if6 (n L : Nat) (sp rp : Addr) (c : Int) : List (Str × V) := [("many", .int (n : Int)), ("levels", .int (L : Int)), ("over", .int 1), ("scales", .ref sp), ("rows", .ref rp), ("cost_scale", .int c)]
def if7 (n L : Nat) (sp rp : Addr) (c : Int) (co : Addr) : List (Str × V) := [("many", .int (n : Int)), ("levels", .int (L : Int)), ("over", .int 1), ("scales", .ref sp), ("rows", .ref rp), ("cost_scale", .int c), ("costs", .ref co)]
def if8 (n L : Nat) (sp rp : Addr) (c : Int) (co ga : Addr) : List (Str × V) := [("many", .int (n : Int)), ("levels", .int (L : Int)), ("over", .int 1), ("scales", .ref sp), ("rows", .ref rp), ("cost_scale", .int c), ("costs", .ref co), ("gaps", .ref ga)]
theorem rep_row {m : Nat} : List.replicate m (0 : Int) = rowL m fun _ => 0 := by unfold rowL; rw [List.map_const', List.length_range]
theorem list_rowQ {cs : List Rat} : cs = rowQ cs.length (Mx.vF cs) := by
  refine List.ext_getElem? fun i => ?_
  by_cases h : i < cs.length
  · rw [rowQ_get h, get_vF h]
  · rw [List.getElem?_eq_none (by omega), List.getElem?_eq_none (by rw [rowQ_len]; omega)]
theorem row_c {cols : List (List Rat)} {cs : List Rat} {L : Nat} (h : cs.length = cols.length) : (cs.map fun q => ent q (cscOf cs)) ++ List.replicate (L + 1) 0 = rowL (cols.length + L + 1) (AAc cols cs) := by
  rw [Nat.add_assoc, rowL_append, rep_row]
  have e : (cs.map fun q => ent q (cscOf cs)) = rowL cols.length (AAc cols cs) := by
    have : (cs.map fun q => ent q (cscOf cs)) = rowL cs.length fun j => ent (Mx.vF cs j) (cscOf cs) := by
      generalize cscOf cs = c
      conv => lhs; rw [list_rowQ (cs := cs), rowQ_mapI]
    rw [this, h]
    exact rowL_congr fun j hj => by unfold AAc; rw [if_pos hj]
  rw [e]
  congr 1
  exact rowL_congr fun j hj => by unfold AAc; rw [if_neg (by omega)]
theorem sum_sm {L : Nat} {g : Nat → Int} : ((List.range L).map g).sum = Mx.sm L g := by
  induction L with
  | zero => rfl
  | succ L ih => rw [List.range_succ, List.map_append, List.sum_append, ih, Mx.sm_succ]; simp
section
variable {P : Program} {w : World} {K : PySem.W.Frag} {mg : Str → Option Value} {base : Heap}
def spInit (K : PySem.W.Frag) (C : Addr) : Sp := fun vs H Q _ => ∃ p dx H0 v1 v2 v3 cols cs ts, vs = [.ref p, v1, v2, v3] ∧ H p = some (.ins C dx []) ∧ Same H0 H ∧ H0 p = none ∧ iCols K H0 v1 cols ∧ iL K (iQ K) H0 v2 cs ∧ iRow K H0 v3 ts ∧ LP cols cs ts ∧
  ∀ H', TabAt C H0 H' p cols.length ts.length (rowL ts.length (sclOf cols ts)) (cscOf cs) (T0 cols cs ts) → Q .non H'
theorem vs_common (T : Txt K mg) {σ : L2.St} {H : Hp} {t0 : TE} {vs : List Nat} {zs : List Rat} {i j : Nat} (w : VS t0 σ H (fun v H' => iL K (iQ K) H' v zs)) (hl : zs.length ≤ 100) (hz : ∀ q ∈ zs, Lim q) (hwp : ∀ a b, wipe (((wipe σ vs).set i a).set j b) vs = wipe σ vs)
    (hj : ∀ a b, (((wipe σ vs).set i a).set j (some b))[j]? = some (some b)) : VS (tCall (spCommonOf K) [] E0 (tCons (tLc (iList K t0) (gTup K 2 (gCons (gName i) (gCons (gName j) gNil))) tYes (tVar j) vs) tNil)) σ H (fun v _ => v = .int (lcmL (zs.map den))) :=
  vs_callS (vsa1 (vs_lcQ (Z := iI) robI mI den w (sizeLine_ge (by omega)) hwp fun q H1 hq s1 => VS.el (vsv (val_var (hj _ _)) rfl))) fun vs H1 s1 ⟨y, e, hy⟩ Q' k => by
    subst e
    obtain ⟨a, rfl, ha, hn⟩ := hy
    refine ⟨_, zs.map den, 4, rfl, hn.iL, fun x hx => ?_, by rw [List.length_map]; omega, fun H2 s2 => k _ _ s2 rfl⟩
    obtain ⟨q, hq, rfl⟩ := List.mem_map.mp hx
    refine ⟨den_pos, ?_⟩
    have := Int.le_of_dvd (by decide) (hz q hq).dvd
    have := den_pos (q := q)
    unfold Bd; omega
theorem sc_T_init : FnScope ["self", "columns", "costs", "target", "i", "aim", "whole", "column", "scale", "n", "d", "numbers", "unit", "k", "j", "row"] ["self", "columns", "costs", "target"] (defScope s_T_init) := ⟨rfl, rfl, rfl, by decide +kernel, rfl, by decide +kernel, by decide +kernel⟩
theorem ok_T_init (T : Txt K mg) : FnOk P w K mg base CX0 2 T.T_init.f T.T_init.fd ["self", "columns", "costs", "target"] (spInit K T.C) := by
  refine T.T_init.F.ok sc_T_init (fun vs H Q E h => ?_) (fun cdv A outer s H vs Q E hr h => ?_)
  · obtain ⟨_, _, _, _, _, _, _, _, _, rfl, _⟩ := h; rfl
  · obtain ⟨p, dx, H0, v1, v2, v3, cols, cs, ts, rfl, ho, s0, p0, h1, h2, h3, lp, q⟩ := h
    have n11 := lp.few
    have l5 := lp.low
    refine ⟨_, (PSs.nox (pss_cons (ps_fldK K (pv 0) (pe_callB (k_len K) rfl T.b_len (by decide +kernel) (pa_cons (pv 1) pa_nil)) rfl) (pss_cons (ps_fldK K (pv 0) (pe_callB (k_len K) rfl T.b_len (by decide +kernel) (pa_cons (pv 3) pa_nil)) rfl) (pss_cons (ps_fldK K (pv 0) pe_int rfl) (pss_cons (ps_fldK K (pv 0) (pe_lst pa_nil) rfl) (pss_cons (ps_fldK K (pv 0) (pe_lst pa_nil) rfl) (pss_cons (ps_for PassesOwn.never rfl (pi_enumK K true rfl T.b_enumerate (pa_cons (pv 3) pa_nil)) (pg_tup rfl (pgs_cons (pg_name (i := 4) sc_T_init.nd rfl (.inr rfl)) (pgs_cons (pg_name (i := 5) sc_T_init.nd rfl (.inl rfl)) pgs_nil))) (pss_cons (ps_set (i := 6) sc_T_init.nd rfl (.inl rfl) (pe_op op_cat (pe_lc (own := [("column", 7)]) (g := (gName 7)) (tt := tYes) rfl sc_T_init.nd (pi_listK K (pv 1)) (blkOk_by (N := ["self", "columns", "costs", "target", "i", "aim", "whole", "column", "scale", "n", "d", "numbers", "unit", "k", "j", "row"]) (sc := defScope s_T_init) (by decide +kernel)) (fun _ _ _ _ _ => (pg_name (i := 7) sc_T_init.nd rfl (.inl rfl))) (fun _ _ _ _ _ => pts_nil) (fun _ _ _ _ _ => (pe_ix (ix_tupK K) (pv 7) (pv 4) (fun _ _ => rfl)))) (pe_lst (pa_cons (pv 5) pa_nil)))) (pss_cons (ps_set (i := 8) sc_T_init.nd rfl (.inr rfl) (pe_op op_mulW (pcall T.common_of (ok_common_of T) (hr.mono (by decide)) (pa_cons (pe_lc (own := [("n", 9), ("d", 10)]) (g := (gTup K 2 (gCons (gName 9) (gCons (gName 10) gNil)))) (tt := tYes) rfl sc_T_init.nd (pi_listK K (pv 6)) (blkOk_by (N := ["self", "columns", "costs", "target", "i", "aim", "whole", "column", "scale", "n", "d", "numbers", "unit", "k", "j", "row"]) (sc := defScope s_T_init) (by decide +kernel)) (fun _ _ _ _ _ => (pg_tup rfl (pgs_cons (pg_name (i := 9) sc_T_init.nd rfl (.inl rfl)) (pgs_cons (pg_name (i := 10) sc_T_init.nd rfl (.inl rfl)) pgs_nil)))) (fun _ _ _ _ _ => pts_nil) (fun _ _ _ _ _ => (pv 10))) pa_nil)) (pe_ifExp (pt_cmpR op_lt (pe_ix (ix_tupK K) (pv 5) pe_int (fun _ _ => rfl)) pe_int (nomark _)) (pe_un un_neg pe_int) pe_int))) (pss_cons (ps_setLc (i := 11) (own := [("n", 9), ("d", 10)]) (g := (gTup K 2 (gCons (gName 9) (gCons (gName 10) gNil)))) (tt := tYes) rfl sc_T_init.nd rfl rfl (sw_true rfl rfl rfl (by decide +kernel)) (pi_listK K (pv 6)) (blkOk_by (N := ["self", "columns", "costs", "target", "i", "aim", "whole", "column", "scale", "n", "d", "numbers", "unit", "k", "j", "row"]) (sc := defScope s_T_init) (by decide +kernel)) (fun _ _ _ _ _ => (pg_tup rfl (pgs_cons (pg_name (i := 9) sc_T_init.nd rfl (.inl rfl)) (pgs_cons (pg_name (i := 10) sc_T_init.nd rfl (.inl rfl)) pgs_nil)))) (fun _ _ _ _ _ => pts_nil) (fun _ _ _ _ _ => (pe_op op_fdivW (pe_op op_mulW (pv 9) (pv 8)) (pv 10)))) (pss_cons (ps_setLc (i := 12) (own := [("k", 13)]) (g := (gName 13)) (tt := tYes) rfl sc_T_init.nd rfl rfl (sw_true rfl rfl rfl (by decide +kernel)) (pi_range1 rfl T.b_range (pa_cons (pe_fldK K (pv 0) rfl) pa_nil)) (blkOk_by (N := ["self", "columns", "costs", "target", "i", "aim", "whole", "column", "scale", "n", "d", "numbers", "unit", "k", "j", "row"]) (sc := defScope s_T_init) (by decide +kernel)) (fun _ _ _ _ _ => (pg_name (i := 13) sc_T_init.nd rfl (.inl rfl))) (fun _ _ _ _ _ => pts_nil) (fun _ _ _ _ _ => (pe_ifExp (pt_cmpR op_eq (pv 13) (pv 4) (nomark _)) pe_int pe_int))) (pss_cons (ps_expr (pe_bmK K PySem.F.plainAttrs_list PySem.F.slot_list_append PySem.F.type_list_append mt_append (pe_fldK K (pv 0) rfl) (pa_cons (pv 8) pa_nil))) (pss_one (ps_expr (pe_bmK K PySem.F.plainAttrs_list PySem.F.slot_list_append PySem.F.type_list_append mt_append (pe_fldK K (pv 0) rfl) (pa_cons (pe_op op_cat (pe_op op_cat (pe_slice (sl_listK K) (pv 11) po_none (po_some (pe_un un_neg pe_int))) (pv 12)) (pe_slice (sl_listK K) (pv 11) (po_some (pe_un un_neg pe_int)) po_none)) pa_nil)))))))))) (pss_cons (ps_fldK K (pv 0) (pcall T.common_of (ok_common_of T) (hr.mono (by decide)) (pa_cons (pe_lc (own := [("n", 9), ("d", 10)]) (g := (gTup K 2 (gCons (gName 9) (gCons (gName 10) gNil)))) (tt := tYes) rfl sc_T_init.nd (pi_listK K (pv 2)) (blkOk_by (N := ["self", "columns", "costs", "target", "i", "aim", "whole", "column", "scale", "n", "d", "numbers", "unit", "k", "j", "row"]) (sc := defScope s_T_init) (by decide +kernel)) (fun _ _ _ _ _ => (pg_tup rfl (pgs_cons (pg_name (i := 9) sc_T_init.nd rfl (.inl rfl)) (pgs_cons (pg_name (i := 10) sc_T_init.nd rfl (.inl rfl)) pgs_nil)))) (fun _ _ _ _ _ => pts_nil) (fun _ _ _ _ _ => (pv 10))) pa_nil)) rfl) (pss_cons (ps_fldK K (pv 0) (pe_op op_cat (pe_lc (own := [("n", 9), ("d", 10)]) (g := (gTup K 2 (gCons (gName 9) (gCons (gName 10) gNil)))) (tt := tYes) rfl sc_T_init.nd (pi_listK K (pv 2)) (blkOk_by (N := ["self", "columns", "costs", "target", "i", "aim", "whole", "column", "scale", "n", "d", "numbers", "unit", "k", "j", "row"]) (sc := defScope s_T_init) (by decide +kernel)) (fun _ _ _ _ _ => (pg_tup rfl (pgs_cons (pg_name (i := 9) sc_T_init.nd rfl (.inl rfl)) (pgs_cons (pg_name (i := 10) sc_T_init.nd rfl (.inl rfl)) pgs_nil)))) (fun _ _ _ _ _ => pts_nil) (fun _ _ _ _ _ => (pe_op op_fdivW (pe_op op_mulW (pv 9) (pe_fldK K (pv 0) rfl)) (pv 10)))) (pe_op op_rep (pe_lst (pa_cons pe_int pa_nil)) (pe_op op_add (pe_fldK K (pv 0) rfl) pe_int))) rfl) (pss_cons (ps_fldK K (pv 0) (pe_op op_cat (pe_lc (own := [("j", 14)]) (g := (gName 14)) (tt := tYes) rfl sc_T_init.nd (pi_range1 rfl T.b_range (pa_cons (pe_fldK K (pv 0) rfl) pa_nil)) (blkOk_by (N := ["self", "columns", "costs", "target", "i", "aim", "whole", "column", "scale", "n", "d", "numbers", "unit", "k", "j", "row"]) (sc := defScope s_T_init) (by decide +kernel)) (fun _ _ _ _ _ => (pg_name (i := 14) sc_T_init.nd rfl (.inr rfl))) (fun _ _ _ _ _ => pts_nil) (fun _ _ _ _ _ => (pe_un un_neg (pe_callB (k_sum K rfl) rfl T.b_sum (by decide +kernel) (pa_cons (pe_lc (own := [("row", 15)]) (g := (gName 15)) (tt := tYes) rfl sc_T_init.nd (pi_listK K (pe_fldK K (pv 0) rfl)) (blkOk_by (by kernel_rfl)) (fun _ _ _ _ _ => (pg_name (i := 15) sc_T_init.nd rfl (.inl rfl))) (fun _ _ _ _ _ => pts_nil) (fun _ _ _ _ _ => (pe_ix (ix_listK K) (pv 15) (pv 14) (fun _ _ => rfl)))) pa_nil))))) (pe_op op_rep (pe_lst (pa_cons pe_int pa_nil)) (pe_fldK K (pv 0) rfl))) rfl) (pss_cons (ps_expr (pe_bmK K PySem.F.plainAttrs_list PySem.F.slot_list_append PySem.F.type_list_append mt_append (pe_fldK K (pv 0) rfl) (pa_cons (pe_un un_neg (pe_callB (k_sum K rfl) rfl T.b_sum (by decide +kernel) (pa_cons (pe_lc (own := [("row", 15)]) (g := (gName 15)) (tt := tYes) rfl sc_T_init.nd (pi_listK K (pe_fldK K (pv 0) rfl)) (blkOk_by (N := ["self", "columns", "costs", "target", "i", "aim", "whole", "column", "scale", "n", "d", "numbers", "unit", "k", "j", "row"]) (sc := defScope s_T_init) (by decide +kernel)) (fun _ _ _ _ _ => (pg_name (i := 15) sc_T_init.nd rfl (.inl rfl))) (fun _ _ _ _ _ => pts_nil) (fun _ _ _ _ _ => (pe_ix (ix_listK K) (pv 15) (pe_un un_neg pe_int) (fun _ _ => rfl)))) pa_nil))) pa_nil))) (pss_one (ps_fldK K (pv 0) (pe_lc (own := [("i", 4)]) (g := (gName 4)) (tt := tYes) rfl sc_T_init.nd (pi_range1 rfl T.b_range (pa_cons (pe_fldK K (pv 0) rfl) pa_nil)) (blkOk_by (N := ["self", "columns", "costs", "target", "i", "aim", "whole", "column", "scale", "n", "d", "numbers", "unit", "k", "j", "row"]) (sc := defScope s_T_init) (by decide +kernel)) (fun _ _ _ _ _ => (pg_name (i := 4) sc_T_init.nd rfl (.inl rfl))) (fun _ _ _ _ _ => pts_nil) (fun _ _ _ _ _ => (pe_op op_add (pe_fldK K (pv 0) rfl) (pv 4)))) rfl))))))))))))), ?_⟩
    -- the first attributes
    refine st_seq (st_fld (fs := []) (v_len (k1 := false) (R := iRow K) (val_var rfl) (mCols.to s0 h1)) (val_var rfl) ho T.cl T.n_many (by decide) ?_)
    dsimp only
    have s1 : Same H0 (upd H p (.ins T.C dx (putF ("many" : Str) (.int (cols.length : Int)) []))) := same_put s0 p0
    refine st_seq (st_fld (fs := putF ("many" : Str) (.int (cols.length : Int)) []) (v_len (k1 := true) (R := iQ K) (val_var rfl) (mRow.to s1 h3)) (val_var rfl) upd_same T.cl T.n_levels (by show 1 < 1000; decide) ?_)
    rw [upd_upd]
    dsimp only
    refine st_seq (st_fld (fs := putF ("levels" : Str) (.int (ts.length : Int)) (putF ("many" : Str) (.int (cols.length : Int)) [])) val_c (val_var rfl) upd_same T.cl T.n_over (by show 2 < 1000; decide) ?_)
    rw [upd_upd]
    dsimp only
    have e3 : putF ("over" : Str) (.int 1) (putF ("levels" : Str) (.int (ts.length : Int)) (putF ("many" : Str) (.int (cols.length : Int)) [])) = if3 cols.length ts.length := rfl
    rw [e3]
    clear s1 e3
    refine st_seq (st_fld' (R := NewL iI _ []) vs_nil (fun _ => val_var rfl) upd_same T.cl T.n_scales (by show 3 < 1000; decide) fun u H4 s4 hu => ?_)
    obtain ⟨sp, rfl, hsp, hsn⟩ := hu
    have s04 : Same H0 H4 := (same_put s0 p0).trans s4
    have hsp0 : H0 sp = none := (same_put s0 p0).free hsp
    have ob4 := s4 _ _ (upd_same (H := H) (a := p))
    have e4 : putF ("scales" : Str) (.ref sp) (if3 cols.length ts.length) = if4 cols.length ts.length sp := rfl
    rw [e4]
    dsimp only
    refine st_seq (st_fld' (R := NewL (iR2 sp sp) _ []) vs_nil (fun _ => val_var rfl) upd_same T.cl T.n_rows (by show 4 < 1000; decide) fun u H5 s5 hu => ?_)
    obtain ⟨rp, rfl, hrp, hrn⟩ := hu
    have e5 : putF ("rows" : Str) (.ref rp) (if4 cols.length ts.length sp) = ifs cols.length ts.length sp rp := rfl
    rw [e5]
    dsimp only
    have hrp0 : H0 rp = none := (same_put (o := .ins T.C dx (if4 cols.length ts.length sp)) s04 p0).free hrp
    have hs4 := robj_nL (o := .ins T.C dx (if4 cols.length ts.length sp)) ob4 hsn
    have hne : sp ≠ rp := by
      obtain ⟨vs, g1, _⟩ := hs4
      exact ne_of_none g1 hrp
    have ia : IA T.C H0 (upd H5 p (.ins T.C dx (ifs cols.length ts.length sp rp))) p dx (ifs cols.length ts.length sp rp) sp rp (rowL 0 (sclOf cols ts)) ((List.range 0).map fun k => rowL (cols.length + ts.length + 1) (AAr cols ts k)) := by
      have ob5 := s5 _ _ (upd_same (H := H4) (a := p))
      refine ⟨upd_same, same_put ((same_put s04 p0).trans s5) p0, p0, hsp0, hrp0, hne, ?_, ?_⟩
      · obtain ⟨vs, g1, g2⟩ := hs4
        exact robj_nL ob5 ⟨vs, s5 _ _ g1, g2⟩
      · obtain ⟨vs, g1, g2⟩ := hrn
        cases g2
        exact ⟨[], by rw [upd_ne (ne_of g1 ob5 (by intro z; cases z))]; exact g1, .nil⟩
    clear hs4 hsn hrn s4 s5
    generalize upd H5 p (.ins T.C dx (ifs cols.length ts.length sp rp)) = H6 at ia ⊢
    have hcolat : ∀ i, i < ts.length → ∀ c ∈ cols, c[i]? = some (Mx.vF c i) := fun i hi c hc => get_vF (by rw [lp.rl c hc]; exact hi)
    have hlvl : ∀ i, (lvlOf cols i).length = cols.length := fun i => by unfold lvlOf; rw [List.length_map]
    have hsb : ∀ i, i < ts.length → Bd 4 (sclOf cols ts i) := fun i hi => by
      have := Nat.le_of_dvd (by decide) (Int.natAbs_dvd_natAbs.mpr (scl_ok lp hi).2.2)
      have h12 : (12 : Int).natAbs = 12 := rfl
      unfold Bd; omega
    have hcb : Bd 4 (cscOf cs) := by
      have := Nat.le_of_dvd (by decide) (Int.natAbs_dvd_natAbs.mpr (csc_ok lp).2.2)
      have h12 : (12 : Int).natAbs = 12 := rfl
      unfold Bd; omega
    refine st_seq (st_forG (R := iP K iI (iQ K)) (xs := numd ts) (fun i σ H' => ∃ z4 z5 z6 z7 z8 z9 z10 z11 z12 z13 z14 z15, σ = [some (.ref p), some v1, some v2, some v3, z4, z5, z6, z7, z8, z9, z10, z11, z12, z13, z14, z15] ∧ IA T.C H0 H' p dx (ifs cols.length ts.length sp rp) sp rp (rowL i (sclOf cols ts)) ((List.range i).map fun k => rowL (cols.length + ts.length + 1) (AAr cols ts k)))
      (wsg_enum (k1 := true) mQ (va1 (val_var rfl)) ia.s0 h3) (fun H7 s7 => ⟨none, none, none, none, none, none, none, none, none, none, none, none, rfl, ia.to s7⟩) (fun _ _ _ h => by obtain ⟨_, _, _, _, _, _, _, _, _, _, _, _, _, t⟩ := h; exact t.s0) ?_ ?_)
    · rintro i x v σ2 H7 H8 hx ⟨z4, z5, z6, z7, z8, z9, z10, z11, z12, z13, z14, z15, rfl, t7⟩ s8 hp
      have hi : i < ts.length := by have := (List.getElem?_eq_some_iff.mp hx).1; rw [numd_len] at this; exact this
      rw [numd_get (get_vF hi)] at hx
      cases hx
      refine g_pair hp fun vi va hvi hva => ?_
      have hvi : vi = .int (i : Int) := hvi
      subst hvi
      have t8 := t7.to s8
      dsimp only
      refine st_seq (st_set' (R := NewL (iQ K) H8 (lvlOf cols i ++ [Mx.vF ts i])) (vs_cat mQ (VS.imp (vs_lcN (R := iRow K) (Z := iQ K) robQ mQ (fun c => Mx.vF c i) (ws_list mRow (vsv (val_var rfl) (mCols.to t8.s0 h1))) (sizeLine_ge (by omega)) (fun _ => rfl) fun c vc H9 hm s9 hc => VS.el (vs_ixT (val_var rfl) (val_var rfl) hc (hcolat i hi c hm))) fun u H s h => h.n) (fun H9 s9 => VS.imp (vs_lst1 mQ (vsv (val_var rfl) (mQ.to s9 hva))) fun u H s h => h.n) (by
        show (lvlOf cols i).length + 1 ≤ sizeLine
        rw [hlvl]; exact sizeLine_ge (by omega))) fun u H9 s9 hu => ?_)
      obtain ⟨wa, rfl, hwa, hwn⟩ := hu
      dsimp only
      have wl : (lvlOf cols i ++ [Mx.vF ts i]).length = cols.length + 1 := by rw [List.length_append, hlvl]; rfl
      have hlim := whole_lim lp hi
      have t9 := t8.to s9
      refine st_seq (st_set' (R := fun v _ => v = .int (sclOf cols ts i)) (vs_mulI (vs_common T (vsv (val_var rfl) hwn.iL) (by rw [wl]; omega) hlim (fun _ _ => rfl) (fun _ _ => rfl)) (fun H10 s10 => vs_if (b := decide ((Mx.vF ts i).num < 0)) (as_test (vsv (vcmp (f := fun i j => decide (i < j)) (vnum rfl (mQ.to (s9.trans s10) hva)) val_c) rfl)) (fun hb H s => vsv val_neg1 (by rw [if_pos (of_decide_eq_true hb)])) fun hb H s => vsv val_c (by rw [if_neg (of_decide_eq_false hb)])) (wide_mul (a := 4) (b := 1) (by
        obtain ⟨g1, g2, g3⟩ := dens_ok hlim
        have := Int.le_of_dvd (by decide) g3
        omega) (by split <;> decide) (by decide) (by decide) (by decide))) fun u H10 s10 e => ?_)
      subst e
      dsimp only
      have t10 := t9.to s10
      have hw10 := (mL (K := K) (mQ (K := K))).to s10 hwn.iL
      refine st_seq (st_set' (vs_lcQ (Z := iI) robI mI (fun q => ent q (sclOf cols ts i)) (vsv (val_var rfl) hw10) (by rw [wl]; exact sizeLine_ge (by omega)) (fun _ _ => rfl) fun q H11 hq s11 => VS.el (vsv (vdiv (vmul (val_var rfl) (val_var rfl) (wide_mul (hlim q hq).sz.n (hsb i hi) (by decide) (by decide) (by decide))) (val_var rfl) (wide_div den_pos (hlim q hq).sz.d (by decide) (by decide))) rfl)) fun u H11 s11 hu => ?_)
      obtain ⟨na, rfl, hna, hnn⟩ := hu
      rw [List.map_append] at hnn
      dsimp only
      have t11 := t10.to s11
      refine st_seq (st_set' (R := NewL iI H11 (rowL ts.length fun k => if k = i then 1 else 0)) (VS.imp (vs_lcN (R := iI) (Z := iI) robI mI (fun k => if k = (i : Int) then 1 else 0) (ws_range1 (va1 (val_fld (val_var rfl) t11.ob T.cl T.n_levels rfl)) (by omega) (by omega)) (by rw [ups_len]; exact sizeLine_ge (by omega)) (fun _ => rfl) fun k vk H12 hm s12 hk => VS.el ?_) fun u H12 s12 hu => ?_) fun u H12 s12 hu => ?_)
      · have hk : vk = .int k := hk
        subst hk
        refine vs_if (b := decide (k = (i : Int))) (as_test (vsv (v_eq (val_var rfl) (val_var rfl) rfl) ?_)) (fun hb H s => vsv val_c (by rw [if_pos (of_decide_eq_true hb)]; rfl)) fun hb H s => vsv val_c (by rw [if_neg (of_decide_eq_false hb)]; rfl)
        rw [show decide (V.int k = V.int (i : Int)) = decide (k = (i : Int)) from decide_eq_decide.mpr ⟨fun h => by injection h, fun h => by rw [h]⟩]
      · have e : (ups 0 ((ts.length : Int)).toNat).map (fun k => if k = (i : Int) then (1 : Int) else 0) = rowL ts.length fun k => if k = i then 1 else 0 := by
          rw [Int.toNat_natCast, ups0, rowL_map]
          exact rowL_congr fun k _ => by
            by_cases z : k = i
            · rw [if_pos z, if_pos (by omega)]
            · rw [if_neg z, if_neg (by omega)]
        rw [← e]; exact hu
      obtain ⟨ua, rfl, hua, hun⟩ := hu
      dsimp only
      have t12 := t11.to s12
      refine st_seq (st_append (R := iI) (fun h => h) mI (val_fld (val_var rfl) t12.ob T.cl T.n_scales rfl) t12.hs (vsv (val_var rfl) rfl) (by rw [rowL_len]; omega) fun H13 vs13 s13 hn13 => ?_)
      have t13 := (t12.to s13).appS hn13
      dsimp only
      have hnn13 : iL K iI (upd H13 sp (.lst vs13)) (.ref na) ((lvlOf cols i).map (fun q => ent q (sclOf cols ts i)) ++ [ent (Mx.vF ts i) (sclOf cols ts i)]) := by
        obtain ⟨vs, g1, g2⟩ := hnn
        have hx : H10 sp ≠ none := by
          obtain ⟨ws, k1, _⟩ := t10.hs
          rw [k1]; simp
        exact nL.iL ⟨vs, by rw [upd_ne (fun z => hx (by rw [← z]; exact hna))]; exact s13 _ _ (s12 _ _ g1), g2⟩
      have hun13 : nL iI (upd H13 sp (.lst vs13)) ua (rowL ts.length fun k => if k = i then 1 else 0) := by
        obtain ⟨vs, g1, g2⟩ := hun
        have hx : H11 sp ≠ none := by
          obtain ⟨ws, k1, _⟩ := t11.hs
          rw [k1]; simp
        exact ⟨vs, by rw [upd_ne (fun z => hx (by rw [← z]; exact hua))]; exact s13 _ _ g1, g2⟩
      generalize upd H13 sp (.lst vs13) = H14 at t13 hnn13 hun13 ⊢
      refine st_append (R := iR2 sp rp) (x := rowL (cols.length + ts.length + 1) (AAr cols ts i)) robR2 mR2 (val_fld (val_var rfl) t13.ob T.cl T.n_rows rfl) t13.hr (VS.imp (vs_cat mI (VS.imp (vs_cat mI (VS.imp (vs_front mI (val_var rfl) hnn13) fun u H s h => h.n) (fun H15 s15 => vsv (val_var rfl) ((mN mI).to s15 ⟨ua, rfl, hun13⟩)) (by
        rw [List.length_map, hlvl, rowL_len]; exact sizeLine_ge (by omega))) fun u H s h => h.n) (fun H15 s15 => VS.imp (vs_back1 mI (val_var rfl) ((mL mI).to s15 hnn13)) fun u H s h => h.n) (by
        rw [List.length_append, List.length_map, hlvl, rowL_len]; exact sizeLine_ge (by show _ + 1 ≤ 1000; omega))) fun u H15 s15 hu => ?_) (by rw [List.length_map, List.length_range]; omega) fun H15 vs15 s15 hn15 => ?_
      · obtain ⟨a, rfl, ha, hn⟩ := hu
        rw [row_is] at hn
        refine ⟨a, rfl, ?_, ?_, hn⟩
        · obtain ⟨ws, k1, _⟩ := t13.hs
          intro z; subst z; rw [k1] at ha; cases ha
        · obtain ⟨ws, k1, _⟩ := t13.hr
          intro z; subst z; rw [k1] at ha; cases ha
      · have t15 := (t13.to s15).appR hn15
        refine ⟨_, _, _, _, _, _, _, _, _, _, _, _, rfl, ?_⟩
        rw [List.range_succ, List.map_append, rowL_last]
        exact t15
    · rintro σ7 H7 ⟨z4, z5, z6, z7, z8, z9, z10, z11, z12, z13, z14, z15, rfl, t7⟩
      rw [numd_len] at t7
      have lc := lp.cl
      dsimp only
      refine st_seq (st_fld' (R := fun v _ => v = .int (cscOf cs)) (vs_common T (vsv (val_var rfl) ((mL mQ).to t7.s0 h2)) (by omega) lp.lc (fun _ _ => rfl) (fun _ _ => rfl)) (fun _ => val_var rfl) t7.ob T.cl T.n_cost_scale (by show 5 < 1000; decide) fun u H8 s8 e => ?_)
      subst e
      have e6 : putF ("cost_scale" : Str) (.int (cscOf cs)) (ifs cols.length ts.length sp rp) = if6 cols.length ts.length sp rp (cscOf cs) := rfl
      rw [e6]
      have t8 := (t7.to s8).put (fs' := if6 cols.length ts.length sp rp (cscOf cs))
      dsimp only
      generalize upd H8 p (.ins T.C dx (if6 cols.length ts.length sp rp (cscOf cs))) = H9 at t8 ⊢
      refine st_seq (st_fld' (R := NewL iI H9 (rowL (cols.length + ts.length + 1) (AAc cols cs))) (VS.imp (vs_cat mI (VS.imp (vs_lcQ (Z := iI) robI mI (fun q => ent q (cscOf cs)) (vsv (val_var rfl) ((mL mQ).to t8.s0 h2)) (sizeLine_ge (by omega)) (fun _ _ => rfl) fun q H10 hq s10 => VS.el (vsv (vdiv (vmul (val_var rfl) (val_fld (val_var rfl) (t8.to s10).ob T.cl T.n_cost_scale rfl) (wide_mul (lp.lc q hq).sz.n hcb (by decide) (by decide) (by decide))) (val_var rfl) (wide_div den_pos (lp.lc q hq).sz.d (by decide) (by decide))) rfl)) fun u H s h => h.n)
        (fun H10 s10 => VS.imp (vs_rep (x := (0 : Int)) (n := ts.length + 1) mI (vsv val_c rfl) (fun H11 s11 => vadd (val_fld (val_var rfl) (t8.to (s10.trans s11)).ob T.cl T.n_levels rfl) val_c) (by omega)) fun u H s h => h.n) (by rw [List.length_map, List.length_replicate]; exact sizeLine_ge (by omega))) fun u H s h => by rw [row_c lc] at h; exact h) (fun _ => val_var rfl) t8.ob T.cl T.n_costs (by show 6 < 1000; decide) fun u H10 s10 hu => ?_)
      obtain ⟨co, rfl, hco, hcn⟩ := hu
      have e7 : putF ("costs" : Str) (.ref co) (if6 cols.length ts.length sp rp (cscOf cs)) = if7 cols.length ts.length sp rp (cscOf cs) co := rfl
      rw [e7]
      have t10 := (t8.to s10).put (fs' := if7 cols.length ts.length sp rp (cscOf cs) co)
      have hcn10 := robj_nL (o := .ins T.C dx (if7 cols.length ts.length sp rp (cscOf cs) co)) (t8.to s10).ob hcn
      dsimp only
      generalize upd H10 p (.ins T.C dx (if7 cols.length ts.length sp rp (cscOf cs) co)) = H11 at t10 hcn10 ⊢
      have hrowmem : ∀ row ∈ (List.range ts.length).map (fun k => rowL (cols.length + ts.length + 1) (AAr cols ts k)), ∃ k, k < ts.length ∧ row = rowL (cols.length + ts.length + 1) (AAr cols ts k) := fun row hm => by
        obtain ⟨k, hk, e⟩ := List.mem_map.mp hm
        exact ⟨k, List.mem_range.mp hk, e.symm⟩
      have hsum : ∀ j, j < cols.length + ts.length + 1 → (((List.range ts.length).map (fun k => rowL (cols.length + ts.length + 1) (AAr cols ts k))).map fun row => row.getD j 0).sum = Mx.sm ts.length (fun i => AAr cols ts i j) := fun j hj => by
        rw [List.map_map, ← sum_sm]
        congr 1
        exact List.map_congr_left fun k _ => by
          show (rowL _ _).getD j 0 = _
          rw [List.getD_eq_getElem?_getD, rowL_get hj]; rfl
      refine st_seq (st_fld' (R := NewL iI H11 (rowL (cols.length + ts.length) (AAg cols ts))) (VS.imp (vs_cat mI (VS.imp (vs_lcN (R := iI) (Z := iI) robI mI (fun j => AAg cols ts j.toNat) (ws_range1 (va1 (val_fld (val_var rfl) t10.ob T.cl T.n_many rfl)) (by omega) (by omega)) (by rw [ups_len]; exact sizeLine_ge (by omega)) (fun _ => rfl) fun j vj H12 hm s12 hj => VS.el ?_) fun u H s h => h.n)
        (fun H12 s12 => VS.imp (vs_rep (x := (0 : Int)) (n := ts.length) mI (vsv val_c rfl) (fun H13 s13 => val_fld (val_var rfl) (t10.to (s12.trans s13)).ob T.cl T.n_levels rfl) (by omega)) fun u H s h => h.n) (by rw [List.length_map, ups_len, List.length_replicate]; exact sizeLine_ge (by omega))) fun u H s h => ?_) (fun _ => val_var rfl) t10.ob T.cl T.n_gaps (by show 7 < 1000; decide) fun u H12 s12 hu => ?_)
      · unfold ups at hm
        obtain ⟨j', hj', e⟩ := List.mem_map.mp hm
        have hj' := List.mem_range.mp hj'
        have e : j = (j' : Int) := by rw [← e]; omega
        subst e
        have hj : vj = .int (j' : Int) := hj
        subst hj
        have hjn : j' < cols.length := by omega
        have t12 := t10.to s12
        refine VS.imp (vs_neg (vs_sum (ns := ((List.range ts.length).map (fun k => rowL (cols.length + ts.length + 1) (AAr cols ts k))).map fun row => row.getD j' 0) (vs_lcN (R := iR2 sp rp) (Z := iI) robI mI (fun row => row.getD j' 0) (ws_list mR2 (vsv (val_fld (val_var rfl) t12.ob T.cl T.n_rows rfl) t12.hr.iL)) (by rw [List.length_map, List.length_range]; exact sizeLine_ge (by omega)) (fun _ => rfl) fun row vr H13 hm2 s13 hr3 => VS.el ?_))) fun u H s h => ?_
        · obtain ⟨k, hk, e⟩ := hrowmem row hm2
          subst e
          refine vsv (ixI (val_var rfl) (val_var rfl) hr3.il (rowL_get (show j' < cols.length + ts.length + 1 by omega))) ?_
          rw [List.getD_eq_getElem?_getD, rowL_get (show j' < cols.length + ts.length + 1 by omega)]; rfl
        · rw [h, hsum j' (by omega)]
          show V.int _ = V.int (AAg cols ts ((j' : Int)).toNat)
          rw [Int.toNat_natCast]
          unfold AAg
          rw [if_pos (.inl hjn)]
      · have e : (ups 0 ((cols.length : Int)).toNat).map (fun j => AAg cols ts j.toNat) ++ List.replicate ts.length 0 = rowL (cols.length + ts.length) (AAg cols ts) := by
          rw [Int.toNat_natCast, ups0, rowL_map, rowL_append, rep_row]
          congr 1
          exact rowL_congr fun j hj => by unfold AAg; rw [if_neg (by omega)]
        rw [← e]; exact h
      obtain ⟨ga, rfl, hga, hgn⟩ := hu
      have e8 : putF ("gaps" : Str) (.ref ga) (if7 cols.length ts.length sp rp (cscOf cs) co) = if8 cols.length ts.length sp rp (cscOf cs) co ga := rfl
      rw [e8]
      have hgn' := robj_nL (o := .ins T.C dx (if8 cols.length ts.length sp rp (cscOf cs) co ga)) (t10.to s12).ob hgn
      have t12 := (t10.to s12).put (fs' := if8 cols.length ts.length sp rp (cscOf cs) co ga)
      have k12 : KL H11 (upd H12 p (.ins T.C dx (if8 cols.length ts.length sp rp (cscOf cs) co ga))) := (KL.of s12).put t10.ob
      have hga0 : H0 ga = none := t10.s0.free hga
      dsimp only
      generalize upd H12 p (.ins T.C dx (if8 cols.length ts.length sp rp (cscOf cs) co ga)) = H13 at t12 hgn' k12 ⊢
      refine st_seq (st_append (R := iI) (x := AAg cols ts (cols.length + ts.length)) (fun h => h) mI (val_fld (val_var rfl) t12.ob T.cl T.n_gaps rfl) hgn' (VS.imp (vs_neg (vs_sum (ns := ((List.range ts.length).map (fun k => rowL (cols.length + ts.length + 1) (AAr cols ts k))).map fun row => row.getD (cols.length + ts.length) 0) (vs_lcN (R := iR2 sp rp) (Z := iI) robI mI (fun row => row.getD (cols.length + ts.length) 0) (ws_list mR2 (vsv (val_fld (val_var rfl) t12.ob T.cl T.n_rows rfl) t12.hr.iL)) (by rw [List.length_map, List.length_range]; exact sizeLine_ge (by omega)) (fun _ => rfl) fun row vr H14 hm2 s14 hr3 => VS.el ?_))) fun u H s h => ?_) (by rw [rowL_len]; omega) fun H14 vs14 s14 hn14 => ?_)
      · obtain ⟨k, hk, e⟩ := hrowmem row hm2
        subst e
        refine vsv (ixI1 (val_var rfl) val_neg1 hr3.il) ?_
        rw [List.getD_eq_getElem?_getD, rowL_get (Nat.lt_succ_self _)]; rfl
      · rw [h, hsum _ (Nat.lt_succ_self _)]
        show V.int _ = V.int (AAg cols ts _)
        unfold AAg
        rw [if_pos (.inr rfl)]
      have hgl : nL iI (upd H14 ga (.lst vs14)) ga (rowL (cols.length + ts.length + 1) (AAg cols ts)) := by rw [rowL_last]; exact hn14
      have k14 : KL H11 (upd H14 ga (.lst vs14)) := (k12.trans (KL.of s14)).new hga
      have ob14 : upd H14 ga (.lst vs14) p = some (.ins T.C dx (if8 cols.length ts.length sp rp (cscOf cs) co ga)) := by
        obtain ⟨ws, w1, _⟩ := hgn'
        rw [upd_ne (ne_of t12.ob w1 (by intro z; cases z))]; exact s14 _ _ t12.ob
      have s014 : Same H0 (upd H14 ga (.lst vs14)) := same_put (t12.s0.trans s14) hga0
      dsimp only
      generalize upd H14 ga (.lst vs14) = H15 at hgl k14 ob14 s014 ⊢
      refine st_fld' (R := NewL iI H15 (rowL ts.length fun k => ((cols.length + k : Nat) : Int))) (VS.imp (vs_lcN (R := iI) (Z := iI) robI mI (fun i => (cols.length : Int) + i) (ws_range1 (va1 (val_fld (val_var rfl) ob14 T.cl T.n_levels rfl)) (by omega) (by omega)) (by rw [ups_len]; exact sizeLine_ge (by omega)) (fun _ => rfl) fun i vi H16 hm s16 hi => VS.el ?_) fun u H s h => ?_) (fun _ => val_var rfl) ob14 T.cl T.n_basis (by show 8 < 1000; decide) fun u H16 s16 hu => ?_
      · have hi : vi = .int i := hi
        subst hi
        exact vsv (vadd (val_fld (val_var rfl) (s16 _ _ ob14) T.cl T.n_many rfl) (val_var rfl)) rfl
      · have e : (ups 0 ((ts.length : Int)).toNat).map (fun i => (cols.length : Int) + i) = rowL ts.length fun k => ((cols.length + k : Nat) : Int) := by
          rw [Int.toNat_natCast, ups0, rowL_map]
          exact rowL_congr fun k _ => by omega
        rw [← e]; exact h
      obtain ⟨bp, rfl, hbp, hbn⟩ := hu
      have ob16 := s16 _ _ ob14
      have e9 : putF ("basis" : Str) (.ref bp) (if8 cols.length ts.length sp rp (cscOf cs) co ga) = tfs cols.length ts.length 1 (.ref sp) (.ref rp) (cscOf cs) (.ref co) (.ref ga) (.ref bp) := rfl
      rw [e9]
      have kE : KL H11 (upd H16 p (.ins T.C dx (tfs cols.length ts.length 1 (.ref sp) (.ref rp) (cscOf cs) (.ref co) (.ref ga) (.ref bp)))) := (k14.trans (KL.of s16)).put t10.ob
      refine q _ ⟨dx, .ref sp, .ref rp, .ref co, .ref ga, bp, upd_same, ⟨sp, rfl, (t10.hs.kl k14).nb hbp, t10.hs.kl kE⟩, ⟨rp, rfl, ?_, ?_⟩, ⟨co, rfl, (hcn10.kl k14).nb hbp, ?_⟩, ⟨ga, rfl, hgl.nb hbp, ?_⟩, ?_, same_put (s014.trans s16) p0, p0, s014.free hbp⟩
      · obtain ⟨ws, w1, _⟩ := t10.hr
        exact ne_of_none (k14 _ _ w1) hbp
      · have e : rowsL cols.length ts.length (T0 cols cs ts) = (List.range ts.length).map fun k => rowL (cols.length + ts.length + 1) (AAr cols ts k) := List.map_congr_left fun k hk => rowL_congr fun j _ => by
          show AA cols cs ts j k = _
          unfold AA
          rw [if_pos (List.mem_range.mp hk)]
        rw [e]
        exact t10.hr.klr k14 hbp kE
      · have e : rowL (cols.length + ts.length + 1) ((T0 cols cs ts).R ts.length) = rowL (cols.length + ts.length + 1) (AAc cols cs) := rowL_congr fun j _ => by
          show AA cols cs ts j ts.length = _
          unfold AA
          rw [if_neg (by omega), if_pos rfl]
        rw [e]
        exact hcn10.kl kE
      · have e : rowL (cols.length + ts.length + 1) ((T0 cols cs ts).R (ts.length + 1)) = rowL (cols.length + ts.length + 1) (AAg cols ts) := rowL_congr fun j _ => by
          show AA cols cs ts j (ts.length + 1) = _
          unfold AA
          rw [if_neg (by omega), if_neg (by omega)]
        rw [e]
        obtain ⟨ws, w1, w2⟩ := hgl
        exact robj_nL ob16 ⟨ws, s16 _ _ w1, w2⟩
      · exact robj_nL ob16 hbn
end
end K19
namespace K19
open PySem PySem.Spec L2
open Mx (LRes Right Art Gd)
theorem vQ {N j : Nat} {f : Nat → Rat} (hj : j < N) : Mx.vF (rowQ N f) j = f j := vF_get (rowQ_get hj)
theorem sz_frac {b : Nat} {a d : Int} (ha : Bd b a) (hd : Bd b d) (h1 : 1 ≤ b) : Sz b ((a : Rat) / (d : Rat)) := by rw [← divI]; exact sz_divInt ha hd h1
theorem small_rowQ {N b : Nat} {f : Nat → Rat} (h : ∀ j, j < N → Sz b (f j)) : Small b (rowQ N f) := fun x hx => by
  unfold rowQ at hx
  obtain ⟨j, hj, rfl⟩ := List.mem_map.mp hx
  exact h j (List.mem_range.mp hj)
section
variable {n L : Nat} {A : Nat → Nat → Int} {S : Mx.St}
theorem amtI_some (g : Gd n L A S) {wv : Nat → Int} {j : Nat} : ∀ {i : Nat}, i ≤ L → amtI S wv i j = 0 ∨ ∃ k, k < L ∧ amtI S wv i j = (wv k : Rat) / S.d
  | 0, _ => .inl rfl
  | i + 1, hi => by
    rw [amtI_step g (by omega)]
    unfold Mx.up
    split
    · exact .inr ⟨i, by omega, rfl⟩
    · exact amtI_some g (by omega)
theorem amt_sz (ok : Tok n L A S) {wv : Nat → Int} (hw : ∀ k, k < L → Bd 120 (wv k)) (j : Nat) : Sz 120 (Mx.amt L S wv j) := by
  rcases amtI_some ok.gd (wv := wv) (j := j) (Nat.le_refl L) with h | ⟨k, hk, h⟩
  · show Sz 120 (amtI S wv L j)
    rw [h]; exact sz_0.mono (by decide)
  · show Sz 120 (amtI S wv L j)
    rw [h]; exact sz_frac (hw k hk) ok.bn.1 (by decide)
end
section
variable {cols : List (List Rat)} {cs ts : List Rat} {S : Mx.St}
theorem right_none (lp : LP cols cs ts) (ok : Tok cols.length ts.length (AA cols cs ts) S) (h0 : S.R (ts.length + 1) (cols.length + ts.length) ≠ 0) (h : ∀ j, j < cols.length → 0 ≤ S.R (ts.length + 1) j) :
    Right cols cs ts (.none (rowQ ts.length (Mx.slp cols.length ts.length S (sclOf cols ts)))) ∧ resSmall 125 (.none (rowQ ts.length (Mx.slp cols.length ts.length S (sclOf cols ts)))) := by
  have l5 := lp.low
  have n11 := lp.few
  obtain ⟨h1, h2⟩ := Mx.slp_ok ok.gd (scA lp) ok.lp ok.fe h h0
  refine ⟨⟨rowQ_len, fun j hj => ?_, ?_⟩, small_rowQ fun i hi => ?_⟩
  · rw [Mx.sm_congr fun i hi => by rw [vQ hi]]; exact h1 j hj
  · rw [Mx.sm_congr fun i hi => by rw [vQ hi]]; exact h2
  · have bs : Bd 4 (sclOf cols ts i) := by
      have := Nat.le_of_dvd (by decide) (Int.natAbs_dvd_natAbs.mpr (scl_ok lp hi).2.2)
      have h12 : (12 : Int).natAbs = 12 := rfl
      unfold Bd; omega
    exact sz_frac ((bd_mul (bd_sub (ok.bn.2 (ts.length + 1) (by omega) (cols.length + i) (by omega)) ok.bn.1) bs).mono (by decide)) (ok.bn.1.mono (by decide)) (by decide)
theorem amt_right (lp : LP cols cs ts) (ok : Tok cols.length ts.length (AA cols cs ts) S) (ar : Art cols.length ts.length S) :
    Mx.Nn cols.length (Mx.vF (rowQ cols.length (Mx.amt ts.length S fun k => S.R k (cols.length + ts.length)))) ∧ Mx.Rc cols.length ts.length (Mx.colF cols) (Mx.vF ts) (Mx.vF (rowQ cols.length (Mx.amt ts.length S fun k => S.R k (cols.length + ts.length)))) ∧ Small 120 (rowQ cols.length (Mx.amt ts.length S fun k => S.R k (cols.length + ts.length))) :=
  ⟨(Mx.amt_nn ok.gd fun k hk _ => ok.fe k hk).congr fun j hj => (vQ hj).symm, (Mx.amt_reach ok.gd (scA lp) fun k hk hb => (ar k hk hb).2).congr fun j hj => (vQ hj).symm,
   small_rowQ fun j hj => amt_sz ok (fun k hk => ok.bn.2 k (by omega) (cols.length + ts.length) (by omega)) j⟩
theorem right_least (lp : LP cols cs ts) (ok : Tok cols.length ts.length (AA cols cs ts) S) (ar : Art cols.length ts.length S) (h : ∀ j, j < cols.length → 0 ≤ S.R ts.length j) :
    Right cols cs ts (.least (rowQ cols.length (Mx.amt ts.length S fun k => S.R k (cols.length + ts.length))) (rowQ ts.length (Mx.prc cols.length ts.length S (sclOf cols ts) (cscOf cs)))) ∧ resSmall 125 (.least (rowQ cols.length (Mx.amt ts.length S fun k => S.R k (cols.length + ts.length))) (rowQ ts.length (Mx.prc cols.length ts.length S (sclOf cols ts) (cscOf cs)))) := by
  have l5 := lp.low
  have n11 := lp.few
  obtain ⟨a1, a2, a3⟩ := amt_right lp ok ar
  have p1 := Mx.prc_ok ok.gd (scA lp) ok.lp h
  have p2 := Mx.prc_cost ok.gd (scA lp) ok.lp
  refine ⟨⟨rowQ_len, rowQ_len, a1, a2, fun j hj => ?_, ?_⟩, fun x hx => (a3 x hx).mono (by decide), small_rowQ fun i hi => ?_⟩
  · rw [Mx.sm_congr fun i hi => by rw [vQ hi]]; exact p1 j hj
  · rw [Mx.sm_congr fun i hi => by rw [vQ hi], p2]
    exact Mx.sm_congr fun j hj => by rw [vQ hj]
  · have bs : Bd 4 (sclOf cols ts i) := by
      have := Nat.le_of_dvd (by decide) (Int.natAbs_dvd_natAbs.mpr (scl_ok lp hi).2.2)
      have h12 : (12 : Int).natAbs = 12 := rfl
      unfold Bd; omega
    have bc : Bd 4 (cscOf cs) := by
      have := Nat.le_of_dvd (by decide) (Int.natAbs_dvd_natAbs.mpr (csc_ok lp).2.2)
      have h12 : (12 : Int).natAbs = 12 := rfl
      unfold Bd; omega
    exact sz_frac ((bd_mul (bd_neg (ok.bn.2 ts.length (by omega) (cols.length + i) (by omega))) bs).mono (by decide)) ((bd_mul ok.bn.1 bc).mono (by decide)) (by decide)
theorem right_endless (lp : LP cols cs ts) (ok : Tok cols.length ts.length (AA cols cs ts) S) (ar : Art cols.length ts.length S) {e : Nat} (he : e < cols.length) (hn : S.R ts.length e < 0) (h : ∀ k, k < ts.length → S.R k e ≤ 0) :
    Right cols cs ts (.endless (rowQ cols.length (Mx.amt ts.length S fun k => S.R k (cols.length + ts.length))) (rowQ cols.length (Mx.mor ts.length S e))) ∧ resSmall 125 (.endless (rowQ cols.length (Mx.amt ts.length S fun k => S.R k (cols.length + ts.length))) (rowQ cols.length (Mx.mor ts.length S e))) := by
  obtain ⟨a1, a2, a3⟩ := amt_right lp ok ar
  obtain ⟨m1, m2, m3⟩ := Mx.mor_ok ok.gd (scA lp) ar he hn h
  refine ⟨⟨rowQ_len, rowQ_len, a1, a2, m1.congr fun j hj => (vQ hj).symm, m2.congr fun j hj => (vQ hj).symm, ?_⟩, fun x hx => (a3 x hx).mono (by decide), small_rowQ fun j hj => ?_⟩
  · rw [Mx.sm_congr fun j hj => by rw [vQ hj]]; exact m3
  · unfold Mx.mor
    split
    · exact sz_1.mono (by decide)
    · exact (amt_sz ok (fun k hk => bd_neg (ok.bn.2 k (by omega) e (by omega))) j).mono (by decide)
end
section
variable {P : Program} {w : World} {K : PySem.W.Frag} {mg : Str → Option Value} {base : Heap}
def spLeast (K : PySem.W.Frag) : Sp := fun vs H Q _ => ∃ v1 v2 v3 cols cs ts, vs = [v1, v2, v3] ∧ iCols K H v1 cols ∧ iL K (iQ K) H v2 cs ∧ iRow K H v3 ts ∧ LP cols cs ts ∧
  ∀ u H' r, Same H H' → iRes K H' u r → Right cols cs ts r → resSmall 125 r → Q u H'
theorem tup2 {σ : L2.St} {H : Hp} {ta tb : TE} {s : Str} {α : Type} {R : Rp α} {x : α} {Q : VK} (m : Mon R) (h : Val ta σ H (.str s)) (g : VS tb σ H (fun v H' => R H' v x)) (q : ∀ a v H', Same H H' → SqT K H' a [.str s, v] → R H' v x → Q (.ref a) H') : tTup (tCons ta (tCons tb tNil)) σ H Q :=
  h _ (g _ fun v H1 s1 hv => ⟨by show 2 ≤ sizeLine; decide, fun a ha => q a v _ (s1.trans (same_new ha)) (SqT.of upd_same) (m.to (same_new ha) hv)⟩)
theorem tup3 {σ : L2.St} {H : Hp} {ta tb tc : TE} {s : Str} {α β : Type} {R : Rp α} {S : Rp β} {x : α} {y : β} {Q : VK} (m : Mon R) (m2 : Mon S) (h : Val ta σ H (.str s)) (g : VS tb σ H (fun v H' => R H' v x)) (g2 : ∀ H', Same H H' → VS tc σ H' (fun v H2 => S H2 v y))
    (q : ∀ a v u H', Same H H' → SqT K H' a [.str s, v, u] → R H' v x → S H' u y → Q (.ref a) H') : tTup (tCons ta (tCons tb (tCons tc tNil))) σ H Q :=
  h _ (g _ fun v H1 s1 hv => g2 H1 s1 _ fun u H2 s2 hu => ⟨by show 3 ≤ sizeLine; decide, fun a ha => q a v u _ ((s1.trans s2).trans (same_new ha)) (SqT.of upd_same) (m.to (s2.trans (same_new ha)) hv) (m2.to (same_new ha) hu)⟩)
section
variable {n L : Nat} {d : Int} {vsc vrw vco vga vba : V} {cs : Int}
theorem tfs_reach : (tfs n L d vsc vrw cs vco vga vba).lookup ("reach" : Str) = none := rfl
theorem tfs_slope : (tfs n L d vsc vrw cs vco vga vba).lookup ("slope" : Str) = none := rfl
theorem tfs_improve : (tfs n L d vsc vrw cs vco vga vba).lookup ("improve" : Str) = none := rfl
theorem tfs_amounts : (tfs n L d vsc vrw cs vco vga vba).lookup ("amounts" : Str) = none := rfl
theorem tfs_prices : (tfs n L d vsc vrw cs vco vga vba).lookup ("prices" : Str) = none := rfl
theorem tfs_more : (tfs n L d vsc vrw cs vco vga vba).lookup ("more" : Str) = none := rfl
end
theorem st_make {C : Addr} {sp : Sp} {t : TA} {σ : L2.St} {H : Hp} {D : Ends} {i : Nat} {A : List V → Hp → Prop} (hA : VSA t σ H A) (g : ∀ vs H1, Same H H1 → A vs H1 → ∀ x dx, H1 x = none → H1 dx = none → dx ≠ x →
    sp (.ref x :: (vs ++ [])) (upd (upd H1 dx (.own x)) x (.ins C dx [])) (fun v H2 => v = .non ∧ D.nx (σ.set i (some (.ref x))) H2) E0) : tAsg (tMake C sp [] E0 t) (gName i) D σ H := hA _ fun vs H1 s a x dx h1 h2 h3 => g vs H1 s a x dx h1 h2 h3
theorem st_dmeth {C dx : Addr} {sp : Sp} {m : Str} {ta : TE} {t : TA} {σ : L2.St} {H : Hp} {D : Ends} {a : Addr} {fs : List (Str × V)} {vs : List V} (h : Val ta σ H (.ref a)) (ho : H a = some (.ins C dx fs)) (hl : fs.lookup m = none) (hA : ValA t σ H vs)
    (g : sp (.ref a :: (vs ++ [])) H (fun _ H' => D.nx σ H') E0) : tDrop (tMeth C m sp [] E0 ta t) D σ H := h _ ⟨a, dx, fs, rfl, ho, hl, hA _ g⟩
theorem st_smeth {C dx : Addr} {sp : Sp} {m : Str} {ta : TE} {t : TA} {σ : L2.St} {H : Hp} {D : Ends} {a : Addr} {i : Nat} {fs : List (Str × V)} {vs : List V} (h : Val ta σ H (.ref a)) (ho : H a = some (.ins C dx fs)) (hl : fs.lookup m = none) (hA : ValA t σ H vs)
    (g : sp (.ref a :: (vs ++ [])) H (fun v H' => D.nx (σ.set i (some v)) H') E0) : tAsg (tMeth C m sp [] E0 ta t) (gName i) D σ H := h _ ⟨a, dx, fs, rfl, ho, hl, hA _ g⟩
theorem st_rt2 {te : TE} {D : Ends} {σ : L2.St} {H : Hp} (h : te σ H D.rt) : tRet te D σ H := h
theorem sc_least : FnScope ["columns", "costs", "target", "table", "helper"] ["columns", "costs", "target"] (defScope s_least) := ⟨rfl, rfl, rfl, by decide +kernel, rfl, by decide +kernel, by decide +kernel⟩
theorem ok_least (T : Txt K mg) : FnOk P w K mg base CX0 4 T.least.f T.least.fd ["columns", "costs", "target"] (spLeast K) := by
  refine T.least.F.ok sc_least (fun vs H Q E h => ?_) (fun cdv A outer s H vs Q E hr h => ?_)
  · obtain ⟨_, _, _, _, _, _, rfl, _⟩ := h; rfl
  · obtain ⟨v1, v2, v3, cols, cs, ts, rfl, h1, h2, h3, lp, q⟩ := h
    refine ⟨_, (PSs.nox (pss_cons (ps_set (i := 3) sc_least.nd rfl (.inl rfl) (pe_make T.mkT (ok_T_init T) (hr.mono (by decide)) rfl T.gC T.T_init.b .nil pass0 (pa_cons (pv 0) (pa_cons (pe_callTy (k_list K) rfl T.b_list (by decide +kernel) (pa_cons (pv 1) pa_nil)) (pa_cons (pv 2) pa_nil))))) (pss_cons (ps_expr (pmeth0 T.T_reach T.cl (ok_T_reach T) (hr.mono (by decide)) (pv 3))) (pss_cons (ps_if (pt_not (pt_val (pmeth0 T.T_is_reached T.cl (ok_T_is_reached T) (hr.mono (by decide)) (pv 3)))) (pss_one (ps_ret (pe_tup (pa_cons pe_str (pa_cons (pmeth0 T.T_slope T.cl (ok_T_slope T) (hr.mono (by decide)) (pv 3)) pa_nil))))) pss_nil) (pss_cons (ps_set (i := 4) sc_least.nd rfl (.inl rfl) (pmeth0 T.T_improve T.cl (ok_T_improve T) (hr.mono (by decide)) (pv 3))) (pss_cons (ps_if (pt_cmpR op_isN (pv 4) pe_non (nomark _)) (pss_one (ps_ret (pe_tup (pa_cons pe_str (pa_cons (pmeth0 T.T_amounts T.cl (ok_T_amounts T) (hr.mono (by decide)) (pv 3)) (pa_cons (pmeth0 T.T_prices T.cl (ok_T_prices T) (hr.mono (by decide)) (pv 3)) pa_nil)))))) pss_nil) (pss_one (ps_ret (pe_tup (pa_cons pe_str (pa_cons (pmeth0 T.T_amounts T.cl (ok_T_amounts T) (hr.mono (by decide)) (pv 3)) (pa_cons (pmeth T.T_more T.cl (ok_T_more T) (hr.mono (by decide)) (pv 3) (pa_cons (pv 4) pa_nil)) pa_nil)))))))))))), ?_⟩
    have bS : ∀ i, i < ts.length → Bd 10 (sclOf cols ts i) := fun i hi => by
      have := Nat.le_of_dvd (by decide) (Int.natAbs_dvd_natAbs.mpr (scl_ok lp hi).2.2)
      have h12 : (12 : Int).natAbs = 12 := rfl
      unfold Bd; omega
    have bC : Bd 10 (cscOf cs) := by
      have := Nat.le_of_dvd (by decide) (Int.natAbs_dvd_natAbs.mpr (csc_ok lp).2.2)
      have h12 : (12 : Int).natAbs = 12 := rfl
      unfold Bd; omega
    refine st_seq (st_make (A := fun vs H1 => ∃ la, vs = [v1, .ref la, v3] ∧ nL (iQ K) H1 la cs) (fun Q' k => ?_) fun vs H1 s1 ⟨la, e, hln⟩ p dx hp hdx hne => ?_)
    · refine val_var (i := 0) (v := v1) rfl _ ?_
      refine vs_list (k1 := false) (mQ (K := K)) (vsv (val_var (i := 1) (v := v2) rfl) h2) _ fun u H1 s1 hu => ?_
      obtain ⟨la, e, _, hln⟩ := hu
      refine val_var (i := 2) (v := v3) rfl _ ?_
      exact k _ _ s1 ⟨la, by rw [e], hln⟩
    subst e
    have hp0 : upd H1 dx (.own p) p = none := by rw [upd_ne (Ne.symm hne)]; exact hp
    have s10 : Same H1 (upd H1 dx (.own p)) := same_new hdx
    have s1' := s1.trans s10
    refine ⟨p, dx, upd H1 dx (.own p), v1, .ref la, v3, cols, cs, ts, rfl, upd_same, same_new hp0, hp0, mCols.to s1' h1, (mL mQ).to s10 hln.iL, mRow.to s1' h3, lp, fun H2 ht2 => ⟨rfl, ?_⟩⟩
    generalize upd H1 dx (.own p) = H0 at hp0 s10 s1' ht2
    dsimp only
    obtain ⟨dx2, a1, a2, a3, a4, bp2, t2⟩ := id ht2
    refine st_seq (st_dmeth (val_var rfl) t2.ob tfs_reach va_nil ?_)
    refine ⟨p, H0, cols.length, ts.length, _, cscOf cs, _, AA cols cs ts, rfl, ht2, tokA lp, fun S3 H3 ht3 ok3 hor => ?_⟩
    dsimp only
    obtain ⟨dx3, b1, b2, b3, b4, bp3, t3⟩ := id ht3
    have hrd : AS (tNot (tB (tMeth T.C "is_reached" (spReached T.C) [] E0 (tVar 3) tNil))) [some v1, some v2, some v3, some (.ref p), none] H3 (!decide (S3.R (ts.length + 1) (cols.length + ts.length) = 0)) :=
      as_not (as_val (vs_methV (val_var rfl) t3.ob tfs_reached va_nil fun Q' k => ⟨p, H0, cols.length, ts.length, _, cscOf cs, S3, rfl, ht3, k _ _ (Same.refl _) rfl⟩))
    rcases hor with ⟨hz, hge⟩ | ⟨hz, har⟩
    · refine st_seq (st_yes' (hrd.to (by rw [decide_eq_false hz]; rfl)) fun H4 s4 => st_rt2 ?_)
      have ht4 := ht3.to s4
      obtain ⟨dx4, c1, c2, c3, c4, bp4, t4⟩ := id ht4
      obtain ⟨r1, r2⟩ := right_none lp ok3 hz hge
      refine tup2 (K := K) mRow val_c (vs_methV (val_var rfl) t4.ob tfs_slope va_nil fun Q' k => ⟨p, H0, cols.length, ts.length, _, cscOf cs, S3, AA cols cs ts, rfl, ht4, ok3, bS, fun u H5 s5 hu => k u H5 s5 hu⟩) fun a v H5 s5 ha hv => ?_
      exact q _ H5 _ (s1'.trans (t4.s0.trans s5)) (show iRes K H5 (.ref a) (.none _) from ⟨a, v, rfl, ha, hv⟩) r1 r2
    · refine st_seq (st_no' (hrd.to (by rw [decide_eq_true hz]; rfl)) fun H4 s4 => st_next ?_)
      dsimp only
      have ht4 := ht3.to s4
      obtain ⟨dx4, c1, c2, c3, c4, bp4, t4⟩ := id ht4
      refine st_seq (st_smeth (val_var rfl) t4.ob tfs_improve va_nil ?_)
      refine ⟨p, H0, cols.length, ts.length, _, cscOf cs, S3, AA cols cs ts, rfl, ht4, ok3, har, fun S5 H5 ht5 ok5 ar5 hge => ?_, fun S5 H5 e ht5 ok5 ar5 he hn hno => ?_⟩
      · dsimp only
        refine st_seq (st_yes' (as_of (ans_isN (val_var rfl) rfl)) fun H6 s6 => st_rt2 ?_)
        have ht6 := ht5.to s6
        obtain ⟨dx6, c1, c2, c3, c4, bp6, t6⟩ := id ht6
        obtain ⟨r1, r2⟩ := right_least lp ok5 ar5 hge
        refine tup3 (K := K) mRow mRow val_c (vs_methV (val_var rfl) t6.ob tfs_amounts va_nil fun Q' k => ⟨p, H0, cols.length, ts.length, _, cscOf cs, S5, AA cols cs ts, rfl, ht6, ok5, fun u H7 s7 hu => k u H7 s7 hu⟩) (fun H7 s7 => vs_methV (val_var rfl) (t6.to s7).ob tfs_prices va_nil fun Q' k => ⟨p, H0, cols.length, ts.length, _, cscOf cs, S5, AA cols cs ts, rfl, ht6.to s7, ok5, (csc_ok lp).1, bC, bS, fun u H8 s8 hu => k u H8 s8 hu⟩) fun a v u H7 s7 ha hv hu => ?_
        exact q _ H7 _ (s1'.trans (t6.s0.trans s7)) (show iRes K H7 (.ref a) (.least _ _) from ⟨a, v, u, rfl, ha, hv, hu⟩) r1 r2
      · dsimp only
        refine st_seq (st_no (ans_isN (val_var rfl) rfl) (st_next ?_))
        dsimp only
        refine st_rt2 ?_
        obtain ⟨dx5, c1, c2, c3, c4, bp5, t5⟩ := id ht5
        obtain ⟨r1, r2⟩ := right_endless lp ok5 ar5 he hn hno
        have hbe : ∀ k, k < ts.length → S5.B k ≠ e := fun k hk z => by
          have g1 := ok5.gd.basic (k := ts.length) (l := k) (by omega) hk
          rw [if_neg (by omega), z] at g1
          omega
        refine tup3 (K := K) mRow mRow val_c (vs_methV (val_var rfl) t5.ob tfs_amounts va_nil fun Q' k => ⟨p, H0, cols.length, ts.length, _, cscOf cs, S5, AA cols cs ts, rfl, ht5, ok5, fun u H7 s7 hu => k u H7 s7 hu⟩) (fun H7 s7 => vs_methV (val_var rfl) (t5.to s7).ob tfs_more (va1 (val_var rfl)) fun Q' k => ⟨p, H0, cols.length, ts.length, _, cscOf cs, S5, AA cols cs ts, e, rfl, ht5.to s7, ok5, he, hbe, fun u H8 s8 hu => k u H8 s8 hu⟩) fun a v u H7 s7 ha hv hu => ?_
        exact q _ H7 _ (s1'.trans (t5.s0.trans s7)) (show iRes K H7 (.ref a) (.endless _ _) from ⟨a, v, u, rfl, ha, hv, hu⟩) r1 r2
end
end K19
namespace K19
open PySem PySem.Spec L2
open Mx (LRes Right longer tgt Mix)
theorem op_catAK {X : Cx} (K : PySem.W.Frag) (hK : X.K = K := by rfl) : OpR X (binaryOp .Add) (rCatA K) := hK ▸ op_catA
section
variable {P : Program} {w : World} {K : PySem.W.Frag} {mg : Str → Option Value} {base : Heap}
/-- rows that the law draws -/
structure RO (L : Nat) (rows : List (List Rat)) : Prop where
  pos : 0 < rows.length
  few : rows.length ≤ 5
  low : L ≤ 3
  lens : ∀ u ∈ rows, u.length = L
  la : ∀ u ∈ rows, ∀ x ∈ u, Lim x
theorem lim0 : Lim 0 := ⟨0, by decide +kernel, by decide⟩
theorem lim1 : Lim 1 := ⟨12, by decide +kernel, by decide⟩
theorem lim_neg {q : Rat} (h : Lim q) : Lim (-q) := by
  obtain ⟨z, e, hz⟩ := h
  exact ⟨-z, by rw [Rat.intCast_neg, ← e]; grind, by rw [Int.natAbs_neg]; exact hz⟩
theorem tgt_len {L : Nat} : (tgt L).length = L + 1 := by unfold tgt; simp
theorem RO.lp {L : Nat} {rows : List (List Rat)} (h : RO L rows) {cs : List Rat} (e : cs.length = rows.length) (hc : ∀ x ∈ cs, Lim x) : LP (longer rows) cs (tgt L) where
  pos := by rw [Mx.longer_len]; exact h.pos
  few := by rw [Mx.longer_len]; have := h.few; omega
  low := by rw [tgt_len]; have := h.low; omega
  cl := by rw [Mx.longer_len]; exact e
  rl := fun c hc => by
    obtain ⟨u, hu, rfl⟩ := List.mem_map.mp hc
    rw [tgt_len, List.length_append, h.lens u hu]; rfl
  la := fun c hc x hx => by
    obtain ⟨u, hu, rfl⟩ := List.mem_map.mp hc
    rcases List.mem_append.mp hx with z | z
    · exact h.la u hu x z
    · rw [List.mem_singleton] at z; subst z; exact lim1
  lc := hc
  lt := fun x hx => by
    unfold tgt at hx
    rcases List.mem_append.mp hx with z | z
    · rw [List.eq_of_mem_replicate z]; exact lim0
    · rw [List.mem_singleton] at z; subst z; exact lim1
theorem resSmall.mono {a b : Nat} {r : LRes} (h : resSmall a r) (e : a ≤ b) : resSmall b r := by
  cases r with
  | least x y => exact ⟨fun q hq => (h.1 q hq).mono e, fun q hq => (h.2 q hq).mono e⟩
  | none s => exact fun q hq => (h q hq).mono e
  | endless x z => exact ⟨fun q hq => (h.1 q hq).mono e, fun q hq => (h.2 q hq).mono e⟩
/-- tuples put together -/
theorem vs_catT {α : Type} {R : Rp α} {σ : L2.St} {H : Hp} {ta tb : TE} {xs ys : List α} (m : Mon R) (h : VS ta σ H (fun v H' => iT K R H' v xs)) (g : ∀ H', Same H H' → VS tb σ H' (fun v H2 => iT K R H2 v ys)) (hl : xs.length + ys.length ≤ sizeLine) : VS (tOp (rCatA K) ta tb) σ H (fun v H' => iT K R H' v (xs ++ ys)) := fun Q k =>
  h _ fun v H1 s1 ⟨a, vs, e, h1, h2⟩ => g H1 s1 _ fun u H2 s2 ⟨b, ws, e2, g1, g2⟩ => by
    subst e e2
    have h2' := paired_mono m s2 h2
    refine ⟨a, b, vs, ws, rfl, rfl, sameT s2 h1, g1, by rw [plen h2, plen g2]; exact hl, fun e => ?_, fun _ e => ?_, fun _ _ p hp => ?_⟩
    · subst e
      cases h2
      exact k _ _ (s1.trans s2) ⟨b, ws, rfl, g1, g2⟩
    · subst e
      cases g2
      exact k _ _ (s1.trans s2) (by rw [List.append_nil]; exact ⟨a, vs, rfl, sameT s2 h1, h2'⟩)
    · exact k _ _ ((s1.trans s2).trans (same_new hp)) ⟨p, vs ++ ws, rfl, SqT.of upd_same, papp (paired_mono m (same_new hp) h2') (paired_mono m (same_new hp) g2)⟩
/-- (*xs, x) -/
theorem vs_tsnoc {α : Type} {R : Rp α} {σ : L2.St} {H : Hp} {ta tb : TE} {xs : List α} {x : α} (m : Mon R) (h : VS ta σ H (fun v H' => iT K R H' v xs)) (g : ∀ H', Same H H' → VS tb σ H' (fun v H2 => R H2 v x)) (hl : xs.length ≤ 999) : VS (tTup (StX.tStar K ta (tCons tb tNil))) σ H (fun v H' => iT K R H' v (xs ++ [x])) := fun Q k =>
  h _ fun v H1 s1 ⟨a, vs, e, h1, h2⟩ => ⟨a, vs, e, .inl h1, g H1 s1 _ fun u H2 s2 hu => ⟨by rw [List.length_append, plen h2]; exact sizeLine_ge (by show xs.length + 1 ≤ 1000; omega), fun p hp =>
    k _ _ ((s1.trans s2).trans (same_new hp)) ⟨p, vs ++ [u], rfl, SqT.of upd_same, papp (paired_mono m (s2.trans (same_new hp)) h2) (.cons (m.to (same_new hp) hu) .nil)⟩⟩⟩
theorem vs_tup1 {α : Type} {R : Rp α} {σ : L2.St} {H : Hp} {ta : TE} {x : α} (m : Mon R) (h : VS ta σ H (fun v H' => R H' v x)) : VS (tTup (tCons ta tNil)) σ H (fun v H' => iT K R H' v [x]) := fun Q k =>
  h _ fun v H1 s1 hv => ⟨by show 1 ≤ sizeLine; decide, fun p hp => k _ _ (s1.trans (same_new hp)) ⟨p, [v], rfl, SqT.of upd_same, .cons (m.to (same_new hp) hv) .nil⟩⟩
theorem VSA.imp2 {σ : L2.St} {H : Hp} {t : TA} {A B : List V → Hp → Prop} (h : VSA t σ H A) (g : ∀ vs H', A vs H' → B vs H') : VSA t σ H B := fun Q k => h Q fun vs H' s a => k vs H' s (g vs H' a)
theorem t_tup {σ : L2.St} {H : Hp} {t : TA} {A : List V → Hp → Prop} {Q : VK} (hA : VSA t σ H A) (g : ∀ vs H', Same H H' → A vs H' → vs.length ≤ sizeLine ∧ ∀ p, H' p = none → Q (.ref p) (upd H' p (.tup vs))) : tTup t σ H Q := hA _ g
/-- the row of noughts -/
theorem vs_zeros (T : Txt K mg) {σ : L2.St} {H : Hp} {te : TE} {vs : List Nat} {i : Nat} {c0 : List Rat} (h : VS te σ H (fun v H' => iRow K H' v c0)) (hl : c0.length ≤ 1000) (hwp : ∀ a, wipe ((wipe σ vs).set i a) vs = wipe σ vs) : VS (tCB (rTupK K) (tCons (tLc (iTup K te) (gName i) tYes (tC (.ref T.aZERO)) vs) tNil)) σ H (fun u H' => iRow K H' u (List.replicate c0.length 0)) := by
  have z := vs_tuple (K := K) (mQ (K := K)) (vs_lcN (R := iQ K) (Z := iQ K) robQ mQ (fun _ => (0 : Rat)) (ws_tup mQ h) (sizeLine_ge hl) hwp fun x vx H4 hm s4 hx => VS.el (vsv (val_c (v := .ref T.aZERO)) (q0 T H4)))
  refine z.imp fun u H' s hu => ?_
  have e : (c0.map fun _ => (0 : Rat)) = List.replicate c0.length 0 := List.map_const' ..
  rw [← e]; exact hu
theorem RO.first {L : Nat} {rows : List (List Rat)} (h : RO L rows) : ∃ c0, rows[0]? = some c0 ∧ c0.length = L := ⟨_, List.getElem?_eq_getElem h.pos, h.lens _ (List.getElem_mem h.pos)⟩
def spLengthened (K : PySem.W.Frag) : Sp := fun vs H Q _ => ∃ v L rows, vs = [v] ∧ iCols K H v rows ∧ RO L rows ∧ ∀ a x y H', Same H H' → SqT K H' a [x, y] → iCols K H' x (longer rows) → iRow K H' y (tgt L) → Q (.ref a) H'
theorem vs_ix0 {α : Type} {R : Rp α} {σ : L2.St} {H : Hp} {ta : TE} {v : V} {xs : List α} {x : α} (h : Val ta σ H v) (hv : iL K R H v xs) (hx : xs[0]? = some x) : VS (tOp (rIxL K) ta (tC (.int 0))) σ H (fun u H' => R H' u x) := vs_ixL (i := 0) h val_c hv hx
theorem sc_lengthened : FnScope ["rows", "longer", "row", "x"] ["rows"] (defScope s_lengthened) := ⟨rfl, rfl, rfl, by decide +kernel, rfl, by decide +kernel, by decide +kernel⟩
theorem ok_lengthened (T : Txt K mg) : FnOk P w K mg base CX0 1 T.lengthened.f T.lengthened.fd ["rows"] (spLengthened K) := by
  refine T.lengthened.F.ok sc_lengthened (fun vs H Q E h => ?_) (fun cdv A outer s H vs Q E hr h => ?_)
  · obtain ⟨_, _, _, rfl, _⟩ := h; rfl
  · obtain ⟨v, L, rows, rfl, h1, ro, q⟩ := h
    have hf := ro.few
    have hlow := ro.low
    obtain ⟨c0, hc0, l0⟩ := ro.first
    refine ⟨_, (PSs.nox (pss_cons (ps_setLc (i := 1) (own := [("row", 2)]) (g := (gName 2)) (tt := tYes) rfl sc_lengthened.nd rfl rfl (sw_true rfl rfl rfl (by decide +kernel)) (pi_listK K (pv 0)) (blkOk_by (N := ["rows", "longer", "row", "x"]) (sc := defScope s_lengthened) (by decide +kernel)) (fun _ _ _ _ _ => (pg_name (i := 2) sc_lengthened.nd rfl (.inl rfl))) (fun _ _ _ _ _ => pts_nil) (fun _ _ _ _ _ => (pe_tup (pa_starK K (pv 2) (pa_cons (pgl T.gONE) pa_nil))))) (pss_one (ps_ret (pe_tup (pa_cons (pv 1) (pa_cons (pe_op (op_catAK K) (pe_callTy (k_tuple K) rfl T.b_tuple (by decide +kernel) (pa_cons (pe_lc (own := [("x", 3)]) (g := (gName 3)) (tt := tYes) rfl sc_lengthened.nd (pi_tupK K (pe_ix (ix_listK K) (pv 0) pe_int (fun _ _ => rfl))) (blkOk_by (N := ["rows", "longer", "row", "x"]) (sc := defScope s_lengthened) (by decide +kernel)) (fun _ _ _ _ _ => (pg_name (i := 3) sc_lengthened.nd rfl (.inl rfl))) (fun _ _ _ _ _ => pts_nil) (fun _ _ _ _ _ => (pgl T.gZERO))) pa_nil)) (pe_tup (pa_cons (pgl T.gONE) pa_nil))) pa_nil))))))), ?_⟩
    refine st_seq (st_set' (R := NewL (iRow K) H (longer rows)) (vs_lcN (R := iRow K) (Z := iRow K) robRow mRow (fun u => u ++ [1]) (ws_list mRow (vsv (val_var rfl) h1)) (sizeLine_ge (by omega)) (fun _ => rfl) fun u vu H1 hm s1 hu => VS.el (vs_tsnoc mQ (vsv (val_var rfl) hu) (fun H2 s2 => vsv val_c (q1 T H2)) (by rw [ro.lens u hm]; omega))) fun u H1 s1 hu => ?_)
    obtain ⟨a, rfl, _, hn⟩ := hu
    dsimp only
    refine st_rt2 ?_
    refine t_tup (vsa2 (val_var rfl) (vs_catT mQ (vs_zeros T (vs_ix0 (val_var rfl) (mCols.to s1 h1) hc0) (by omega) (fun _ => rfl)) (fun H2 s2 => vs_tup1 mQ (vsv val_c (q1 T H2))) (by rw [List.length_replicate]; exact sizeLine_ge (by show _ + 1 ≤ 1000; omega)))) fun vs H2 s2 ⟨y, e, hy⟩ => ?_
    subst e
    rw [l0] at hy
    exact ⟨by show 2 ≤ sizeLine; decide, fun p hp => q p _ _ _ ((s1.trans s2).trans (same_new hp)) (SqT.of upd_same) (mCols.to (s2.trans (same_new hp)) hn.iL) (mRow.to (same_new hp) hy)⟩
/-- a mixing, or none -/
def iMixed (K : PySem.W.Frag) (L : Nat) (rows : List (List Rat)) (H : Hp) (u : V) : Prop :=
  (∃ x a w, u = .ref a ∧ SqT K H a [.str "mixes", w] ∧ iRow K H w x ∧ x.length = rows.length ∧ Mix L rows (Mx.vF x) ∧ Small 125 x) ∨ ((¬ ∃ x, Mix L rows x) ∧ ∃ a w, u = .ref a ∧ SqT K H a [.str "climbs", w])
theorem right_mix {L : Nat} {rows : List (List Rat)} {cs : List Rat} {x : List Rat} (h1 : x.length = (longer rows).length) (h2 : Mx.Nn (longer rows).length (Mx.vF x)) (h3 : Mx.Rc (longer rows).length (tgt L).length (Mx.colF (longer rows)) (Mx.vF (tgt L)) (Mx.vF x)) : x.length = rows.length ∧ Mix L rows (Mx.vF x) := by
  rw [Mx.longer_len] at h1 h2 h3
  rw [tgt_len] at h3
  exact ⟨h1, h2, h3⟩
theorem none_mix {L : Nat} {rows : List (List Rat)} {s : Nat → Rat} (h : Mx.IsNone (longer rows).length (tgt L).length (Mx.colF (longer rows)) (Mx.vF (tgt L)) s) : ¬ ∃ x, Mix L rows x := fun ⟨x, hx⟩ => by
  rw [Mx.longer_len, tgt_len] at h
  exact h.no hx.nn hx.rc
def spMixed (K : PySem.W.Frag) : Sp := fun vs H Q _ => ∃ v L rows, vs = [v] ∧ iCols K H v rows ∧ RO L rows ∧ ∀ u H', Same H H' → iMixed K L rows H' u → Q u H'
/-- a pair set to two names -/
theorem st_set2 {sp : Sp} {t : TA} {σ : L2.St} {H : Hp} {D : Ends} {i j : Nat} {vs : List V} (hA : ValA t σ H vs) (g : sp (vs ++ []) H (fun v H' => ∃ a x y, v = .ref a ∧ SqT K H' a [x, y] ∧ D.nx ((σ.set i (some x)).set j (some y)) H') E0) (mono : ∀ (Q Q' : VK) , (∀ v H', Q v H' → Q' v H') → sp (vs ++ []) H Q E0 → sp (vs ++ []) H Q' E0) : tAsg (tCall sp [] E0 t) (gTup K 2 (gCons (gName i) (gCons (gName j) gNil))) D σ H :=
  hA _ (mono _ _ (fun v H' ⟨a, x, y, e, h, q⟩ => ⟨a, [x, y], e, h, rfl, x, [y], rfl, y, [], rfl, rfl, q⟩) g)
theorem vs_reps {σ : L2.St} {H : Hp} {ta tb : TE} {q : Rat} {n : Nat} (h : VS ta σ H (fun v H' => iQ K H' v q)) (g : ∀ H', Same H H' → Val tb σ H' (.int (n : Int))) (hl : n ≤ 1000) : VS (tOp rRep (tLst (tCons ta tNil)) tb) σ H (fun v H' => iL K (iQ K) H' v (List.replicate n q)) := VS.imp (vs_rep mQ h g hl) fun u H s hu => by obtain ⟨a, rfl, _, hn⟩ := hu; exact hn.iL
theorem sc_mixed : FnScope ["rows", "longer", "target", "told"] ["rows"] (defScope s_mixed) := ⟨rfl, rfl, rfl, by decide +kernel, rfl, by decide +kernel, by decide +kernel⟩
theorem ok_mixed (T : Txt K mg) : FnOk P w K mg base CX0 5 T.mixed.f T.mixed.fd ["rows"] (spMixed K) := by
  refine T.mixed.F.ok sc_mixed (fun vs H Q E h => ?_) (fun cdv A outer s H vs Q E hr h => ?_)
  · obtain ⟨_, _, _, rfl, _⟩ := h; rfl
  · obtain ⟨v, L, rows, rfl, h1, ro, q⟩ := h
    have hf := ro.few
    have hlow := ro.low
    refine ⟨_, (PSs.nox (pss_cons (ps_asg (pcall T.lengthened (ok_lengthened T) (hr.mono (by decide)) (pa_cons (pv 0) pa_nil)) (pg_tup rfl (pgs_cons (pg_name (i := 1) sc_mixed.nd rfl (.inl rfl)) (pgs_cons (pg_name (i := 2) sc_mixed.nd rfl (.inl rfl)) pgs_nil)))) (pss_cons (ps_set (i := 3) sc_mixed.nd rfl (.inl rfl) (pcall T.least (ok_least T) (hr.mono (by decide)) (pa_cons (pv 1) (pa_cons (pe_op op_rep (pe_lst (pa_cons (pgl T.gZERO) pa_nil)) (pe_callB (k_len K) rfl T.b_len (by decide +kernel) (pa_cons (pv 1) pa_nil))) (pa_cons (pv 2) pa_nil))))) (pss_one (ps_ret (pe_ifExp (pt_cmpR op_eq (pe_ix (ix_tupK K) (pv 3) pe_int (fun _ _ => rfl)) pe_str (nomark _)) (pe_tup (pa_cons pe_str (pa_cons (pe_slice (sl_tupK K) (pe_ix (ix_tupK K) (pv 3) pe_int (fun _ _ => rfl)) po_none (po_some (pe_un un_neg pe_int))) pa_nil))) (pe_tup (pa_cons pe_str (pa_cons (pe_ix (ix_tupK K) (pv 3) pe_int (fun _ _ => rfl)) pa_nil))))))))), ?_⟩
    refine st_seq (st_set2 (va1 (val_var rfl)) ⟨v, L, rows, rfl, h1, ro, fun a x y H1 s1 ha hx hy => ⟨a, x, y, rfl, ha, ?_⟩⟩ ?_)
    rotate_left
    · rintro Q1 Q2 hQ ⟨v, L, rows, e, g1, g2, g3⟩
      exact ⟨v, L, rows, e, g1, g2, fun a x y H' s k1 k2 k3 => hQ _ _ (g3 a x y H' s k1 k2 k3)⟩
    dsimp only
    refine st_seq (st_set' (R := fun v H' => ∃ r, iRes K H' v r ∧ Right (longer rows) (List.replicate rows.length 0) (tgt L) r ∧ resSmall 125 r) (vs_callS (A := fun vs H' => ∃ c, vs = [x, c, y] ∧ Same H1 H' ∧ iL K (iQ K) H' c (List.replicate rows.length 0)) (fun Q' k => ?_) ?_) fun vt H2 s2 ht => ?_)
    · refine val_var (i := 1) (v := x) rfl _ ?_
      refine vs_reps (n := rows.length) (vsv val_c (q0 T H1)) (fun H2 s2 => ?_) (by omega) _ fun c H2 s2 hc => ?_
      · have := v_len (k1 := false) (R := iRow K) (K := K) (te := tVar 1) (σ := ((L2.start ["rows", "longer", "target", "told"] [v]).set 1 (some x)).set 2 (some y)) (val_var (i := 1) (v := x) rfl) (mCols.to s2 hx)
        rw [Mx.longer_len] at this
        exact this
      · refine val_var (i := 2) (v := y) rfl _ ?_
        exact k _ _ s2 ⟨c, rfl, s2, hc⟩
    · rintro vs H2 s2 ⟨c, rfl, s2', hc⟩ Q' k
      refine ⟨x, c, y, longer rows, List.replicate rows.length 0, tgt L, rfl, mCols.to s2 hx, hc, mRow.to s2 hy, ro.lp (by rw [List.length_replicate]) (fun z hz => by rw [List.eq_of_mem_replicate hz]; exact lim0), fun u H3 r s3 hr g1 g2 => k u H3 s3 ⟨r, hr, g1, g2⟩⟩
    · obtain ⟨r, hr, g1, g2⟩ := ht
      dsimp only
      have s12 := s1.trans s2
      refine st_ret' (R := fun u H' => iMixed K L rows H' u) (vs_if (b := decide (tagOf r = "none")) (as_of (ans_eq (res_tag (val_var rfl) hr) val_c rfl ?_)) (fun hb H3 s3 Q' k => ?_) fun hb H3 s3 Q' k => ?_) fun u H3 s3 hu => q u H3 (s12.trans s3) hu
      · exact decide_eq_decide.mpr ⟨fun h => by injection h, fun h => by rw [h]⟩
      · have hb := of_decide_eq_true hb
        cases r with
        | least x y => exact absurd hb (by simp only [tagOf]; decide)
        | endless x y => exact absurd hb (by simp only [tagOf]; decide)
        | none sl =>
          obtain ⟨w, hw, hwr⟩ := res_first (K := K) (σ := (((L2.start ["rows", "longer", "target", "told"] [v]).set 1 (some x)).set 2 (some y)).set 3 (some vt)) (val_var (i := 3) rfl) (mRes.to s3 hr)
          have hlen : sl.length = L + 1 := by rw [← tgt_len]; exact g1.1
          obtain ⟨b, ws, rfl, hb1, hb2⟩ := hwr
          have hl := plen hb2
          have hl : ws.length = L + 1 := by rw [hl]; exact hlen
          refine t_tup (vsa2 (R := fun _ _ => True) val_c ?_) fun vs H4 s4 ⟨y, e, _⟩ => ?_
          rotate_left
          · subst e
            exact ⟨by show 2 ≤ sizeLine; decide, fun p2 hp2 => k _ _ (s4.trans (same_new hp2)) (.inr ⟨none_mix g1.2, p2, _, rfl, SqT.of upd_same⟩)⟩
          intro Q2 k2
          refine hw _ ⟨1, rfl, _, rfl, b, ws, rfl, hb1, fun hwh => ?_, fun _ p hp => k2 _ _ (same_new hp) trivial⟩
          · exfalso
            have e2 : HT.sIx ws.length ws.length (some (-1)) = L := by
              show (if (-1 : Int) < 0 then ((-1 : Int) + (ws.length : Int)).toNat else min (-1 : Int).toNat ws.length) = _
              rw [if_pos (by decide)]; omega
            have := hwh.2
            rw [show HT.sIx ws.length ws.length (some (-(1 : Int))) = L from e2] at this
            omega
      · have hb := of_decide_eq_false hb
        obtain ⟨w, hw, hwr⟩ := res_first (K := K) (σ := (((L2.start ["rows", "longer", "target", "told"] [v]).set 1 (some x)).set 2 (some y)).set 3 (some vt)) (val_var (i := 3) rfl) (mRes.to s3 hr)
        refine tup2 (K := K) mRow val_c (vsv hw hwr) fun a w' H4 s4 ha hw' => ?_
        cases r with
        | none sl => exact absurd rfl hb
        | least x y =>
          obtain ⟨k1, k2⟩ := right_mix (cs := []) g1.1 g1.2.2.nn g1.2.2.rc
          exact k _ _ s4 (.inl ⟨x, a, w', rfl, ha, hw', k1, k2, g2.1⟩)
        | endless x y =>
          obtain ⟨k1, k2⟩ := right_mix (cs := []) g1.1 g1.2.2.nn g1.2.2.rc
          exact k _ _ s4 (.inl ⟨x, a, w', rfl, ha, hw', k1, k2, g2.1⟩)
end
end K19
namespace K19
open PySem PySem.Spec L2
open Mx (LRes Right longer tgt Mix)
section
variable {P : Program} {w : World} {K : PySem.W.Frag} {mg : Str → Option Value} {base : Heap}
def negRow (xs : List Rat) : List Rat := xs.map fun x => - x
def bothOf (cols : List (List Rat)) : List (List Rat) := cols ++ cols.map negRow
theorem both_len {cols : List (List Rat)} : (bothOf cols).length = cols.length + cols.length := by unfold bothOf; rw [List.length_append, List.length_map]
theorem both_lp {cols : List (List Rat)} {cs ts : List Rat} (h : LP cols cs ts) (h5 : cols.length ≤ 5) : LP (bothOf cols) (List.replicate (bothOf cols).length 0) ts where
  pos := by rw [both_len]; have := h.pos; omega
  few := by rw [both_len]; omega
  low := h.low
  cl := List.length_replicate
  rl := fun c hc => by
    rcases List.mem_append.mp hc with z | z
    · exact h.rl c z
    · obtain ⟨d, hd, rfl⟩ := List.mem_map.mp z
      unfold negRow; rw [List.length_map]; exact h.rl d hd
  la := fun c hc x hx => by
    rcases List.mem_append.mp hc with z | z
    · exact h.la c z x hx
    · obtain ⟨d, hd, rfl⟩ := List.mem_map.mp z
      obtain ⟨y, hy, rfl⟩ := List.mem_map.mp hx
      exact lim_neg (h.la d hd y hy)
  lc := fun x hx => by rw [List.eq_of_mem_replicate hx]; exact lim0
  lt := h.lt
theorem both_at {cols : List (List Rat)} {j i : Nat} (hj : j < cols.length) : Mx.colF (bothOf cols) j i = Mx.colF cols j i := by
  unfold Mx.colF bothOf
  rw [List.getD_eq_getElem?_getD, List.getD_eq_getElem?_getD, List.getElem?_append_left hj]
theorem both_some {cols : List (List Rat)} {ts : List Rat} {x : Nat → Rat} (h1 : Mx.Nn cols.length x) (h2 : Mx.Rc cols.length ts.length (Mx.colF cols) (Mx.vF ts) x) :
    Mx.Nn (bothOf cols).length (fun j => if j < cols.length then x j else 0) ∧ Mx.Rc (bothOf cols).length ts.length (Mx.colF (bothOf cols)) (Mx.vF ts) (fun j => if j < cols.length then x j else 0) := by
  refine ⟨fun j hj => ?_, fun i hi => ?_⟩
  · show 0 ≤ if j < cols.length then x j else 0
    split
    · exact h1 j (by assumption)
    · decide
  · rw [both_len, Mx.sm_split, ← h2 i hi, Mx.sm_zero (n := cols.length) (f := fun k => Mx.colF (bothOf cols) (cols.length + k) i * (if cols.length + k < cols.length then x (cols.length + k) else 0)) fun k hk => by rw [if_neg (by omega)]; grind]
    have e : Mx.sm cols.length (fun j => Mx.colF (bothOf cols) j i * (if j < cols.length then x j else 0)) = Mx.sm cols.length (fun j => Mx.colF cols j i * x j) := Mx.sm_congr fun j hj => by rw [if_pos hj, both_at hj]
    rw [e]; grind
def spSolved (K : PySem.W.Frag) : Sp := fun vs H Q _ => ∃ v u cols cs ts, vs = [v, u] ∧ iCols K H v cols ∧ iRow K H u ts ∧ LP cols cs ts ∧ cols.length ≤ 5 ∧ (∃ x, Mx.Nn cols.length x ∧ Mx.Rc cols.length ts.length (Mx.colF cols) (Mx.vF ts) x) ∧
  ∀ a w H', Same H H' → SqT K H' a [.str "solved", w] → Q (.ref a) H'
theorem sc_solved : FnScope ["columns", "target", "both", "column", "told", "many", "k"] ["columns", "target"] (defScope s_solved) := ⟨rfl, rfl, rfl, by decide +kernel, rfl, by decide +kernel, by decide +kernel⟩
theorem ok_solved (T : Txt K mg) : FnOk P w K mg base CX0 5 T.solved.f T.solved.fd ["columns", "target"] (spSolved K) := by
  refine T.solved.F.ok sc_solved (fun vs H Q E h => ?_) (fun cdv A outer s H vs Q E hr h => ?_)
  · obtain ⟨_, _, _, _, _, rfl, _⟩ := h; rfl
  · obtain ⟨v, u, cols, cs, ts, rfl, h1, h2, lp, h5, ⟨x, hx1, hx2⟩, q⟩ := h
    have hl := both_len (cols := cols)
    refine ⟨_, (PSs.nox (pss_cons (ps_set (i := 2) sc_solved.nd rfl (.inl rfl) (pe_op op_cat (pe_callTy (k_list K) rfl T.b_list (by decide +kernel) (pa_cons (pv 0) pa_nil)) (pe_lc (own := [("column", 3)]) (g := (gName 3)) (tt := tYes) rfl sc_solved.nd (pi_listK K (pv 0)) (blkOk_by (N := ["columns", "target", "both", "column", "told", "many", "k"]) (sc := defScope s_solved) (by decide +kernel)) (fun _ _ _ _ _ => (pg_name (i := 3) sc_solved.nd rfl (.inl rfl))) (fun _ _ _ _ _ => pts_nil) (fun _ _ _ _ _ => (pcall T.back (ok_back T) (hr.mono (by decide)) (pa_cons (pv 3) pa_nil)))))) (pss_cons (ps_set (i := 4) sc_solved.nd rfl (.inr rfl) (pcall T.least (ok_least T) (hr.mono (by decide)) (pa_cons (pv 2) (pa_cons (pe_op op_rep (pe_lst (pa_cons (pgl T.gZERO) pa_nil)) (pe_callB (k_len K) rfl T.b_len (by decide +kernel) (pa_cons (pv 2) pa_nil))) (pa_cons (pv 1) pa_nil))))) (pss_cons (ps_if (pt_cmpR op_eq (pe_ix (ix_tupK K) (pv 4) pe_int (fun _ _ => rfl)) pe_str (nomark _)) (pss_one (ps_ret (pe_tup (pa_cons pe_str (pa_cons (pe_ix (ix_tupK K) (pv 4) pe_int (fun _ _ => rfl)) pa_nil))))) pss_nil) (pss_cons (ps_set (i := 5) sc_solved.nd rfl (.inr rfl) (pe_callB (k_len K) rfl T.b_len (by decide +kernel) (pa_cons (pv 0) pa_nil))) (pss_one (ps_ret (pe_tup (pa_cons pe_str (pa_cons (pe_callTy (k_tuple K) rfl T.b_tuple (by decide +kernel) (pa_cons (pe_lc (own := [("k", 6)]) (g := (gName 6)) (tt := tYes) rfl sc_solved.nd (pi_range1 rfl T.b_range (pa_cons (pv 5) pa_nil)) (blkOk_by (N := ["columns", "target", "both", "column", "told", "many", "k"]) (sc := defScope s_solved) (by decide +kernel)) (fun _ _ _ _ _ => (pg_name (i := 6) sc_solved.nd rfl (.inl rfl))) (fun _ _ _ _ _ => pts_nil) (fun _ _ _ _ _ => (pcall T.minus (ok_minus T) (hr.mono (by decide)) (pa_cons (pe_ix (ix_tupK K) (pe_ix (ix_tupK K) (pv 4) pe_int (fun _ _ => rfl)) (pv 6) (fun _ _ => rfl)) (pa_cons (pe_ix (ix_tupK K) (pe_ix (ix_tupK K) (pv 4) pe_int (fun _ _ => rfl)) (pe_op op_add (pv 5) (pv 6)) (fun _ _ => rfl)) pa_nil))))) pa_nil)) pa_nil)))))))))), ?_⟩
    refine st_seq (st_set' (R := NewL (iRow K) H (bothOf cols)) (vs_cat mRow (VS.imp (vs_list (k1 := false) mRow (vsv (val_var rfl) h1)) fun u H s h => h.n) (fun H1 s1 => VS.imp (vs_lcN (R := iRow K) (Z := iRow K) robRow mRow negRow (ws_list mRow (vsv (val_var rfl) (mCols.to s1 h1))) (sizeLine_ge (by omega)) (fun _ => rfl) fun c vc H2 hm s2 hc => VS.el (vs_call (va1 (val_var rfl)) fun Q' k => ⟨_, c, rfl, hc, by rw [lp.rl c hm]; have := lp.low; omega, fun r H3 s3 hr => k r H3 s3 hr⟩)) fun u H s h => h.n) (by rw [List.length_map]; exact sizeLine_ge (by omega))) fun b H1 s1 hb => ?_)
    obtain ⟨ba, rfl, _, hbn⟩ := hb
    dsimp only
    have hbl := hbn.iL (K := K)
    refine st_seq (st_set' (R := fun v H' => ∃ r, iRes K H' v r ∧ Right (bothOf cols) (List.replicate (bothOf cols).length 0) ts r ∧ resSmall 125 r) (vs_callS (A := fun vs H' => ∃ c, vs = [.ref ba, c, u] ∧ Same H1 H' ∧ iL K (iQ K) H' c (List.replicate (bothOf cols).length 0)) (fun Q' k => ?_) ?_) fun vt H2 s2 ht => ?_)
    · refine val_var (i := 2) (v := .ref ba) rfl _ ?_
      refine vs_reps (n := (bothOf cols).length) (vsv val_c (q0 T H1)) (fun H2 s2 => v_len (k1 := false) (R := iRow K) (val_var (i := 2) (v := .ref ba) rfl) (mCols.to s2 hbl)) (by omega) _ fun c H2 s2 hc => ?_
      refine val_var (i := 1) (v := u) rfl _ ?_
      exact k _ _ s2 ⟨c, rfl, s2, hc⟩
    · rintro vs H2 s2 ⟨c, rfl, s2', hc⟩ Q' k
      exact ⟨_, c, u, bothOf cols, _, ts, rfl, mCols.to s2 hbl, hc, mRow.to (s1.trans s2) h2, both_lp lp h5, fun u H3 r s3 hr g1 g2 => k u H3 s3 ⟨r, hr, g1, g2⟩⟩
    · obtain ⟨r, hr, g1, g2⟩ := ht
      dsimp only
      have hne : tagOf r ≠ "none" := by
        cases r with
        | none s =>
          obtain ⟨b1, b2⟩ := both_some hx1 hx2
          exact absurd (g1.2.no b1 b2) id
        | least x y => simp only [tagOf]; decide
        | endless x y => simp only [tagOf]; decide
      refine st_seq (st_no (ans_eq (b := false) (res_tag (val_var rfl) hr) val_c rfl (decide_eq_false fun z => hne (by injection z))) (st_next ?_))
      have hfl : (firstOf r).length = cols.length + cols.length ∧ Small 125 (firstOf r) := by
        cases r with
        | none s => exact absurd rfl hne
        | least x y => exact ⟨by rw [← both_len]; exact g1.1, g2.1⟩
        | endless x y => exact ⟨by rw [← both_len]; exact g1.1, g2.1⟩
      dsimp only
      have s12 := s1.trans s2
      refine st_seq (st_set (v_len (k1 := false) (R := iRow K) (val_var rfl) (mCols.to s12 h1)) ?_)
      dsimp only
      refine st_rt2 ?_
      refine tup2 (K := K) (R := iRow K) (x := rowQ cols.length fun j => Mx.vF (firstOf r) j - Mx.vF (firstOf r) (cols.length + j)) mRow val_c (VS.imp (vs_tuple (Z := iQ K) mQ (vs_lcN (R := iI) (Z := iQ K) robQ mQ (fun k => Mx.vF (firstOf r) k.toNat - Mx.vF (firstOf r) (cols.length + k.toNat)) (ws_range1 (va1 (val_var rfl)) (by omega) (by omega)) (by rw [ups_len]; exact sizeLine_ge (by omega)) (fun _ => rfl) fun k vk H3 hm s3 hk => ?_)) fun u H s h => ?_) fun a w H3 s3 ha hw => q a w H3 (s12.trans s3) ha
      · unfold ups at hm
        obtain ⟨k', hk', e⟩ := List.mem_map.mp hm
        have hk' := List.mem_range.mp hk'
        have e : k = (k' : Int) := by rw [← e]; omega
        subst e
        have hk : vk = .int (k' : Int) := hk
        subst hk
        have hkn : k' < cols.length := by omega
        obtain ⟨w, hw, hwr⟩ := res_first (K := K) (ta := tVar 4) (σ := [some v, some u, some (.ref ba), none, some vt, some (.int (cols.length : Int)), some (.int (k' : Int))]) (val_var (i := 4) rfl) (mRes.to s3 hr)
        have i1 : k' < (firstOf r).length := by omega
        have i2 : cols.length + k' < (firstOf r).length := by omega
        refine VS.el fun Q' k => ?_
        refine v_ixT hw (val_var (i := 6) rfl) hwr (get_vF i1) fun y1 hy1 => ?_
        refine v_ixT (i := cols.length + k') hw (fun Q'' k'' => ?_) hwr (get_vF i2) fun y2 hy2 => ?_
        · have := vadd (val_var (σ := [some v, some u, some (.ref ba), none, some vt, some (.int (cols.length : Int)), some (.int (k' : Int))]) (H := H3) (i := 5) rfl) (val_var (i := 6) (v := .int (k' : Int)) rfl)
          rw [show ((cols.length : Int) + (k' : Int)) = ((cols.length + k' : Nat) : Int) by omega] at this
          exact this Q'' k''
        · exact ⟨y1, y2, _, _, rfl, hy1, hy2, ⟨(small_vF hfl.2 i1).mono (by decide), (small_vF hfl.2 i2).mono (by decide)⟩, fun z H4 s4 hz => k z H4 s4 (by rw [Int.toNat_natCast]; exact hz)⟩
      · have e : (ups 0 ((cols.length : Int)).toNat).map (fun k => Mx.vF (firstOf r) k.toNat - Mx.vF (firstOf r) (cols.length + k.toNat)) = rowQ cols.length fun j => Mx.vF (firstOf r) j - Mx.vF (firstOf r) (cols.length + j) := by
          rw [Int.toNat_natCast]
          unfold ups rowQ
          rw [List.map_map]
          exact List.map_congr_left fun k _ => by simp
        rw [← e]; exact h
/-- shares that are a mixing -/
def spSharesFault (K : PySem.W.Frag) : Sp := fun vs H Q _ => ∃ v u L rows xs, vs = [v, u] ∧ iCols K H v rows ∧ iRow K H u xs ∧ RO L rows ∧ xs.length = rows.length ∧ Mix L rows (Mx.vF xs) ∧ Small 640 xs ∧ ∀ H', Same H H' → Q .non H'
theorem sc_shares_fault : FnScope ["rows", "shares", "below", "k", "x"] ["rows", "shares"] (defScope s_shares_fault) := ⟨rfl, rfl, rfl, by decide +kernel, rfl, by decide +kernel, by decide +kernel⟩
theorem ok_shares_fault (T : Txt K mg) : FnOk P w K mg base CX0 7 T.shares_fault.f T.shares_fault.fd ["rows", "shares"] (spSharesFault K) := by
  refine T.shares_fault.F.ok sc_shares_fault (fun vs H Q E h => ?_) (fun cdv A outer s H vs Q E hr h => ?_)
  · obtain ⟨_, _, _, _, _, rfl, _⟩ := h; rfl
  · obtain ⟨v, u, L, rows, xs, rfl, h1, h2, ro, hl, hm, hs, q⟩ := h
    have hf := ro.few
    have hlow := ro.low
    obtain ⟨c0, hc0, l0⟩ := ro.first
    refine ⟨_, (PSs.nox (pss_cons (ps_setLc (i := 2) (own := [("k", 3), ("x", 4)]) (g := (gTup K 2 (gCons (gName 3) (gCons (gName 4) gNil)))) rfl sc_shares_fault.nd rfl rfl (sw_true rfl rfl rfl (by decide +kernel)) (pi_enumK K true rfl T.b_enumerate (pa_cons (pv 1) pa_nil)) (blkOk_by (N := ["rows", "shares", "below", "k", "x"]) (sc := defScope s_shares_fault) (by decide +kernel)) (fun _ _ _ _ _ => (pg_tup rfl (pgs_cons (pg_name (i := 3) sc_shares_fault.nd rfl (.inl rfl)) (pgs_cons (pg_name (i := 4) sc_shares_fault.nd rfl (.inl rfl)) pgs_nil)))) (fun _ _ _ _ _ => pts_one (pt_cmpR op_lt (pe_ix (ix_tupK K) (pv 4) pe_int (fun _ _ => rfl)) pe_int (nomark _))) (fun _ _ _ _ _ => (pv 3))) (pss_cons (ps_if (pt_cmpR (op_neDK K hr.units) (pv 2) (pe_lst pa_nil) (nomark _)) (pss_one (ps_ret (pe_tup (pa_cons pe_str (pa_cons (pe_ix (ix_listK K) (pv 2) pe_int (fun _ _ => rfl)) pa_nil))))) pss_nil) (pss_cons (ps_if (pt_cmpR (op_neDK K hr.units) (pcall T.cost_of (ok_cost_of T) (hr.mono (by decide)) (pa_cons (pe_op op_rep (pe_lst (pa_cons (pgl T.gONE) pa_nil)) (pe_callB (k_len K) rfl T.b_len (by decide +kernel) (pa_cons (pv 1) pa_nil))) (pa_cons (pv 1) pa_nil))) (pgl T.gONE) (nomark _)) (pss_one (ps_ret (pe_tup (pa_cons pe_str pa_nil)))) pss_nil) (pss_one (ps_ret (pcall T.amounts_fault (ok_amounts_fault T) (hr.mono (by decide)) (pa_cons (pv 0) (pa_cons (pv 1) (pa_cons (pe_callTy (k_tuple K) rfl T.b_tuple (by decide +kernel) (pa_cons (pe_lc (own := [("x", 4)]) (g := (gName 4)) (tt := tYes) rfl sc_shares_fault.nd (pi_tupK K (pe_ix (ix_listK K) (pv 0) pe_int (fun _ _ => rfl))) (blkOk_by (N := ["rows", "shares", "below", "k", "x"]) (sc := defScope s_shares_fault) (by decide +kernel)) (fun _ _ _ _ _ => (pg_name (i := 4) sc_shares_fault.nd rfl (.inl rfl))) (fun _ _ _ _ _ => pts_nil) (fun _ _ _ _ _ => (pgl T.gZERO))) pa_nil)) pa_nil)))))))))), ?_⟩
    have hnn := nn_all (n := rows.length) hm.nn hl
    refine st_seq (st_set' (vs_lcPF (R := iI) (S := iQ K) (Z := iI) (xs := numd xs) robI mI (fun p => p.1) (fun p => decide (p.2.num < 0)) (ws_enum mQ (k1 := true) (va1 (val_var rfl)) h2) (by rw [numd_len]; exact sizeLine_ge (by omega)) (fun _ _ => rfl) (fun n x vn vx H1 hm s1 hn hx C k => ?_) (fun n x vn vx H1 hm s1 hn hx _ => VS.el (vsv (val_var rfl) hn)) mI mQ) fun b H1 s1 hb => ?_)
    · exact vnum rfl hx _ ⟨_, _, rfl, rfl, _, rfl, k _ (Same.refl _)⟩
    · obtain ⟨p, rfl, hp, hn⟩ := hb
      rw [filter_none fun p hp => decide_eq_false (by
        obtain ⟨i, _, hx⟩ := numd_mem hp
        have := Rat.num_nonneg.mpr (hnn _ (List.mem_of_getElem? hx))
        omega)] at hn
      dsimp only
      refine st_seq (st_no' (as_neNil (val_var rfl) hn.iL) fun H2 s2 => st_next ?_)
      dsimp only
      have s12 := s1.trans s2
      have h2' := mRow.to s12 h2
      have hone : dotL (List.replicate xs.length 1) xs = 1 := by
        rw [dot_sm (n := rows.length) (by rw [List.length_replicate, hl]) hl]
        refine Eq.trans ?_ (hm.one ro.lens)
        exact Mx.sm_congr fun j hj => by
          rw [vF_get (x := 1) (by rw [List.getElem?_replicate, if_pos (by omega)])]; grind
      refine st_seq (st_no' (fun Q' k => ?_) fun H3 s3 => st_next ?_)
      · refine vs_callS (R := fun r H' => iQ K H' r 1) (A := fun vs H' => ∃ c, vs = [c, u] ∧ Same H2 H' ∧ iL K (iQ K) H' c (List.replicate xs.length 1)) (fun Q2 k2 => ?_) ?_ _ fun r H4 s4 hr => ?_
        · refine vs_reps (n := xs.length) (vsv val_c (q1 T H2)) (fun H4 s4 => v_len (k1 := true) (R := iQ K) (val_var (i := 1) (v := u) rfl) (mRow.to s4 h2')) (by omega) _ fun c H4 s4 hc => ?_
          refine val_var (i := 1) (v := u) rfl _ ?_
          exact k2 _ _ s4 ⟨c, rfl, s4, hc⟩
        · rintro vs H4 s4 ⟨c, rfl, _, hc⟩ Q2 k2
          refine ⟨c, u, _, xs, 1, 640, rfl, hc, mRow.to s4 h2', fun z hz => by rw [List.eq_of_mem_replicate hz]; exact sz_1, hs, by rw [List.length_replicate]; omega, fun r H5 s5 hr => k2 r H5 s5 (by rw [hone] at hr; exact hr)⟩
        · refine val_c _ ?_
          refine r_neD dat_Q dat_Q (by decide) (by decide) hr (q1 T H4) ⟨false, ?_, k _ s4⟩
          rw [eqv_Q]; simp
      · dsimp only
        have s13 := s12.trans s3
        refine st_ret' (R := fun v _ => v = .non) (vs_callS (A := fun vs H' => ∃ t, vs = [v, u, t] ∧ iRow K H' t (List.replicate L 0)) (fun Q' k => ?_) ?_) fun r H4 s4 e => by
          rw [e]; exact q H4 (s13.trans s4)
        · refine val_var (i := 0) (v := v) rfl _ (val_var (i := 1) (v := u) rfl _ ?_)
          refine vs_zeros T (vs_ix0 (val_var (i := 0) (v := v) rfl) (mCols.to s13 h1) hc0) (by omega) (fun _ => rfl) _ fun t H4 s4 ht => ?_
          rw [l0] at ht
          exact k _ _ s4 ⟨t, rfl, ht⟩
        · rintro vs H4 s4 ⟨t, rfl, ht⟩ Q' k
          refine ⟨v, u, t, rows, xs, List.replicate L 0, 12, 640, rfl, mCols.to (s13.trans s4) h1, mRow.to (s13.trans s4) h2, ht, by rw [List.length_replicate]; omega, by omega, fun c hc => ⟨by rw [List.length_replicate]; exact ro.lens c hc, fun x hx => (ro.la c hc x hx).sz⟩, hs, by unfold CB; omega, hnn, fun i hi => ?_, fun H' s => k _ _ s rfl⟩
          rw [List.length_replicate] at hi
          rw [dot_lvl hl, hm.lvl ro.lens hi, vF_rep0]
def spJudgeMixed (K : PySem.W.Frag) : Sp := fun vs H Q _ => ∃ v a u L rows xs, vs = [v, .ref a] ∧ SqT K H a [.str "mixes", u] ∧ iCols K H v rows ∧ iRow K H u xs ∧ RO L rows ∧ xs.length = rows.length ∧ Mix L rows (Mx.vF xs) ∧ Small 640 xs ∧ ∀ H', Same H H' → Q .non H'
theorem sc_judge_mixed : FnScope ["rows", "value", "flat", "k", "row"] ["rows", "value"] (defScope s_judge_mixed) := ⟨rfl, rfl, rfl, by decide +kernel, rfl, by decide +kernel, by decide +kernel⟩
theorem ok_judge_mixed (T : Txt K mg) : FnOk P w K mg base CX0 8 T.judge_mixed.f T.judge_mixed.fd ["rows", "value"] (spJudgeMixed K) := by
  refine T.judge_mixed.F.ok sc_judge_mixed (fun vs H Q E h => ?_) (fun cdv A outer s H vs Q E hr h => ?_)
  · obtain ⟨_, _, _, _, _, _, rfl, _⟩ := h; rfl
  · obtain ⟨v, a, u, L, rows, xs, rfl, ha, h1, h2, ro, hl, hm, hs, q⟩ := h
    have hf := ro.few
    refine ⟨_, (PSs.nox (pss_cons (ps_if (PW.pt (pw_or (pt_not (pt_val (pe_callB (k_isi K) rfl T.b_isinstance (by decide +kernel) (pa_cons (pv 1) (pa_cons (pe_bltn rfl T.b_tuple (by decide +kernel) (show RelV (.ty "tuple") _ from rfl)) pa_nil))))) (pw_or1 (pt_cmpR op_ne (pe_callB (k_len K) rfl T.b_len (by decide +kernel) (pa_cons (pv 1) pa_nil)) pe_int (nomark _))))) (pss_one (ps_ret (pe_tup (pa_cons pe_str pa_nil)))) pss_nil) (pss_cons (ps_if (PW.pt (pw_and (pt_cmpR op_eq (pe_ix (ix_tupK K) (pv 1) pe_int (fun _ _ => rfl)) pe_str (nomark _)) (pw_and1 (pt_val (pcall T.is_long_row (ok_is_long_row T) (hr.mono (by decide)) (pa_cons (pe_ix (ix_tupK K) (pv 1) pe_int (fun _ _ => rfl)) (pa_cons (pe_callB (k_len K) rfl T.b_len (by decide +kernel) (pa_cons (pe_ix (ix_listK K) (pv 0) pe_int (fun _ _ => rfl)) pa_nil)) pa_nil))))))) pss_never pss_nil) (pss_cons (ps_if (PW.pt (pw_or (pt_cmpR op_ne (pe_ix (ix_tupK K) (pv 1) pe_int (fun _ _ => rfl)) pe_str (nomark _)) (pw_or1 (pt_not (pt_val (pcall T.is_long_row (ok_is_long_row T) (hr.mono (by decide)) (pa_cons (pe_ix (ix_tupK K) (pv 1) pe_int (fun _ _ => rfl)) (pa_cons (pe_callB (k_len K) rfl T.b_len (by decide +kernel) (pa_cons (pv 0) pa_nil)) pa_nil)))))))) (pss_one (ps_ret (pe_tup (pa_cons pe_str pa_nil)))) pss_nil) (pss_one (ps_ret (pcall T.shares_fault (ok_shares_fault T) (hr.mono (by decide)) (pa_cons (pv 0) (pa_cons (pe_ix (ix_tupK K) (pv 1) pe_int (fun _ _ => rfl)) pa_nil))))))))), ?_⟩
    refine st_seq (st_no' (as_or (b1 := false) (b2 := false) (as_not (b := true) (as_val (vsv (v_isi (b := true) (va2 (val_var rfl) val_c) (tyTup ha) (kit_ty (by decide +kernel))) rfl))) fun _ H2 s2 => as_test (vsv (v_ne (v_lenT (n := 2) (val_var rfl) (sameT s2 ha) rfl) val_c rfl) rfl)) fun H1 s1 => st_next ?_)
    dsimp only
    have ha1 := sameT s1 ha
    refine st_seq (st_no (ans_and0 (ans_eq (b := false) (ixAt (i := 0) (val_var rfl) val_c ha1 rfl) val_c rfl (tag_ne (by decide)))) (st_next ?_))
    dsimp only
    refine st_seq (st_no' (as_or (b1 := false) (b2 := false) (as_of (ans_ne (b := false) (ixAt (i := 0) (val_var rfl) val_c ha1 rfl) val_c rfl (by decide))) fun _ H2 s2 => as_not (b := true) (as_val (vs_call (vs := [u, .int (xs.length : Nat)]) (va2 (ixAt (i := 1) (val_var rfl) val_c (sameT s2 ha1) rfl) (by
      have := v_len (k1 := false) (R := iRow K) (K := K) (te := tVar 0) (σ := [some v, some (.ref a), none, none, none]) (val_var (i := 0) (v := v) rfl) (mCols.to (s1.trans s2) h1)
      rw [← hl] at this
      exact this)) fun Q' k => ⟨u, xs, rfl, mRow.to (s1.trans s2) h2, by omega, fun H3 s3 => k _ _ s3 rfl⟩))) fun H2 s2 => st_next ?_)
    dsimp only
    have s12 := s1.trans s2
    refine st_ret' (R := fun v _ => v = .non) (vs_call (va2 (val_var rfl) (ixAt (i := 1) (val_var rfl) val_c (sameT s2 ha1) rfl)) fun Q' k => ⟨v, u, L, rows, xs, rfl, mCols.to s12 h1, mRow.to s12 h2, ro, hl, hm, hs, fun H' s => k _ _ s rfl⟩) fun r H4 s4 e => by
      rw [e]; exact q H4 (s12.trans s4)
end
end K19
namespace K19
open PySem PySem.Spec L2
section
variable {P : Program} {w : World} {K : PySem.W.Frag} {mg : Str → Option Value} {base : Heap}
def spWithout (K : PySem.W.Frag) : Sp := fun vs H Q _ => ∃ v u k xs ys b, vs = [v, u, .int ((k : Nat) : Int)] ∧ iRow K H v xs ∧ iRow K H u ys ∧ xs.length = ys.length ∧ xs.length ≤ 1000 ∧ k < xs.length ∧ Mx.vF ys k ≠ 0 ∧ Small b xs ∧ Small b ys ∧ 3 * b ≤ 4000 ∧
  ∀ r H', Same H H' → iRow K H' r (Mx.without k ys xs) → Q r H'
theorem sc_without : FnScope ["row", "lead", "k", "times", "x", "y"] ["row", "lead", "k"] (defScope s_without) := ⟨rfl, rfl, rfl, by decide +kernel, rfl, by decide +kernel, by decide +kernel⟩
theorem ok_without (T : Txt K mg) : FnOk P w K mg base CX0 4 T.without.f T.without.fd ["row", "lead", "k"] (spWithout K) := by
  refine T.without.F.ok sc_without (fun vs H Q E h => ?_) (fun cdv A outer s H vs Q E hr h => ?_)
  · obtain ⟨_, _, _, _, _, _, rfl, _⟩ := h; rfl
  · obtain ⟨v, u, k, xs, ys, b, rfl, h1, h2, hl, hl2, hk, h0, s1, s2, hb, q⟩ := h
    refine ⟨_, (PSs.nox (pss_cons (ps_set (i := 3) sc_without.nd rfl (.inr rfl) (pcall T.divided (ok_divided T) (hr.mono (by decide)) (pa_cons (pe_ix (ix_tupK K) (pv 0) (pv 2) (fun _ _ => rfl)) (pa_cons (pe_ix (ix_tupK K) (pv 1) (pv 2) (fun _ _ => rfl)) pa_nil)))) (pss_one (ps_ret (pe_callTy (k_tuple K) rfl T.b_tuple (by decide +kernel) (pa_cons (pe_lc (own := [("x", 4), ("y", 5)]) (g := (gTup K 2 (gCons (gName 4) (gCons (gName 5) gNil)))) (tt := tYes) rfl sc_without.nd (pi_zipK K true true rfl T.b_zip (pa_cons (pv 0) (pa_cons (pv 1) pa_nil))) (blkOk_by (N := ["row", "lead", "k", "times", "x", "y"]) (sc := defScope s_without) (by decide +kernel)) (fun _ _ _ _ _ => (pg_tup rfl (pgs_cons (pg_name (i := 4) sc_without.nd rfl (.inl rfl)) (pgs_cons (pg_name (i := 5) sc_without.nd rfl (.inl rfl)) pgs_nil)))) (fun _ _ _ _ _ => pts_nil) (fun _ _ _ _ _ => (pcall T.minus (ok_minus T) (hr.mono (by decide)) (pa_cons (pv 4) (pa_cons (pcall T.times_of (ok_times_of T) (hr.mono (by decide)) (pa_cons (pv 3) (pa_cons (pv 5) pa_nil))) pa_nil))))) pa_nil)))))), ?_⟩
    have hk2 : k < ys.length := by omega
    refine st_seq (st_set' (R := fun r H' => iQ K H' r (Mx.vF xs k / Mx.vF ys k)) (fun Q' k' => ?_) fun t H1 t1 ht => ?_)
    · refine v_ixT (val_var (i := 0) (v := v) rfl) (val_var (i := 2) (v := .int (k : Int)) rfl) h1 (get_vF hk) fun y1 hy1 => ?_
      refine v_ixT (val_var (i := 1) (v := u) rfl) (val_var (i := 2) (v := .int (k : Int)) rfl) h2 (get_vF hk2) fun y2 hy2 => ?_
      exact ⟨y1, y2, _, _, rfl, hy1, hy2, ⟨h0, (small_vF s1 hk).mono (by omega), (small_vF s2 hk2).mono (by omega)⟩, fun r H' s hr => k' r H' s hr⟩
    dsimp only
    have st := sz_div (small_vF s1 hk) (small_vF s2 hk2) h0
    refine st_ret' (VS.imp (vs_tuple (Z := iQ K) mQ (vs_lcP (R := iQ K) (S := iQ K) (Z := iQ K) robQ mQ (fun p => p.1 - Mx.vF xs k / Mx.vF ys k * p.2) (ws_zip mQ mQ (k1 := true) (k2 := true) (va2 (val_var rfl) (val_var rfl)) (mRow.to t1 h1) (mRow.to t1 h2)) (by rw [List.length_zip]; exact sizeLine_ge (by omega)) (fun _ _ => rfl) fun x y vx vy H2 hm t2 hx hy => ?_)) fun r H2 t2 hr => ?_) fun r H2 t2 hr => q r H2 (t1.trans t2) hr
    · have m1 := List.of_mem_zip hm
      refine VS.el (vs_callS (vsa2 (val_var rfl) (vs_QQ (va2 (val_var rfl) (val_var rfl)) (mQ.to t2 ht) hy ⟨st.mono (by omega), (s2 y m1.2).mono (by omega)⟩)) ?_)
      rintro vs H3 t3 ⟨z, rfl, hz⟩ Q' k'
      exact ⟨_, _, _, _, rfl, mQ.to t3 hx, hz, ⟨(s1 x m1.1).mono (by omega), (sz_mul st (s2 y m1.2)).mono (by omega)⟩, fun r H' s hr => k' r H' s hr⟩
    · have e : (xs.zip ys).map (fun p => p.1 - Mx.vF xs k / Mx.vF ys k * p.2) = Mx.without k ys xs := by
        unfold Mx.without
        rw [List.zip, List.map_zipWith]
      rw [← e]; exact hr
def spAhead (K : PySem.W.Frag) : Sp := fun vs H Q _ => ∃ v u xs ys, vs = [v, u] ∧ iRow K H v xs ∧ iRow K H u ys ∧ Small 4000 xs ∧ Small 4000 ys ∧ ∀ H', Same H H' → Q (.bl (Mx.lexLt xs ys)) H'
theorem lex_drop {xs ys : List Rat} {i : Nat} {x y : Rat} (hx : xs[i]? = some x) (hy : ys[i]? = some y) : Mx.lexLt (xs.drop i) (ys.drop i) = if x ≠ y then decide (x < y) else Mx.lexLt (xs.drop (i + 1)) (ys.drop (i + 1)) := by
  obtain ⟨h1, e1⟩ := List.getElem?_eq_some_iff.mp hx
  obtain ⟨h2, e2⟩ := List.getElem?_eq_some_iff.mp hy
  rw [List.drop_eq_getElem_cons h1, List.drop_eq_getElem_cons h2, e1, e2]
  rfl
theorem lex_end {xs ys : List Rat} {i : Nat} (h : min xs.length ys.length ≤ i) : Mx.lexLt (xs.drop i) (ys.drop i) = false := by
  by_cases a : xs.length ≤ i
  · rw [List.drop_eq_nil_of_le a]
    cases ys.drop i <;> rfl
  · have b : ys.length ≤ i := by omega
    rw [List.drop_eq_nil_of_le b]
    cases xs.drop i <;> rfl
theorem sc_comes_ahead : FnScope ["one", "other", "x", "y"] ["one", "other"] (defScope s_comes_ahead) := ⟨rfl, rfl, rfl, by decide +kernel, rfl, by decide +kernel, by decide +kernel⟩
theorem ok_comes_ahead (T : Txt K mg) : FnOk P w K mg base CX0 2 T.comes_ahead.f T.comes_ahead.fd ["one", "other"] (spAhead K) := by
  refine T.comes_ahead.F.ok sc_comes_ahead (fun vs H Q E h => ?_) (fun cdv A outer s H vs Q E hr h => ?_)
  · obtain ⟨_, _, _, _, rfl, _⟩ := h; rfl
  · obtain ⟨v, u, xs, ys, rfl, h1, h2, s1, s2, q⟩ := h
    refine ⟨_, (PSs.nox (pss_cons (ps_for PassesOwn.never rfl (pi_zipK K true true rfl T.b_zip (pa_cons (pv 0) (pa_cons (pv 1) pa_nil))) (pg_tup rfl (pgs_cons (pg_name (i := 2) sc_comes_ahead.nd rfl (.inl rfl)) (pgs_cons (pg_name (i := 3) sc_comes_ahead.nd rfl (.inl rfl)) pgs_nil))) (pss_one (ps_if (pt_cmpR (op_neDK K hr.units) (pv 2) (pv 3) (nomark _)) (pss_one (ps_ret (pcall T.is_less (ok_is_less T) (hr.mono (by decide)) (pa_cons (pv 2) (pa_cons (pv 3) pa_nil))))) pss_nil))) (pss_one (ps_ret pe_bl)))), ?_⟩
    refine st_seq (st_for (R := iP K (iQ K) (iQ K)) (xs := xs.zip ys) (fun i σ H' => ∃ z1 z2, σ = [some v, some u, z1, z2] ∧ Mx.lexLt (xs.drop i) (ys.drop i) = Mx.lexLt xs ys) (ws_zip mQ mQ (k1 := true) (k2 := true) (va2 (val_var rfl) (val_var rfl)) h1 h2) (fun H1 t1 => ⟨none, none, rfl, rfl⟩) ?_ ?_)
    · rintro i p vp σ1 H1 H2 N hx ⟨z1, z2, rfl, he⟩ t1 t2 hp hN
      obtain ⟨x, y⟩ := p
      obtain ⟨ex, ey⟩ := List.getElem?_zip_eq_some.mp hx
      refine g_pair hp fun vx vy hx2 hy2 => ?_
      rw [lex_drop ex ey] at he
      have hc : AS (tTest (tOp (rNeD K) (tVar 2) (tVar 3))) [some v, some u, some vx, some vy] H2 (decide (x ≠ y)) := as_of (ans_cmp (x := vx) (y := vy) (val_var rfl) (val_var rfl) fun Q' k => r_neD dat_Q dat_Q (by decide) (by decide) hx2 hy2 (by
        rw [eqv_Q]
        have e : (!decide (x = y)) = decide (x ≠ y) := by by_cases z : x = y <;> simp [z]
        rw [e]; exact k))
      by_cases z : x = y
      · rw [if_neg (fun h => h z)] at he
        exact st_no' (hc.to (decide_eq_false (fun h => h z))) fun H3 t3 => st_next (hN _ _ t3 ⟨_, _, rfl, he⟩)
      · rw [if_pos z] at he
        refine st_yes' (hc.to (decide_eq_true z)) fun H3 t3 => ?_
        refine st_ret' (R := fun w H' => w = .bl (decide (x < y))) (vs_call (va2 (val_var rfl) (val_var rfl)) fun Q' k => ⟨_, _, x, y, rfl, mQ.to t3 hx2, mQ.to t3 hy2, ⟨s1 x (List.mem_of_getElem? ex), s2 y (List.mem_of_getElem? ey)⟩, k _ _ (Same.refl _) rfl⟩) fun w H4 t4 e => ?_
        rw [e, he]
        exact q H4 (t1.trans (t2.trans (t3.trans t4)))
    · rintro σ1 H1 t1 ⟨z1, z2, rfl, he⟩
      rw [List.length_zip, lex_end (Nat.le_refl _)] at he
      dsimp only
      refine st_ret val_c ?_
      rw [he]
      exact q H1 t1
/-! ### the rank -/
theorem filt_idx {α : Type} {p : α → Bool} : ∀ {l : List α}, (l.filter p)[0]? = l[l.findIdx p]?
  | [] => rfl
  | x :: l => by
    rw [List.filter_cons, List.findIdx_cons]
    cases h : p x with
    | true => simp
    | false => simpa using filt_idx (l := l)
def bk : Nat → Nat
  | 0 => 12
  | k + 1 => 4 * bk k + 1
theorem bk_le {k : Nat} (h : k ≤ 2) : 3 * bk k ≤ 4000 := by
  have : ∀ k, k < 3 → 3 * bk k ≤ 4000 := by decide
  exact this k (by omega)
theorem without_sz {b k : Nat} {ys xs : List Rat} (h1 : Small b xs) (h2 : Small b ys) (hx : k < xs.length) (hy : k < ys.length) (h0 : Mx.vF ys k ≠ 0) : Small (4 * b + 1) (Mx.without k ys xs) := fun z hz => by
  have e : (xs.zip ys).map (fun p => p.1 - Mx.vF xs k / Mx.vF ys k * p.2) = Mx.without k ys xs := by
    unfold Mx.without
    rw [List.zip, List.map_zipWith]
  rw [← e] at hz
  obtain ⟨p, hp, rfl⟩ := List.mem_map.mp hz
  have m := List.of_mem_zip (show (p.1, p.2) ∈ xs.zip ys from hp)
  exact (sz_sub (h1 _ m.1) (sz_mul (sz_div (small_vF h1 hx) (small_vF h2 hy) h0) (h2 _ m.2))).mono (by omega)
/-- where a list is first like one of its rows -/
theorem place_at {rest : List (List Rat)} {k p0 : Nat} {lead : List Rat} (hp : rest.findIdx (fun row => decide (Mx.vF row k ≠ 0)) = p0) (hl : rest[p0]? = some lead) : SeqAt.dataPlace (rest.map dRow) (dRow lead) = some p0 := by
  unfold SeqAt.dataPlace
  obtain ⟨h1, e1⟩ := List.getElem?_eq_some_iff.mp hl
  refine List.findIdx?_eq_some_iff_getElem.mpr ⟨by rw [List.length_map]; exact h1, ?_, fun j hj => ?_⟩
  · rw [List.getElem_map, eqv_Row, e1, decide_eq_true rfl]
  · rw [List.getElem_map, eqv_Row]
    have hj2 : j < rest.length := by omega
    have a1 : decide (Mx.vF rest[j] k ≠ 0) = false := by
      have := List.not_of_lt_findIdx (xs := rest) (p := fun row => decide (Mx.vF row k ≠ 0)) (i := j) (by rw [hp]; exact hj)
      simpa using this
    have a2 : decide (Mx.vF lead k ≠ 0) = true := by
      have := List.findIdx_getElem (xs := rest) (p := fun row => decide (Mx.vF row k ≠ 0)) (w := by rw [hp]; exact h1)
      simp only [hp, e1] at this
      exact this
    simp only [decide_eq_true_eq, Bool.not_eq_true, decide_eq_false_iff_not]
    intro z
    rw [z] at a1
    rw [a2] at a1
    cases a1
theorem st_remove {ta tb : TE} {σ : L2.St} {H : Hp} {D : Ends} {a : Addr} {y : V} {ovs : List V} (h : Val ta σ H (.ref a)) (g : Val tb σ H y) (ho : H a = some (.lst ovs)) (r : rRemD K (.ref a) [y] H (fun _ H' => D.nx σ H')) : tDrop (tBM K "list" (rRemD K) ta (tCons tb tNil)) D σ H := h _ ⟨.inl ⟨rfl, _, SqL.of ho⟩, g _ r⟩
def spRank (K : PySem.W.Frag) : Sp := fun vs H Q _ => ∃ v L rows, vs = [v] ∧ iCols K H v rows ∧ RO L rows ∧ ∀ H', Same H H' → Q (.int (((Mx.rk rows L).2 : Nat) : Int)) H'
/-- the rows at each step -/
structure RkOk (L : Nat) (rows : List (List Rat)) (k : Nat) : Prop where
  len : ∀ u ∈ (Mx.rk rows k).1, u.length = L
  small : ∀ u ∈ (Mx.rk rows k).1, Small (bk k) u
  few : (Mx.rk rows k).1.length ≤ 5
theorem rk_ok {L : Nat} {rows : List (List Rat)} (ro : RO L rows) : ∀ k, k ≤ L → RkOk L rows k
  | 0, _ => ⟨ro.lens, fun u hu x hx => (ro.la u hu x hx).sz, ro.few⟩
  | k + 1, hk => by
    have ih := rk_ok ro k (by omega)
    have inv := (Mx.rk_inv ro.lens (k + 1) hk).1
    refine ⟨inv.len, ?_, ?_⟩
    · show ∀ u ∈ (Mx.rkStep k (Mx.rk rows k)).1, Small (bk (k + 1)) u
      unfold Mx.rkStep
      simp only
      split
      · rename_i hp
        intro u hu
        obtain ⟨w, hw, rfl⟩ := List.mem_map.mp hu
        have hw' := List.mem_of_mem_eraseIdx hw
        have hm : (Mx.rk rows k).1.getD ((Mx.rk rows k).1.findIdx fun row => decide (Mx.vF row k ≠ 0)) [] ∈ (Mx.rk rows k).1 := by
          rw [List.getD_eq_getElem?_getD, List.getElem?_eq_getElem hp]
          exact List.getElem_mem hp
        refine without_sz (ih.small w hw') (ih.small _ hm) (by rw [ih.len w hw']; omega) (by rw [ih.len _ hm]; omega) ?_
        have := List.findIdx_getElem (xs := (Mx.rk rows k).1) (p := fun row => decide (Mx.vF row k ≠ 0)) (w := hp)
        rw [List.getD_eq_getElem?_getD, List.getElem?_eq_getElem hp]
        simpa using this
      · intro u hu x hx
        exact (ih.small u hu x hx).mono (by show bk k ≤ 4 * bk k + 1; omega)
    · have h1 := inv.cnt
      have := ro.few
      omega
theorem as_neLR {σ : L2.St} {H : Hp} {ta : TE} {v : V} {xs : List (List Rat)} {b : Bool} (h : Val ta σ H v) (hv : iCols K H v xs) (hb : (!decide (xs = [])) = b) : AS (tTest (tOp (rNeD K) ta (tLst tNil))) σ H b := fun Q k =>
  h _ ⟨by decide, fun p hp => r_neD (dat_L dat_Row) (dat_L dat_Row) (by decide) (by decide) (mCols.to (same_new hp) hv) (show iL K (iRow K) (upd H p (.lst [])) (.ref p) [] from ⟨p, [], rfl, SqL.of upd_same, .nil⟩) ⟨b, by
    rw [eqv_L eqv_Row, hb], k _ (same_new hp)⟩⟩
theorem sc_rank : FnScope ["rows", "rest", "found", "k", "leads", "row", "lead", "others"] ["rows"] (defScope s_rank) := ⟨rfl, rfl, rfl, by decide +kernel, rfl, by decide +kernel, by decide +kernel⟩
theorem ok_rank (T : Txt K mg) : FnOk P w K mg base CX0 5 T.rank.f T.rank.fd ["rows"] (spRank K) := by
  refine T.rank.F.ok sc_rank (fun vs H Q E h => ?_) (fun cdv A outer s H vs Q E hr h => ?_)
  · obtain ⟨_, _, _, rfl, _⟩ := h; rfl
  · obtain ⟨v, L, rows, rfl, h1, ro, q⟩ := h
    have hf := ro.few
    have hlow := ro.low
    obtain ⟨c0, hc0, l0⟩ := ro.first
    refine ⟨_, (PSs.nox (pss_cons (ps_par (i := 1) (j := 2) rfl sc_rank.nd rfl rfl (by decide) rfl rfl (pa_cons (pe_callTy (k_list K) rfl T.b_list (by decide +kernel) (pa_cons (pv 0) pa_nil)) (pa_cons pe_int pa_nil)) rfl) (pss_cons (ps_for PassesOwn.never rfl (pi_range1 rfl T.b_range (pa_cons (pe_callB (k_len K) rfl T.b_len (by decide +kernel) (pa_cons (pe_ix (ix_listK K) (pv 0) pe_int (fun _ _ => rfl)) pa_nil)) pa_nil)) (pg_name (i := 3) sc_rank.nd rfl (.inr rfl)) (pss_cons (ps_setLc (i := 4) (own := [("row", 5)]) (g := (gName 5)) rfl sc_rank.nd rfl rfl (sw_true rfl rfl rfl (by decide +kernel)) (pi_listK K (pv 1)) (blkOk_by (N := ["rows", "rest", "found", "k", "leads", "row", "lead", "others"]) (sc := defScope s_rank) (by decide +kernel)) (fun _ _ _ _ _ => (pg_name (i := 5) sc_rank.nd rfl (.inl rfl))) (fun _ _ _ _ _ => pts_one (pt_cmpR (op_neDK K (by exact hr.units)) (pe_ix (ix_tupK K) (pv 5) (pv 3) (fun _ _ => rfl)) (pgl T.gZERO) (nomark _))) (fun _ _ _ _ _ => (pv 5))) (pss_one (ps_if (pt_cmpR (op_neDK K hr.units) (pv 4) (pe_lst pa_nil) (nomark _)) (pss_cons (ps_aug (i := 2) sc_rank.nd rfl (.inl rfl) pe_int iop_add) (pss_cons (ps_set (i := 6) sc_rank.nd rfl (.inr rfl) (pe_ix (ix_listK K) (pv 4) pe_int (fun _ _ => rfl))) (pss_cons (ps_set (i := 7) sc_rank.nd rfl (.inl rfl) (pe_callTy (k_list K) rfl T.b_list (by decide +kernel) (pa_cons (pv 1) pa_nil))) (pss_cons (ps_expr (pe_bmK K PySem.F.plainAttrs_list PySem.F.slot_list_remove PySem.F.type_list_remove (mt_removeD hr.units) (pv 7) (pa_cons (pv 6) pa_nil))) (pss_one (ps_setLc (i := 1) (own := [("row", 5)]) (g := (gName 5)) (tt := tYes) rfl sc_rank.nd rfl rfl (sw_true rfl rfl rfl (by decide +kernel)) (pi_listK K (pv 7)) (blkOk_by (N := ["rows", "rest", "found", "k", "leads", "row", "lead", "others"]) (sc := defScope s_rank) (by decide +kernel)) (fun _ _ _ _ _ => (pg_name (i := 5) sc_rank.nd rfl (.inl rfl))) (fun _ _ _ _ _ => pts_nil) (fun _ _ _ _ _ => (pcall T.without (ok_without T) (hr.mono (by decide)) (pa_cons (pv 5) (pa_cons (pv 6) (pa_cons (pv 3) pa_nil))))))))))) pss_nil)))) (pss_one (ps_ret (pv 2)))))), ?_⟩
    refine st_seq ?_
    have hA : VSA (tCons (tCB (rListK K) (tCons (tVar 0) tNil)) (tCons (tC (.int 0)) tNil)) [some v, none, none, none, none, none, none, none] H (fun vs H' => ∃ a, vs = [.ref a, .int 0] ∧ nL (iRow K) H' a rows) := fun Q' k =>
      vs_list (k1 := false) (mRow (K := K)) (vsv (val_var (i := 0) (v := v) rfl) h1) _ fun u H1 s1 hu => by
        obtain ⟨a, rfl, _, hn⟩ := hu
        exact k _ _ s1 ⟨a, rfl, hn⟩
    show tPar 1 2 _ _ _ _
    refine hA _ fun vs H1 s1 hvs => ?_
    obtain ⟨ra, rfl, hra⟩ := hvs
    refine ⟨_, _, rfl, ?_⟩
    dsimp only
    refine st_seq (st_for (R := iI) (xs := ups 0 L) (fun i σ H' => ∃ w z3 z4 z5 z6 z7, σ = [some v, some w, some (.int (((Mx.rk rows i).2 : Nat) : Int)), z3, z4, z5, z6, z7] ∧ iCols K H' w (Mx.rk rows i).1) ?_ (fun H2 s2 => ⟨_, none, none, none, none, none, rfl, mCols.to s2 hra.iL⟩) ?_ ?_)
    · have hlen : Val (tCB (rLenK K) (tCons (tOp (rIxL K) (tVar 0) (tC (.int 0))) tNil)) [some v, some (.ref ra), some (.int 0), none, none, none, none, none] H1 (.int (L : Int)) := fun Q' k => by
        refine v_ixL (i := 0) (val_var (i := 0) (v := v) rfl) val_c (mCols.to s1 h1) hc0 fun u hu => ?_
        obtain ⟨a, xs, rfl, hs, hp⟩ := hu
        refine ⟨a, xs, rfl, .inr hs, ?_⟩
        rw [plen hp, l0]; exact k
      have := ws_range1 (va1 hlen) (by omega) (by omega)
      rw [Int.toNat_natCast] at this
      exact this
    · rintro i x vx σ1 H2 H3 N hx ⟨w, z3, z4, z5, z6, z7, rfl, hw⟩ s2 s3 hr2 hN
      have hi : i < L := by have := (List.getElem?_eq_some_iff.mp hx).1; rw [ups_len] at this; exact this
      rw [ups_get hi] at hx
      cases hx
      have hr2 : vx = .int (i : Int) := by
        have e : vx = V.int (0 + (i : Int)) := hr2
        rw [e, Int.zero_add]
      subst hr2
      have ok := rk_ok ro i (by omega)
      have hw3 := mCols.to s3 hw
      show tSeq _ _ _ [some v, some w, some (.int (((Mx.rk rows i).2 : Nat) : Int)), some (.int (i : Int)), z4, z5, z6, z7] _
      refine st_seq (st_set' (R := NewL (iRow K) H3 (((Mx.rk rows i).1.filter fun row => decide (Mx.vF row i ≠ 0)).map fun r => r)) (vs_lcNF (R := iRow K) (Z := iRow K) robRow mRow (fun r => r) (fun row => decide (Mx.vF row i ≠ 0)) (ws_list mRow (vsv (val_var rfl) hw3)) (sizeLine_ge (by have := ok.few; omega)) (fun _ => rfl) (fun row vr H4 hm s4 hr C k => ?_) (fun row vr H4 hm s4 hr _ => VS.el (vsv (val_var rfl) hr)) mRow) fun u H4 s4 hu => ?_)
      · refine v_ixT (σ := [some v, some w, some (.int (((Mx.rk rows i).2 : Nat) : Int)), some (.int (i : Int)), z4, some vr, z6, z7]) (val_var (i := 5) rfl) (val_var (i := 3) rfl) hr (get_vF (by rw [ok.len row hm]; exact hi)) fun y hy => ?_
        refine val_c _ ?_
        refine r_neD dat_Q dat_Q (by decide) (by decide) hy (q0 T H4) ⟨_, ?_, k _ (Same.refl _)⟩
        rw [eqv_Q]
        by_cases z : Mx.vF row i = 0 <;> simp [z]
      · obtain ⟨la, rfl, hla, hln⟩ := hu
        rw [List.map_id'] at hln
        have hidx := filt_idx (p := fun row => decide (Mx.vF row i ≠ 0)) (l := (Mx.rk rows i).1)
        generalize hp0 : (Mx.rk rows i).1.findIdx (fun row => decide (Mx.vF row i ≠ 0)) = p0 at hidx
        dsimp only
        by_cases hlt : p0 < (Mx.rk rows i).1.length
        · have hlead := List.getElem?_eq_getElem hlt
          rw [hlead] at hidx
          generalize hle : (Mx.rk rows i).1[p0] = lead at hidx hlead
          have hlm : lead ∈ (Mx.rk rows i).1 := List.mem_of_getElem? hlead
          have hl0 : Mx.vF lead i ≠ 0 := by
            have := List.findIdx_getElem (xs := (Mx.rk rows i).1) (p := fun row => decide (Mx.vF row i ≠ 0)) (w := by rw [hp0]; exact hlt)
            simp only [hp0, hle] at this
            simpa using this
          have estep : Mx.rk rows (i + 1) = (((Mx.rk rows i).1.eraseIdx p0).map (Mx.without i lead), (Mx.rk rows i).2 + 1) := by
            show Mx.rkStep i (Mx.rk rows i) = _
            unfold Mx.rkStep
            simp only
            rw [hp0, if_pos hlt, List.getD_eq_getElem?_getD, hlead]; rfl
          refine st_yes' (as_neLR (val_var rfl) hln.iL (by
            rw [decide_eq_false fun z => by rw [z] at hidx; simp at hidx]; rfl)) fun H5 s5 => ?_
          refine st_seq ⟨_, rfl, _, _, rfl, rfl, ?_⟩
          dsimp only
          refine st_seq (st_set' (R := fun u H' => iRow K H' u lead) (vs_ix0 (val_var rfl) (mCols.to s5 hln.iL) hidx) fun vl H6 s6 hvl => ?_)
          dsimp only
          refine st_seq (st_set' (vs_list (k1 := false) mRow (vsv (val_var rfl) (mCols.to (s4.trans (s5.trans s6)) hw3))) fun vo H7 s7 hvo => ?_)
          obtain ⟨oa, rfl, hoa, hon⟩ := hvo
          have hvl7 := mRow.to s7 hvl
          dsimp only
          obtain ⟨ovs, ho1, ho2⟩ := hon
          refine st_seq (st_remove (y := vl) (val_var rfl) (val_var rfl) ho1 ?_)
          refine ⟨oa, ovs, vl, (Mx.rk rows i).1.map dRow, dRow lead, p0, rfl, rfl, ho1, dp_all (fun h => dat_Row.rd h) ho2, dat_Row.rd hvl7, plain_all (dat_Row (K := K)).plain _, (dat_Row (K := K)).plain _, Nat.le_trans ((dat_Row (K := K)).dep _) (by decide), place_at hp0 hlead, ?_⟩
          have hE : nL (iRow K) (upd H7 oa (.lst (ovs.eraseIdx p0))) oa ((Mx.rk rows i).1.eraseIdx p0) := ⟨_, upd_same, Paired.mapP (perase p0 ho2) fun _ _ r => robRow.to ho1 trivial r⟩
          have s8 : Same H6 (upd H7 oa (.lst (ovs.eraseIdx p0))) := same_put s7 hoa
          dsimp only
          refine st_set' (VS.imp (vs_lcN (R := iRow K) (Z := iRow K) robRow mRow (Mx.without i lead) (ws_list mRow (vsv (val_var rfl) hE.iL)) (sizeLine_ge (by have := ok.few; have := List.length_eraseIdx_le (Mx.rk rows i).1 p0; omega)) (fun _ => rfl) fun row vr H8 hm s9 hr => VS.el (vs_call (va_cons (val_var rfl) (va2 (val_var rfl) (val_var rfl))) fun Q' k => ?_)) fun u H s h => h.n) fun u H9 s9 hu => ?_
          · have hm' := List.mem_of_mem_eraseIdx hm
            exact ⟨vr, vl, i, row, lead, bk i, rfl, hr, mRow.to (s8.trans s9) hvl, by rw [ok.len row hm', ok.len lead hlm], by rw [ok.len row hm']; omega, by rw [ok.len row hm']; exact hi, hl0, ok.small row hm', ok.small lead hlm, bk_le (by omega), fun r H' s hr => k r H' s hr⟩
          · obtain ⟨na, rfl, hna⟩ := hu
            refine hN _ _ (s4.trans (s5.trans (s6.trans (s8.trans s9)))) ⟨.ref na, some (.int (i : Int)), some (.ref la), z5, some vl, some (.ref oa), ?_, ?_⟩
            · rw [estep]
              show _ = [some v, some (V.ref na), some (V.int (((Mx.rk rows i).2 + 1 : Nat) : Int)), _, _, _, _, _]
              rfl
            · rw [estep]; exact hna.iL
        · have hnone : (Mx.rk rows i).1.filter (fun row => decide (Mx.vF row i ≠ 0)) = [] := by
            rw [List.getElem?_eq_none (l := (Mx.rk rows i).1) (i := p0) (by omega)] at hidx
            exact List.eq_nil_of_length_eq_zero (Nat.le_zero.mp (List.getElem?_eq_none_iff.mp hidx))
          rw [hnone] at hln
          have estep : Mx.rk rows (i + 1) = Mx.rk rows i := by
            show Mx.rkStep i (Mx.rk rows i) = _
            unfold Mx.rkStep
            simp only
            rw [hp0, if_neg hlt]
          refine st_no' (as_neLR (val_var rfl) hln.iL rfl) fun H5 s5 => st_next (hN _ _ (s4.trans s5) ⟨w, some (.int (i : Int)), some (.ref la), z5, z6, z7, ?_, ?_⟩)
          · rw [estep]; rfl
          · rw [estep]; exact mCols.to (s4.trans s5) hw3
    · rintro σ1 H2 s2 ⟨w, z3, z4, z5, z6, z7, rfl, hw⟩
      rw [ups_len]
      dsimp only
      exact st_ret (val_var rfl) (q H2 (s1.trans s2))
end
end K19
namespace K19
open PySem PySem.Spec L2
section
variable {K : PySem.W.Frag} {σ : L2.St} {H : Hp} {α γ : Type} {R : Rp α} {Z : Rp γ}
/-- a comprehension of two walks: a list, and numbers for each item -/
theorem vs_lc2 (rbR : Rob noNE R) (mR : Mon R) (rb : Rob noNE Z) (mZ : Mon Z) {wi : TI} {t1 : TA} {te : TE} {vs : List Nat} {i j : Nat} {xs : List α} (lo hi : α → Int) (e : α → Nat → γ) (w : WS wi σ H R xs) (hlen : ((xs.map fun x => (hi x - lo x).toNat).sum) ≤ 1000)
    (hb : ∀ x ∈ xs, (-(2 ^ 62) ≤ lo x ∧ lo x < 2 ^ 62) ∧ -(2 ^ 62) ≤ hi x ∧ hi x < 2 ^ 62) (hwp : ∀ a, wipe ((wipe σ vs).set i a) vs = wipe σ vs) (hwp1 : ∀ a b, wipe ((wipe ((wipe σ vs).set i a) [j]).set j b) [j] = wipe ((wipe σ vs).set i a) [j])
    (ha : ∀ (x : α) (v : V) (H' : Hp), x ∈ xs → Same H H' → R H' v x → VSA t1 ((wipe σ vs).set i (some v)) H' (fun ws _ => ws = [.int (lo x), .int (hi x)]))
    (he : ∀ (x : α) (v : V) (H' : Hp) (n : Nat), x ∈ xs → Same H H' → R H' v x → n < (hi x - lo x).toNat → VS te ((wipe ((wipe σ vs).set i (some v)) [j]).set j (some (.int (lo x + (n : Int))))) H' (fun y H2 => Z H2 y (e x n))) :
    VS (tLc2 wi (gName i) tYes (iRng2 t1) (gName j) tYes te vs [j]) σ H (NewL Z H (xs.flatMap fun x => (List.range (hi x - lo x).toNat).map (e x))) := fun Q k =>
  w _ fun J H1 s1 tw D hD => by
    have hcnt : ∀ i, (((xs.take i).flatMap fun x => (List.range (hi x - lo x).toNat).map (e x))).length ≤ ((xs.map fun x => (hi x - lo x).toNat).sum) := fun i => by
      rw [List.length_flatMap]
      simp only [List.length_map, List.length_range]
      rw [← List.take_append_drop i xs, List.map_append, List.sum_append, List.take_append_drop]
      exact Nat.le_add_right _ _
    let Pv : Nat → Hp → Prop := fun i H => Same H1 H ∧ nL Z H D ((xs.take i).flatMap fun x => (List.range (hi x - lo x).toNat).map (e x))
    refine ⟨fun i m H => m = xs.length - i ∧ i ≤ xs.length ∧ Pv i H, ⟨xs.length, by simp, Nat.zero_le _, same_new hD, [], upd_same, .nil⟩, ?_⟩
    rintro i2 m H2 ⟨rfl, hi2, p1, p2⟩
    by_cases hlt : i2 < xs.length
    · refine .inr ⟨tw.goes i2 H2 hlt p1, Pv (i2 + 1), fun H' p' => ⟨xs.length - (i2 + 1), by omega, rfl, hlt, p'⟩, fun v H3 y => ?_⟩
      obtain ⟨s3, x, hx, hr⟩ := tw.yields i2 H2 v H3 hlt p1 y
      have hm : x ∈ xs := List.mem_of_getElem? hx
      have tk : xs.take (i2 + 1) = xs.take i2 ++ [x] := by rw [List.take_add_one, hx]; rfl
      refine ⟨hwp _, iteT (B := Pv (i2 + 1) H3) ?_⟩
      have s13 := p1.trans s3
      refine ha x v H3 hm (s1.trans s13) hr _ fun ws H4 s4 ew => ?_
      refine ⟨lo x, hi x, ew, ⟨(hb x hm).1.1, (hb x hm).1.2, (hb x hm).2.1, (hb x hm).2.2⟩, ?_⟩
      have w1 := walk_range (lo := lo x) (n := (hi x - lo x).toNat)
      let Pw : Nat → Hp → Prop := fun n H => Same H1 H ∧ R H v x ∧ nL Z H D (((xs.take i2).flatMap fun x => (List.range (hi x - lo x).toNat).map (e x)) ++ (List.range n).map (e x))
      have p0 : Pw 0 H4 := ⟨s13.trans s4, mR.to s4 hr, by
        obtain ⟨vs0, g1, g2⟩ := p2
        refine ⟨vs0, s4 _ _ (s3 _ _ g1), ?_⟩
        simpa using paired_mono mZ (s3.trans s4) g2⟩
      refine ⟨fun n k H => k = (hi x - lo x).toNat - n ∧ n ≤ (hi x - lo x).toNat ∧ Pw n H, ⟨(hi x - lo x).toNat, by simp, Nat.zero_le _, p0⟩, ?_⟩
      rintro n k2 H5 ⟨rfl, hn, q1, q2, q3⟩
      by_cases hl2 : n < (hi x - lo x).toNat
      · refine .inr ⟨w1.goes n H5 hl2 trivial, Pw (n + 1), fun H' p' => ⟨(hi x - lo x).toNat - (n + 1), by omega, rfl, hl2, p'⟩, fun u H6 y2 => ?_⟩
        obtain ⟨e6, eu⟩ := w1.yields n H5 u H6 hl2 trivial y2
        subst e6
        have eu : u = .int (lo x + (n : Int)) := eu
        subst eu
        refine ⟨hwp1 _ _, iteT (B := Pw (n + 1) H6) ?_⟩
        refine he x v _ n hm (s1.trans q1) q2 hl2 _ fun y H7 s7 hy => ?_
        obtain ⟨acc, g1, g2⟩ := q3
        have hacc := s7 _ _ g1
        have hl := plen g2
        have hle := hcnt (i2 + 1)
        have etk : (xs.take (i2 + 1)).flatMap (fun x => (List.range (hi x - lo x).toNat).map (e x)) = (xs.take i2).flatMap (fun x => (List.range (hi x - lo x).toNat).map (e x)) ++ (List.range (hi x - lo x).toNat).map (e x) := by
          rw [tk, List.flatMap_append]; simp
        rw [etk, List.length_append, List.length_map, List.length_range] at hle
        rw [List.length_append, List.length_map, List.length_range] at hl
        refine ⟨acc, hacc, Nat.lt_of_lt_of_le (show acc.length < 1000 by omega) (sizeLine_ge (Nat.le_refl _)), same_put (q1.trans s7) hD, rbR.to hacc trivial (mR.to s7 q2), acc ++ [y], upd_same, ?_⟩
        rw [List.range_succ, List.map_append, ← List.append_assoc]
        exact papp (Paired.mapP (paired_mono mZ s7 g2) fun _ _ r => rb.to hacc trivial r) (.cons (rb.to hacc trivial hy) .nil)
      · have en : n = (hi x - lo x).toNat := by omega
        subst en
        refine .inl ⟨w1.stops H5 trivial, q1, ?_⟩
        rw [tk, List.flatMap_append]
        simpa using q3
    · have e2 : i2 = xs.length := by omega
      subst e2
      rw [List.take_length] at p2
      exact .inl ⟨tw.stops H2 p1, k _ _ (s1.trans p1) ⟨D, rfl, s1.free hD, p2⟩⟩
end
theorem vsaV {σ : L2.St} {H : Hp} {ta tb : TE} {a b : V} (h : VS ta σ H (fun v _ => v = a)) (g : ∀ H', Same H H' → Val tb σ H' b) : VSA (tCons ta (tCons tb tNil)) σ H (fun vs _ => vs = [a, b]) := fun Q k =>
  h _ fun v H1 s1 e => g H1 s1 _ (k _ _ s1 (by rw [e]))
/-! ### lots -/
def iLt (K : PySem.W.Frag) : Rp (List Nat) := fun H v S => iT K iI H v (S.map fun k => ((k : Nat) : Int))
theorem mLt {K : PySem.W.Frag} : Mon (iLt K) := ⟨fun e h => (mT mI).to e h⟩
theorem robLt {K : PySem.W.Frag} : Rob noNE (iLt K) := ⟨fun hD _ h => (robTT robI).to hD trivial h⟩
theorem lots_cnt {N : Nat} : ∀ k, ((Mx.lotLast N k).map fun lot => ((N : Int) - (Mx.nextOf lot : Int)).toNat).sum = (Mx.lotLast N (k + 1)).length := fun k => by
  show _ = (Mx.lotStep N (Mx.lotLast N k)).length
  unfold Mx.lotStep
  rw [List.length_flatMap]
  congr 1
  refine List.map_congr_left fun lot _ => ?_
  rw [List.length_map, List.length_range]
  omega
section
variable {P : Program} {w : World} {K : PySem.W.Frag} {mg : Str → Option Value} {base : Heap}
def spLots (K : PySem.W.Frag) : Sp := fun vs H Q _ => ∃ N m : Nat, vs = [.int (N : Int), .int (m : Int)] ∧ N ≤ 5 ∧ m ≤ 4 ∧ ∀ u H', Same H H' → iL K (iLt K) H' u (Mx.lotsL N (min N m)) → Q u H'
theorem as_neLot {σ : L2.St} {H : Hp} {ta : TE} {v : V} {S : List Nat} {b : Bool} (h : Val ta σ H v) (hv : iLt K H v S) (hb : (!decide (S = [])) = b) : AS (tTest (tOp (rNeD K) ta (tTup tNil))) σ H b := fun Q k =>
  h _ ⟨by decide, fun p hp => r_neD (dat_T dat_I) (dat_T dat_I) (by decide) (by decide) ((mT mI).to (same_new hp) hv) (show iT K iI (upd H p (.tup [])) (.ref p) [] from ⟨p, [], rfl, SqT.of upd_same, .nil⟩) ⟨b, by
    rw [eqv_T (fun x y => show PyData.eqv (.int x) (.int y) = decide (x = y) by simp [PyData.eqv]; rfl), ← hb]
    congr 1
    cases S <;> simp, k _ (same_new hp)⟩⟩
theorem last_of {S : List Nat} {k : Nat} (h : S.getLast? = some k) : ∃ T, S = T ++ [k] := by
  rcases List.eq_nil_or_concat S with e | ⟨T, b, e⟩
  · subst e; simp at h
  · subst e
    simp at h
    exact ⟨T, by rw [h, List.concat_eq_append]⟩
theorem sc_lots : FnScope ["many", "most", "found", "last", "length", "lot", "k"] ["many", "most"] (defScope s_lots) := ⟨rfl, rfl, rfl, by decide +kernel, rfl, by decide +kernel, by decide +kernel⟩
theorem ok_lots (T : Txt K mg) : FnOk P w K mg base CX0 1 T.lots.f T.lots.fd ["many", "most"] (spLots K) := by
  refine T.lots.F.ok sc_lots (fun vs H Q E h => ?_) (fun cdv A outer s H vs Q E hr h => ?_)
  · obtain ⟨_, _, rfl, _⟩ := h; rfl
  · obtain ⟨N, m, rfl, hN, hm, q⟩ := h
    refine ⟨_, (PSs.nox (pss_cons (ps_par (i := 2) (j := 3) rfl sc_lots.nd rfl rfl (by decide) rfl rfl (pa_cons (pe_lst pa_nil) (pa_cons (pe_lst (pa_cons (pe_tup pa_nil) pa_nil)) pa_nil)) rfl) (pss_cons (ps_for PassesOwn.never rfl (pi_range1 rfl T.b_range (pa_cons (pe_callB (call_min2 rfl) rfl T.b_min (by decide +kernel) (pa_cons (pv 0) (pa_cons (pv 1) pa_nil))) pa_nil)) (pg_name (i := 4) sc_lots.nd rfl (.inl rfl)) (pss_cons (ps_setLc2 (i := 3) (own := [("lot", 5), ("k", 6)]) (vs1 := [6]) (g := (gName 5)) (g1 := (gName 6)) (tt := tYes) (tt1 := tYes) rfl sc_lots.nd rfl rfl (sw_true rfl rfl rfl (by decide +kernel)) (pi_listK K (pv 3)) (blkOk_by (N := ["many", "most", "found", "last", "length", "lot", "k"]) (sc := defScope s_lots) (by decide +kernel)) (by decide) (fun _ _ _ _ _ => (pg_name (i := 5) sc_lots.nd rfl (.inl rfl))) (fun _ _ _ _ _ => pts_nil) (fun _ _ _ _ _ => (pi_range2 rfl T.b_range (pa_cons (pe_ifExp (pt_cmpR (op_neDK K (by exact hr.units)) (pv 5) (pe_tup pa_nil) (nomark _)) (pe_op op_add (pe_ix (ix_tupK K) (pv 5) (pe_un un_neg pe_int) (fun _ _ => rfl)) pe_int) pe_int) (pa_cons (pv 0) pa_nil)))) (fun _ _ _ _ _ => (pg_name (i := 6) sc_lots.nd rfl (.inl rfl))) (fun _ _ _ _ _ => pts_nil) (fun _ _ _ _ _ => (pe_tup (pa_starK K (pv 5) (pa_cons (pv 6) pa_nil))))) (pss_one (ps_set (i := 2) sc_lots.nd rfl (.inl rfl) (pe_op op_cat (pv 2) (pv 3)))))) (pss_one (ps_ret (pv 2)))))), ?_⟩
    refine st_seq ?_
    show tPar 2 3 _ _ _ _
    have hA : VSA (tCons (tLst tNil) (tCons (tLst (tCons (tTup tNil) tNil)) tNil)) [some (.int (N : Int)), some (.int (m : Int)), none, none, none, none, none] H (fun vs H' => ∃ a b, vs = [.ref a, .ref b] ∧ nL (iLt K) H' a [] ∧ nL (iLt K) H' b [[]]) := fun Q' k =>
      vs_nil (R := iLt K) _ fun u H1 s1 ⟨a, e, _, ha⟩ => vs_lst1 (R := iLt K) (x := ([] : List Nat)) mLt (fun Q2 k2 => ⟨Nat.zero_le _, fun p hp => k2 _ _ (same_new hp) ⟨p, [], rfl, SqT.of upd_same, .nil⟩⟩) _ fun u2 H2 s2 ⟨b, e2, _, hb⟩ => k [.ref a, .ref b] H2 (s1.trans s2) |> fun z => by rw [e, e2]; exact z ⟨a, b, rfl, (let ⟨vs, g1, g2⟩ := ha; ⟨vs, s2 _ _ g1, paired_mono mLt s2 g2⟩), hb⟩
    refine hA _ fun vs H1 s1 hvs => ?_
    obtain ⟨fa, la, rfl, hfa, hla⟩ := hvs
    refine ⟨_, _, rfl, ?_⟩
    dsimp only
    have hmin : Val (tCB (fun xs H Q => ∃ i j, xs = [V.int i, V.int j] ∧ Q (V.int (if j < i then j else i)) H) (tCons (tVar 0) (tCons (tVar 1) tNil))) [some (.int (N : Int)), some (.int (m : Int)), some (.ref fa), some (.ref la), none, none, none] H1 (.int ((min N m : Nat) : Int)) := fun Q' k =>
      va2 (val_var rfl) (val_var rfl) _ ⟨_, _, rfl, by
        have e : (if (m : Int) < (N : Int) then (m : Int) else (N : Int)) = ((min N m : Nat) : Int) := by
          by_cases z : m < N
          · rw [if_pos (by omega)]; omega
          · rw [if_neg (by omega)]; omega
        rw [e]; exact k⟩
    refine st_seq (st_for (R := iI) (xs := ups 0 (min N m)) (fun i σ H' => ∃ z4 z5 z6, ∃ f l, σ = [some (.int (N : Int)), some (.int (m : Int)), some (.ref f), some (.ref l), z4, z5, z6] ∧ nL (iLt K) H' f (Mx.lotsL N i) ∧ nL (iLt K) H' l (Mx.lotLast N i)) ?_ (fun H2 s2 => ⟨none, none, none, fa, la, rfl, (let ⟨vs, g1, g2⟩ := hfa; ⟨vs, s2 _ _ g1, paired_mono mLt s2 g2⟩), (let ⟨vs, g1, g2⟩ := hla; ⟨vs, s2 _ _ g1, paired_mono mLt s2 g2⟩)⟩) ?_ ?_)
    · have := ws_range1 (va1 hmin) (by omega) (by omega)
      rw [Int.toNat_natCast] at this
      exact this
    · rintro i x vx σ1 H2 H3 Nx hx ⟨z4, z5, z6, f, l, rfl, hf, hl⟩ s2 s3 hr2 hNx
      have hi : i < min N m := by have := (List.getElem?_eq_some_iff.mp hx).1; rw [ups_len] at this; exact this
      have hf3 : nL (iLt K) H3 f (Mx.lotsL N i) := let ⟨vs, g1, g2⟩ := hf; ⟨vs, s3 _ _ g1, paired_mono mLt s3 g2⟩
      have hl3 : nL (iLt K) H3 l (Mx.lotLast N i) := let ⟨vs, g1, g2⟩ := hl; ⟨vs, s3 _ _ g1, paired_mono mLt s3 g2⟩
      show tSeq _ _ _ [some (.int (N : Int)), some (.int (m : Int)), some (.ref f), some (.ref l), some vx, z5, z6] _
      have hnum : ∀ k, k ≤ 4 → (Mx.lotLast N k).length ≤ 10 ∧ (Mx.lotsL N k).length ≤ 30 := by
        have : ∀ N, N < 6 → ∀ k, k < 5 → (Mx.lotLast N k).length ≤ 10 ∧ (Mx.lotsL N k).length ≤ 30 := by decide +kernel
        exact fun k hk => this N (by omega) k (by omega)
      have hlt : ∀ lot ∈ Mx.lotLast N i, Mx.nextOf lot ≤ N := fun lot hm => by
        have := (Mx.lotLast_iff.mp hm).1
        unfold Mx.nextOf
        split
        · omega
        · rename_i k hk
          obtain ⟨T, rfl⟩ := last_of hk
          have := this.lt k (by simp)
          omega
      refine st_seq (st_set' (R := NewL (iLt K) H3 (Mx.lotLast N (i + 1))) (VS.imp (vs_lc2 (R := iLt K) (Z := iLt K) robLt mLt robLt mLt (fun lot => ((Mx.nextOf lot : Nat) : Int)) (fun _ => (N : Int)) (fun lot n => lot ++ [Mx.nextOf lot + n]) (ws_list mLt (vsv (val_var rfl) hl3.iL)) (by
        rw [lots_cnt]; have := (hnum (i + 1) (by omega)).1; omega) (fun lot hm => by have := hlt lot hm; omega) (fun _ => rfl) (fun _ _ => rfl) (fun lot v H4 hm s4 hv => ?_) fun lot v H4 n hm s4 hv hn => ?_) fun u H s h => ?_) fun u H4 s4 hu => ?_)
      · refine vsaV (vs_if (b := !decide (lot = [])) (A := fun u _ => u = .int ((Mx.nextOf lot : Nat) : Int)) (as_neLot (val_var rfl) hv rfl) (fun hb H5 s5 => ?_) (fun hb H5 s5 => ?_)) fun _ _ => val_var rfl
        · have hne : lot ≠ [] := by simpa using hb
          have hk : lot.getLast? ≠ none := fun z => hne (List.getLast?_eq_none_iff.mp z)
          obtain ⟨k1, hk1⟩ := Option.ne_none_iff_exists'.mp hk
          obtain ⟨T, eT⟩ := last_of hk1
          have en : Mx.nextOf lot = k1 + 1 := by unfold Mx.nextOf; rw [hk1]
          have hv5 := mLt.to s5 hv
          obtain ⟨a, ws, rfl, hs, hp⟩ := hv5
          have ew := pint hp
          rw [eT, List.map_append, List.map_append] at ew
          have hl1 : Val (tOp (rIxT K) (tVar 5) (tUn (rU fun i => V.int (-i)) (tC (V.int 1)))) ((wipe [some (.int (N : Int)), some (.int (m : Int)), some (.ref f), some (.ref l), some vx, z5, z6] [5, 6]).set 5 (some (.ref a))) H5 (.int (k1 : Int)) := fun Q2 k2 =>
            val_var (i := 5) (v := .ref a) rfl _ (val_neg1 _ ⟨a, ws, -1, .int (k1 : Int), rfl, rfl, hs, by rw [ew]; exact atI_last _ _, k2⟩)
          exact vsv (vadd hl1 (val_c (v := .int 1))) (by rw [en]; congr 1)
        · have he : lot = [] := by simpa using hb
          subst he
          exact vsv val_c rfl
      · refine VS.imp (vs_tsnoc (R := iI) (x := ((Mx.nextOf lot : Nat) : Int) + (n : Int)) mI (vsv (val_var rfl) hv) (fun H5 s5 => vsv (val_var rfl) rfl) ?_) fun u H5 s5 hu => ?_
        · rw [List.length_map]
          have := (Mx.lotLast_iff.mp hm).2
          omega
        · show iT K iI H5 u _
          rw [List.map_append]
          have e : [Mx.nextOf lot + n].map (fun k => ((k : Nat) : Int)) = [((Mx.nextOf lot : Nat) : Int) + (n : Int)] := by simp
          rw [e]; exact hu
      · have e : (Mx.lotLast N i).flatMap (fun x => (List.range ((N : Int) - ((Mx.nextOf x : Nat) : Int)).toNat).map fun n => x ++ [Mx.nextOf x + n]) = Mx.lotLast N (i + 1) := by
          show _ = Mx.lotStep N (Mx.lotLast N i)
          unfold Mx.lotStep
          have : ∀ x : List Nat, ((N : Int) - ((Mx.nextOf x : Nat) : Int)).toNat = N - Mx.nextOf x := fun x => by omega
          simp only [this]
        rw [e] at h
        exact h
      · obtain ⟨l2, rfl, _, hl4⟩ := hu
        dsimp only
        refine st_set' (vs_cat mLt (vsv (val_var rfl) ⟨f, rfl, (let ⟨vs, g1, g2⟩ := hf3; ⟨vs, s4 _ _ g1, paired_mono mLt s4 g2⟩)⟩) (fun H5 s5 => vsv (val_var rfl) ⟨l2, rfl, (let ⟨vs, g1, g2⟩ := hl4; ⟨vs, s5 _ _ g1, paired_mono mLt s5 g2⟩)⟩) (sizeLine_ge (by have := (hnum i (by omega)).2; have := (hnum (i + 1) (by omega)).1; omega))) fun u H5 s5 hu => ?_
        obtain ⟨f2, rfl, _, hf5⟩ := hu
        exact hNx _ _ (s4.trans s5) ⟨some vx, z5, z6, f2, l2, rfl, hf5, (let ⟨vs, g1, g2⟩ := hl4; ⟨vs, s5 _ _ g1, paired_mono mLt s5 g2⟩)⟩
    · rintro σ1 H2 s2 ⟨z4, z5, z6, f, l, rfl, hf, hl⟩
      rw [ups_len] at hf
      dsimp only
      exact st_ret (val_var rfl) (q _ H2 (s1.trans s2) hf.iL)
end
end K19
namespace K19
open PySem PySem.Spec L2
open Mx (LRes Right longer tgt Mix URes UOk gain)
def iU (K : PySem.W.Frag) : Rp URes := fun H v r => match r with
  | .used y => ∃ a u, v = .ref a ∧ SqT K H a [.str "used", u] ∧ iRow K H u y
  | .barred s => ∃ a u, v = .ref a ∧ SqT K H a [.str "barred", u] ∧ iRow K H u s
def dU : URes → PyData
  | .used y => .tuple [.str "used", dRow y]
  | .barred s => .tuple [.str "barred", dRow s]
def usmall (b : Nat) : URes → Prop
  | .used y => Small b y
  | .barred _ => True
section
variable {P : Program} {w : World} {K : PySem.W.Frag} {mg : Str → Option Value} {base : Heap}
theorem mU : Mon (iU K) := ⟨fun {H H' v x} e h => by
  cases x with
  | used y => obtain ⟨a, u, h1, h2, h3⟩ := h; exact ⟨a, u, h1, sameT e h2, mRow.to e h3⟩
  | barred y => obtain ⟨a, u, h1, h2, h3⟩ := h; exact ⟨a, u, h1, sameT e h2, mRow.to e h3⟩⟩
theorem robU : Rob noNE (iU K) := ⟨fun {H D l l' v x} hD _ h => by
  cases x with
  | used y => obtain ⟨a, u, h1, h2, h3⟩ := h; exact ⟨a, u, h1, robT hD h2, robRow.to hD trivial h3⟩
  | barred y => obtain ⟨a, u, h1, h2, h3⟩ := h; exact ⟨a, u, h1, robT hD h2, robRow.to hD trivial h3⟩⟩
theorem dat_U : Dat K (iU K) dU 3 where
  rd := fun {H v x} h => by
    cases x with
    | used y => obtain ⟨a, u, rfl, h2, h3⟩ := h; exact .tup h2 (.cons (.str _) (.cons (dat_Row.rd h3) .nil))
    | barred y => obtain ⟨a, u, rfl, h2, h3⟩ := h; exact .tup h2 (.cons (.str _) (.cons (dat_Row.rd h3) .nil))
  lay := fun x => by cases x <;> simp [dU, PyData.canLay0, PyData.canLayAll0, (dat_Row (K := K)).lay] <;> decide +kernel
  plain := fun x => by cases x <;> simp [dU, PyData.plain, PyData.plainAll, (dat_Row (K := K)).plain]
  dep := fun x => by
    have h := (dat_Row (K := K)).dep
    cases x <;> simp only [dU, PyData.depth, PyData.depthAll]
    · rename_i a; have := h a; omega
    · rename_i a; have := h a; omega
def iNon : Rp Unit := fun _ v _ => v = .non
theorem mNon : Mon iNon := ⟨fun _ h => h⟩
theorem robNon : Rob noNE iNon := ⟨fun _ _ h => h⟩
theorem dat_Non : Dat K iNon (fun _ => PyData.none) 0 where
  rd := fun {H v x} h => by rw [show v = V.non from h]; exact .non
  lay := fun _ => rfl
  plain := fun _ => rfl
  dep := fun _ => Nat.le_refl _
/-- how a row is used, of mixings -/
def spUseOf (K : PySem.W.Frag) : Sp := fun vs H Q _ => ∃ v u L rows, ∃ k : Nat, vs = [v, u, .int (k : Int)] ∧ iCols K H v (longer rows) ∧ iRow K H u (tgt L) ∧ RO L rows ∧ k < rows.length ∧
  ((∃ x, Mix L rows x) → ∀ y H' r, Same H H' → iU K H' y r → UOk rows.length (L + 1) (Mx.colF (longer rows)) (Mx.vF (tgt L)) k r → usmall 125 r → Q y H') ∧ ((¬ ∃ x, Mix L rows x) → ∀ H', Same H H' → Q .non H')
theorem gain_row {n k : Nat} : (ups 0 n).map (fun j => if j = (k : Int) then (-1 : Rat) else 0) = rowQ n (gain k) := by
  unfold ups rowQ
  rw [List.map_map]
  refine List.map_congr_left fun j _ => ?_
  show (if (0 : Int) + (j : Int) = (k : Int) then (-1 : Rat) else 0) = if j = k then -1 else 0
  by_cases z : j = k
  · rw [if_pos z, if_pos (by omega)]
  · rw [if_neg z, if_neg (by omega)]
theorem limG : Lim (-1) := ⟨-12, by decide +kernel, by decide⟩
theorem sc_use_of : FnScope ["columns", "target", "k", "costs", "j", "told", "x", "y"] ["columns", "target", "k"] (defScope s_use_of) := ⟨rfl, rfl, rfl, by decide +kernel, rfl, by decide +kernel, by decide +kernel⟩
theorem ok_use_of (T : Txt K mg) : FnOk P w K mg base CX0 5 T.use_of.f T.use_of.fd ["columns", "target", "k"] (spUseOf K) := by
  refine T.use_of.F.ok sc_use_of (fun vs H Q E h => ?_) (fun cdv A outer s H vs Q E hr h => ?_)
  · obtain ⟨_, _, _, _, _, rfl, _⟩ := h; rfl
  · obtain ⟨v, u, L, rows, k, rfl, h1, h2, ro, hk, q1, q2⟩ := h
    have hf := ro.few
    have hlow := ro.low
    refine ⟨_, (PSs.nox (pss_cons (ps_setLc (i := 3) (own := [("j", 4)]) (g := (gName 4)) (tt := tYes) rfl sc_use_of.nd rfl rfl (sw_true rfl rfl rfl (by decide +kernel)) (pi_range1 rfl T.b_range (pa_cons (pe_callB (k_len K) rfl T.b_len (by decide +kernel) (pa_cons (pv 0) pa_nil)) pa_nil)) (blkOk_by (N := ["columns", "target", "k", "costs", "j", "told", "x", "y"]) (sc := defScope s_use_of) (by decide +kernel)) (fun _ _ _ _ _ => (pg_name (i := 4) sc_use_of.nd rfl (.inl rfl))) (fun _ _ _ _ _ => pts_nil) (fun _ _ _ _ _ => (pe_ifExp (pt_cmpR op_eq (pv 4) (pv 2) (nomark _)) (pgl T.gGAIN) (pgl T.gZERO)))) (pss_cons (ps_set (i := 5) sc_use_of.nd rfl (.inl rfl) (pcall T.least (ok_least T) (hr.mono (by decide)) (pa_cons (pv 0) (pa_cons (pv 3) (pa_cons (pv 1) pa_nil))))) (pss_cons (ps_if (pt_cmpR op_eq (pe_ix (ix_tupK K) (pv 5) pe_int (fun _ _ => rfl)) pe_str (nomark _)) (pss_one (ps_ret pe_non)) pss_nil) (pss_cons (ps_if (pt_cmpR op_eq (pe_ix (ix_tupK K) (pv 5) pe_int (fun _ _ => rfl)) pe_str (nomark _)) (pss_one (ps_ret (pe_tup (pa_cons pe_str (pa_cons (pe_callTy (k_tuple K) rfl T.b_tuple (by decide +kernel) (pa_cons (pe_lc (own := [("x", 6), ("y", 7)]) (g := (gTup K 2 (gCons (gName 6) (gCons (gName 7) gNil)))) (tt := tYes) rfl sc_use_of.nd (pi_zipK K true true rfl T.b_zip (pa_cons (pe_ix (ix_tupK K) (pv 5) pe_int (fun _ _ => rfl)) (pa_cons (pe_ix (ix_tupK K) (pv 5) pe_int (fun _ _ => rfl)) pa_nil))) (blkOk_by (N := ["columns", "target", "k", "costs", "j", "told", "x", "y"]) (sc := defScope s_use_of) (by decide +kernel)) (fun _ _ _ _ _ => (pg_tup rfl (pgs_cons (pg_name (i := 6) sc_use_of.nd rfl (.inl rfl)) (pgs_cons (pg_name (i := 7) sc_use_of.nd rfl (.inl rfl)) pgs_nil)))) (fun _ _ _ _ _ => pts_nil) (fun _ _ _ _ _ => (pcall T.plus (ok_plus T) (hr.mono (by decide)) (pa_cons (pv 6) (pa_cons (pv 7) pa_nil))))) pa_nil)) pa_nil))))) pss_nil) (pss_one (ps_ret (pe_ifExp (pt_cmpR (op_neDK K hr.units) (pe_ix (ix_tupK K) (pe_ix (ix_tupK K) (pv 5) pe_int (fun _ _ => rfl)) (pv 2) (fun _ _ => rfl)) (pgl T.gZERO) (nomark _)) (pe_tup (pa_cons pe_str (pa_cons (pe_ix (ix_tupK K) (pv 5) pe_int (fun _ _ => rfl)) pa_nil))) (pe_tup (pa_cons pe_str (pa_cons (pcall T.back (ok_back T) (hr.mono (by decide)) (pa_cons (pe_ix (ix_tupK K) (pv 5) pe_int (fun _ _ => rfl)) pa_nil)) pa_nil))))))))))), ?_⟩
    have hlen : Val (tCB (rLenK K) (tCons (tVar 0) tNil)) [some v, some u, some (.int (k : Int)), none, none, none, none, none] H (.int (rows.length : Int)) := by
      have := v_len (k1 := false) (R := iRow K) (K := K) (te := tVar 0) (σ := [some v, some u, some (.int (k : Int)), none, none, none, none, none]) (val_var (i := 0) (v := v) rfl) h1
      rw [Mx.longer_len] at this
      exact this
    refine st_seq (st_set' (R := NewL (iQ K) H (rowQ rows.length (gain k))) (VS.imp (vs_lcN (R := iI) (Z := iQ K) robQ mQ (fun j => if j = (k : Int) then (-1 : Rat) else 0) (ws_range1 (va1 hlen) (by omega) (by omega)) (by rw [ups_len]; exact sizeLine_ge (by omega)) (fun _ => rfl) fun j vj H1 hm s1 hj => VS.el ?_) fun u H s h => ?_) fun c H1 s1 hc => ?_)
    · have hj : vj = .int j := hj
      subst hj
      refine vs_if (b := decide (j = (k : Int))) (as_test (vsv (v_eq (val_var rfl) (val_var rfl) rfl) ?_)) (fun hb H s => vsv val_c ?_) fun hb H s => vsv val_c ?_
      · rw [show decide (V.int j = V.int (k : Int)) = decide (j = (k : Int)) from decide_eq_decide.mpr ⟨fun h => by injection h, fun h => by rw [h]⟩]
      · rw [if_pos (of_decide_eq_true hb)]; exact qG T H
      · rw [if_neg (of_decide_eq_false hb)]; exact q0 T H
    · rw [Int.toNat_natCast, gain_row] at h
      exact h
    obtain ⟨ca, rfl, _, hcn⟩ := hc
    dsimp only
    refine st_seq (st_set' (R := fun v H' => ∃ r, iRes K H' v r ∧ Right (longer rows) (rowQ rows.length (gain k)) (tgt L) r ∧ resSmall 125 r) (vs_call (va_cons (val_var rfl) (va2 (val_var rfl) (val_var rfl))) fun Q' kk => ⟨v, .ref ca, u, longer rows, _, tgt L, rfl, mCols.to s1 h1, hcn.iL, mRow.to s1 h2, ro.lp rowQ_len fun z hz => ?_, fun y H2 r s2 hr g1 g2 => kk y H2 s2 ⟨r, hr, g1, g2⟩⟩) fun vt H2 s2 ht => ?_)
    · unfold rowQ at hz
      obtain ⟨j, _, rfl⟩ := List.mem_map.mp hz
      unfold gain
      split
      · exact limG
      · exact lim0
    obtain ⟨r, hr, g1, g2⟩ := ht
    dsimp only
    have s12 := s1.trans s2
    have hgain : ∀ j, j < rows.length → Mx.vF (rowQ rows.length (gain k)) j = gain k j := fun j hj => vQ hj
    cases r with
    | none sl =>
      refine st_seq (st_yes' (as_of (ans_eq (b := true) (res_tag (val_var rfl) hr) val_c rfl (by simp only [tagOf]; decide))) fun H3 s3 => ?_)
      exact st_ret val_c (q2 (none_mix g1.2) H3 (s12.trans s3))
    | endless x z =>
      exfalso
      have h3 := g1.2.2
      rw [Mx.longer_len, tgt_len] at h3
      exact Mx.mix_bounded ro.lens h3
    | least x y =>
      have h3 := g1.2.2
      rw [Mx.longer_len, tgt_len] at h3
      have hx : x.length = rows.length := by rw [← Mx.longer_len]; exact g1.1
      have h3' : Mx.IsLeast rows.length (L + 1) (Mx.colF (longer rows)) (gain k) (Mx.vF (tgt L)) (Mx.vF x) (Mx.vF y) :=
        ⟨h3.nn, h3.rc, fun j hj => by rw [← hgain j hj]; exact h3.pr j hj, by rw [h3.eq]; exact Mx.sm_congr fun j hj => by rw [hgain j hj]⟩
      obtain ⟨u1, u2⟩ := Mx.use_least hk h3'
      have hsome : ∃ x, Mix L rows x := ⟨_, ⟨h3.nn, h3.rc⟩⟩
      refine st_seq (st_no (ans_eq (b := false) (res_tag (val_var rfl) hr) val_c rfl (tag_ne (by simp only [tagOf]; decide))) (st_next ?_))
      dsimp only
      refine st_seq (st_no (ans_eq (b := false) (res_tag (val_var rfl) hr) val_c rfl (tag_ne (by simp only [tagOf]; decide))) (st_next ?_))
      dsimp only
      obtain ⟨a, vx, vy, rfl, k2, k3, k4⟩ := hr
      have hkx : k < x.length := by omega
      have hvx : ∀ {H' : Hp}, Same H2 H' → ∀ {σ : L2.St}, σ[5]? = some (some (.ref a)) → Val (tOp (rIxT K) (tVar 5) (tC (.int 1))) σ H' vx := fun s _ e => ixAt (i := 1) (val_var e) val_c (sameT s k2) rfl
      refine st_ret' (R := fun y H' => ∃ r, iU K H' y r ∧ UOk rows.length (L + 1) (Mx.colF (longer rows)) (Mx.vF (tgt L)) k r ∧ usmall 125 r) (vs_if (b := decide (Mx.vF x k ≠ 0)) (fun Q' kk => ?_) (fun hb H3 s3 Q' kk => ?_) fun hb H3 s3 Q' kk => ?_) fun y H3 s3 ⟨r, hr, o1, o2⟩ => q1 hsome y H3 r (s12.trans s3) hr o1 o2
      · refine v_ixT (hvx (Same.refl _) (σ := [some v, some u, some (.int (k : Int)), some (.ref ca), none, some (.ref a), none, none]) rfl) (val_var (i := 2) rfl) k3 (get_vF hkx) fun z hz => ?_
        refine val_c _ ?_
        refine r_neD dat_Q dat_Q (by decide) (by decide) hz (q0 T H2) ⟨_, ?_, kk _ (Same.refl _)⟩
        rw [eqv_Q]
        by_cases z : Mx.vF x k = 0 <;> simp [z]
      · have hb := of_decide_eq_true hb
        refine tup2 (K := K) mRow val_c (vsv (hvx s3 rfl) (mRow.to s3 k3)) fun b w H4 s4 hb2 hw => ?_
        exact kk _ _ s4 ⟨.used x, ⟨b, w, rfl, hb2, hw⟩, ⟨hx, h3.nn, h3.rc, u1 hb⟩, g2.1⟩
      · have hb := of_decide_eq_false hb
        have hb : Mx.vF x k = 0 := by
          by_cases z : Mx.vF x k = 0
          · exact z
          · exact absurd z hb
        refine tup2 (K := K) (R := iRow K) (x := y.map fun q => - q) mRow val_c (vs_call (va1 (ixAt (i := 2) (val_var rfl) val_c (sameT s3 k2) rfl)) fun Q2 k5 => ⟨vy, y, rfl, mRow.to s3 k4, ?_, fun z H4 s4 hz => k5 z H4 s4 hz⟩) fun b w H4 s4 hb2 hw => ?_
        · have := g1.2.1
          rw [tgt_len] at this
          omega
        · exact kk _ _ s4 ⟨.barred _, ⟨b, w, rfl, hb2, hw⟩, u2 hb, trivial⟩
theorem paired_choose {α β : Type} {H : Hp} {R : Rp β} {Pq : α → β → Prop} : ∀ {vs : List V} {ks : List α}, Paired ((fun (H : Hp) (v : V) (k : α) => ∃ r, R H v r ∧ Pq k r) H) vs ks → ∃ us : List β, Paired (R H) vs us ∧ us.length = ks.length ∧ ∀ (i : Nat) (k : α) (r : β), ks[i]? = some k → us[i]? = some r → Pq k r
  | _, _, .nil => ⟨[], .nil, rfl, fun i k r h => by simp at h⟩
  | _, _, .cons ⟨r, h1, h2⟩ t => by
    obtain ⟨us, g1, g2, g3⟩ := paired_choose t
    refine ⟨r :: us, .cons h1 g1, by simp [g2], fun i k r' e1 e2 => ?_⟩
    cases i with
    | zero => simp at e1 e2; subst e1 e2; exact h2
    | succ i => exact g3 i k r' (by simpa using e1) (by simpa using e2)
theorem as_noneIn {α : Type} {R : Rp α} {d : α → PyData} {n : Nat} {σ : L2.St} {H : Hp} {tb : TE} {v : V} {xs : List α} {b : Bool} (hd : Dat K R d n) (hn : n ≤ 60) (g : Val tb σ H v) (hv : iL K R H v xs) (hb : (xs.map d).any (fun z => PyData.eqv z .none) = b) : AS (tTest (tOp (rInD K) (tC .non) tb)) σ H b :=
  as_of (ans_cmp val_c g fun Q q => ⟨.none, xs.map d, .non, (dat_L hd).rd hv, by decide, (dat_L hd).shaped (by omega) xs, by rw [hb]; exact q⟩)
def spUsable (K : PySem.W.Frag) : Sp := fun vs H Q _ => ∃ v u L rows, vs = [v, u] ∧ iCols K H v (longer rows) ∧ iRow K H u (tgt L) ∧ RO L rows ∧
  ((∃ x, Mix L rows x) → ∀ y H' us, Same H H' → iL K (iU K) H' y us → us.length = rows.length → (∀ k, k < rows.length → ∀ r, us[k]? = some r → UOk rows.length (L + 1) (Mx.colF (longer rows)) (Mx.vF (tgt L)) k r) → (∀ r ∈ us, usmall 125 r) → Q y H') ∧
  ((¬ ∃ x, Mix L rows x) → ∀ H', Same H H' → Q .non H')
theorem sc_usable : FnScope ["columns", "target", "found", "k"] ["columns", "target"] (defScope s_usable) := ⟨rfl, rfl, rfl, by decide +kernel, rfl, by decide +kernel, by decide +kernel⟩
theorem ok_usable (T : Txt K mg) : FnOk P w K mg base CX0 6 T.usable.f T.usable.fd ["columns", "target"] (spUsable K) := by
  refine T.usable.F.ok sc_usable (fun vs H Q E h => ?_) (fun cdv A outer s H vs Q E hr h => ?_)
  · obtain ⟨_, _, _, _, rfl, _⟩ := h; rfl
  · obtain ⟨v, u, L, rows, rfl, h1, h2, ro, q1, q2⟩ := h
    have hf := ro.few
    have hlow := ro.low
    have hpos := ro.pos
    refine ⟨_, (PSs.nox (pss_cons (ps_setLc (i := 2) (own := [("k", 3)]) (g := (gName 3)) (tt := tYes) rfl sc_usable.nd rfl rfl (sw_true rfl rfl rfl (by decide +kernel)) (pi_range1 rfl T.b_range (pa_cons (pe_callB (k_len K) rfl T.b_len (by decide +kernel) (pa_cons (pv 0) pa_nil)) pa_nil)) (blkOk_by (N := ["columns", "target", "found", "k"]) (sc := defScope s_usable) (by decide +kernel)) (fun _ _ _ _ _ => (pg_name (i := 3) sc_usable.nd rfl (.inl rfl))) (fun _ _ _ _ _ => pts_nil) (fun _ _ _ _ _ => (pcall T.use_of (ok_use_of T) (hr.mono (by decide)) (pa_cons (pv 0) (pa_cons (pv 1) (pa_cons (pv 3) pa_nil)))))) (pss_one (ps_ret (pe_ifExp (pt_cmpR (op_inDK K (u65 hr)) pe_non (pv 2) rfl) pe_non (pv 2)))))), ?_⟩
    have hlen : Val (tCB (rLenK K) (tCons (tVar 0) tNil)) [some v, some u, none, none] H (.int (rows.length : Int)) := by
      have := v_len (k1 := false) (R := iRow K) (K := K) (te := tVar 0) (σ := [some v, some u, none, none]) (val_var (i := 0) (v := v) rfl) h1
      rw [Mx.longer_len] at this
      exact this
    have hnat : ∀ k ∈ ups 0 ((rows.length : Int)).toNat, ∃ k' : Nat, k = (k' : Int) ∧ k' < rows.length := fun k hm => by
      unfold ups at hm
      obtain ⟨k', hk', e⟩ := List.mem_map.mp hm
      have hk' := List.mem_range.mp hk'
      exact ⟨k', by rw [← e]; omega, by omega⟩
    by_cases hmix : ∃ x, Mix L rows x
    · let Z : Rp Int := fun (H : Hp) (y : V) (k : Int) => ∃ r, iU K H y r ∧ (UOk rows.length (L + 1) (Mx.colF (longer rows)) (Mx.vF (tgt L)) k.toNat r ∧ usmall 125 r)
      have mZ : Mon Z := ⟨fun e ⟨r, h1, h2⟩ => ⟨r, mU.to e h1, h2⟩⟩
      have rZ : Rob noNE Z := ⟨fun hD _ ⟨r, h1, h2⟩ => ⟨r, robU.to hD trivial h1, h2⟩⟩
      refine st_seq (st_set' (R := NewL Z H ((ups 0 ((rows.length : Int)).toNat).map fun k => k)) (vs_lcN (R := iI) (Z := Z) rZ mZ (fun k => k) (ws_range1 (va1 hlen) (by omega) (by omega)) (by rw [ups_len]; exact sizeLine_ge (by omega)) (fun _ => rfl) fun k vk H1 hm s1 hk => VS.el ?_) fun c H1 s1 hc => ?_)
      · obtain ⟨k', rfl, hk'⟩ := hnat k hm
        have hk : vk = .int (k' : Int) := hk
        subst hk
        exact vs_call (va_cons (val_var rfl) (va2 (val_var rfl) (val_var rfl))) fun Q' kk => ⟨v, u, L, rows, k', rfl, mCols.to s1 h1, mRow.to s1 h2, ro, hk', fun _ y H2 r s2 hr o1 o2 => kk y H2 s2 ⟨r, hr, by rw [Int.toNat_natCast]; exact o1, o2⟩, fun hno => absurd hmix hno⟩
      · obtain ⟨a, rfl, _, vs, g1, g2⟩ := hc
        rw [List.map_id', Int.toNat_natCast] at g2
        obtain ⟨us, p1, p2, p3⟩ := paired_choose g2
        rw [ups_len] at p2
        have hus : iL K (iU K) H1 (.ref a) us := ⟨a, vs, rfl, SqL.of g1, p1⟩
        have hP : ∀ k, k < rows.length → ∀ r, us[k]? = some r → UOk rows.length (L + 1) (Mx.colF (longer rows)) (Mx.vF (tgt L)) k r ∧ usmall 125 r := fun k hk r hr => by
          have := p3 k (0 + (k : Int)) r (ups_get hk) hr
          rw [Int.zero_add, Int.toNat_natCast] at this
          exact this
        dsimp only
        refine st_ret' (vs_if (b := false) (A := fun v _ => v = .ref a) (as_noneIn dat_U (by decide) (val_var rfl) hus ?_) (fun e => absurd e (by decide)) fun _ H2 s2 => vsv (val_var rfl) rfl) fun y H2 s2 e => ?_
        · rw [List.any_eq_false]
          intro z hz
          obtain ⟨r, _, rfl⟩ := List.mem_map.mp hz
          cases r <;> simp [dU, PyData.eqv]
        · rw [e]
          exact q1 hmix _ H2 us (s1.trans s2) ((mL mU).to s2 hus) p2 (fun k hk r hr => (hP k hk r hr).1) fun r hr => by
            obtain ⟨i, hi, e⟩ := List.getElem_of_mem hr
            exact (hP i (by omega) r (by rw [List.getElem?_eq_getElem hi, e])).2
    · refine st_seq (st_set' (R := NewL iNon H ((ups 0 ((rows.length : Int)).toNat).map fun _ => ())) (vs_lcN (R := iI) (Z := iNon) robNon mNon (fun _ => ()) (ws_range1 (va1 hlen) (by omega) (by omega)) (by rw [ups_len]; exact sizeLine_ge (by omega)) (fun _ => rfl) fun k vk H1 hm s1 hk => VS.el ?_) fun c H1 s1 hc => ?_)
      · obtain ⟨k', rfl, hk'⟩ := hnat k hm
        have hk : vk = .int (k' : Int) := hk
        subst hk
        exact vs_call (va_cons (val_var rfl) (va2 (val_var rfl) (val_var rfl))) fun Q' kk => ⟨v, u, L, rows, k', rfl, mCols.to s1 h1, mRow.to s1 h2, ro, hk', fun hm => absurd hm hmix, fun _ H2 s2 => kk _ _ s2 rfl⟩
      · obtain ⟨a, rfl, _, hn⟩ := hc
        dsimp only
        refine st_ret' (vs_if (b := true) (A := fun v _ => v = .non) (as_noneIn dat_Non (by decide) (val_var rfl) hn.iL ?_) (fun _ H2 s2 => vsv val_c rfl) fun e => absurd e (by decide)) fun y H2 s2 e => ?_
        · rw [List.any_eq_true]
          refine ⟨PyData.none, List.mem_map.mpr ⟨(), ?_, rfl⟩, by simp [PyData.eqv]⟩
          refine List.mem_map.mpr ⟨0, ?_, rfl⟩
          rw [Int.toNat_natCast]
          unfold ups
          exact List.mem_map.mpr ⟨0, List.mem_range.mpr hpos, rfl⟩
        · rw [e]; exact q2 hmix H2 (s1.trans s2)
end
end K19
namespace K19
open PySem PySem.Spec PyProof.Rows
section
variable {prog : Program} {w : World} {A : Around} {E : Value → Shared → Prop} {s : Shared} {z TI TO T i1 i2 : Addr} {fp1 fp2 : List Addr} {n1 n2 i : Nat} {P1 P2 : Nat → Value → Prop} {St1 St2 : Nat → Heap → Prop} {f : Bool} {oT : Obj}
/-- one pair more of a zip whose last pair is still held, over any two iterators -/
theorem zipHeld_item {Q : Value → Shared → Prop} (S : ZipSep2 z TI TO i1 i2 fp1 fp2) (D1 : Draws prog w A i1 fp1 n1 P1 St1) (D2 : Draws prog w A i2 fp2 n2 P2 St2) (hz : IsZipHeld s.heap z TI TO T f) (hT : s.heap.get? T = some oT) (hTI : IsTupOf2 s.heap TI (.ref i1) (.ref i2))
    (st1 : St1 i s.heap) (st2 : St2 i s.heap) (l1 : i < n1) (l2 : i < n2)
    (hQ : ∀ x1 x2 h' tk, P1 i x1 → P2 i x2 → IsZipHeld h' z TI TO T true → St1 (i + 1) h' → St2 (i + 1) h' → IsTupOf2 h' s.heap.objs.size x1 x2 → h'.objs.size = s.heap.objs.size + 1 → (∀ c o, c ≠ z → c ≠ i1 → c ≠ i2 → s.heap.get? c = some o → h'.get? c = some o) → Q (.ref s.heap.objs.size) { s with heap := h', toks := tk }) :
    wpAny (model prog w) A (Builtin.«zip.__next__» ⟨[.ref z], []⟩) (fun fin s' => ∃ v, fin = .done (.ret v) ∧ Q v s') E s := by
  obtain ⟨hp, g, d, tk0, os⟩ := s
  show wpAny _ _ (field (.ref z) 2 >>= _) _ _ _
  refine wpAny_bind (wpAny_field hz rfl (x := .bool false) rfl ?_)
  show wpAny _ _ (field (.ref z) 3 >>= _) _ _ _
  refine wpAny_bind (wpAny_field hz rfl (x := .ref TI) rfl (wpAny_bind (wpAny_seqItems hTI rfl ?_)))
  show wpAny _ _ (Builtin.SmallTypes.ownedTupleIsFree (.ref z) >>= _) _ _ _
  refine wpAny_bind (wpAny_tupleHeld_zip hz hT fun g0 hz0 sb0 => ?_)
  simp only [Bool.false_eq_true, if_false]
  refine wpAny_bind ?_
  rw [← Array.forIn_toList]
  simp only [List.forIn_cons, List.forIn_nil]
  refine wpAny_bind (wpAny_bind (wpAny_holding ?_))
  show wpAny _ _ (Builtin.SmallTypes.nextOf (.ref i1) >>= _) _ _ ⟨g0, g, d, tk0, os⟩
  refine wpAny_bind (D1.item i _ _ _ l1 (D1.over st1 sb0 S.zf1) fun x1 g1 tk1 hx1 sn1 sb1 => wpAny_pure (wpAny_pure ?_))
  refine wpAny_bind (wpAny_bind (wpAny_holding ?_))
  show wpAny _ _ (Builtin.SmallTypes.nextOf (.ref i2) >>= _) _ _ ⟨g1, g, d, tk1, os⟩
  refine wpAny_bind (D2.item i _ _ _ l2 (D2.over (D2.over st2 sb0 S.zf2) sb1 S.sep1_2) fun x2 g2 tk2 hx2 sn2 sb2 => wpAny_pure (wpAny_pure (wpAny_pure ?_)))
  replace sb0 : Heap.SameBut z hp g0 := sb0
  replace sb1 : Heap.SameBut i1 g0 g1 := sb1
  replace sb2 : Heap.SameBut i2 g1 g2 := sb2
  show wpAny _ _ (newTuple [x1, x2] >>= _) _ _ ⟨g2, g, d, tk2, os⟩
  refine wpAny_bind (wpAny_newTuple (wpAny_pure ⟨_, rfl, ?_⟩))
  have hsz : g2.objs.size = hp.objs.size := by rw [sb2.1, sb1.1, sb0.1]
  have hz2 : IsZipHeld g2 z TI TO T true := sb2.extBut _ _ S.zi2 (sb1.extBut _ _ S.zi1 hz0)
  have kk : ∀ c o, c ≠ z → c ≠ i1 → c ≠ i2 → hp.get? c = some o → g2.get? c = some o := fun c o c1 c2 c3 e => sb2.extBut _ _ c3 (sb1.extBut _ _ c2 (sb0.extBut _ _ c1 e))
  have up : ∀ c o, g2.get? c = some o → (g2.push { cls := .type "tuple", data := .seq #[x1, x2] }).get? c = some o := fun c o e => Heap.get?_push_of_some _ e
  have hp2 : IsTupOf2 (g2.push { cls := .type "tuple", data := .seq #[x1, x2] }) g2.objs.size x1 x2 := Heap.get?_push_size _ rfl
  have hz4 : (g2.push { cls := .type "tuple", data := .seq #[x1, x2] }).objs.size = g2.objs.size + 1 := Heap.size_push ..
  show Q (.ref g2.objs.size) _
  rw [hsz] at hp2 hz4 ⊢
  exact hQ x1 x2 _ tk2 hx1 hx2 (up _ _ hz2) (D1.frame _ _ _ (D1.over sn1 sb2 S.sep2_1) fun b _ o e => up b o e) (D2.frame _ _ _ sn2 fun b _ o e => up b o e) hp2 hz4 fun c o c1 c2 c3 e => up c o (kk c o c1 c2 c3 e)
/-- its end -/
theorem zipHeld_end {Q : Fin → Shared → Prop} (S : ZipSep2 z TI TO i1 i2 fp1 fp2) (D1 : Draws prog w A i1 fp1 n1 P1 St1) (D2 : Draws prog w A i2 fp2 n2 P2 St2) (hz : IsZipHeld s.heap z TI TO T f) (hT : s.heap.get? T = some oT) (hTI : IsTupOf2 s.heap TI (.ref i1) (.ref i2))
    (st1 : St1 i s.heap) (st2 : St2 i s.heap) (l1 : i = n1)
    (hE : ∀ h' tk e, (∀ c o, c ≠ z → c ≠ i1 → c ≠ i2 → s.heap.get? c = some o → h'.get? c = some o) → (∃ o, h'.get? e = some o ∧ o.cls = .type "StopIteration") → E (.ref e) { s with heap := h', toks := tk }) :
    wpAny (model prog w) A (Builtin.«zip.__next__» ⟨[.ref z], []⟩) Q E s := by
  obtain ⟨hp, g, d, tk0, os⟩ := s
  show wpAny _ _ (field (.ref z) 2 >>= _) _ _ _
  refine wpAny_bind (wpAny_field hz rfl (x := .bool false) rfl ?_)
  show wpAny _ _ (field (.ref z) 3 >>= _) _ _ _
  refine wpAny_bind (wpAny_field hz rfl (x := .ref TI) rfl (wpAny_bind (wpAny_seqItems hTI rfl ?_)))
  show wpAny _ _ (Builtin.SmallTypes.ownedTupleIsFree (.ref z) >>= _) _ _ _
  refine wpAny_bind (wpAny_tupleHeld_zip hz hT fun g0 hz0 sb0 => ?_)
  simp only [Bool.false_eq_true, if_false]
  refine wpAny_bind ?_
  rw [← Array.forIn_toList]
  simp only [List.forIn_cons, List.forIn_nil]
  refine wpAny_bind (wpAny_bind (wpAny_holding ?_))
  show wpAny _ _ (Builtin.SmallTypes.nextOf (.ref i1) >>= _) _ _ ⟨g0, g, d, tk0, os⟩
  replace sb0 : Heap.SameBut z hp g0 := sb0
  refine wpAny_bind (D1.done ⟨g0, g, d, tk0, os⟩ _ _ (by rw [← l1]; exact D1.over st1 sb0 S.zf1) fun q e hq he => ?_)
  exact hE q tk0 e (fun c o c1 c2 _ x => hq _ _ c2 (sb0.extBut _ _ c1 x)) he
end
end K19
namespace K19
open PySem PySem.Spec PyProof.Rows
section
variable {prog : Program} {w : World} {A : Around} {E : Value → Shared → Prop} {s : Shared} {z TI TO T i1 i2 : Addr} {fp1 fp2 : List Addr} {n1 n2 i : Nat} {P1 P2 : Nat → Value → Prop} {St1 St2 : Nat → Heap → Prop} {f : Bool} {oT : Obj}
theorem nextHeld_item {Q : Option Value → Shared → Prop} (S : ZipSep2 z TI TO i1 i2 fp1 fp2) (D1 : Draws prog w A.in1 i1 fp1 n1 P1 St1) (D2 : Draws prog w A.in1 i2 fp2 n2 P2 St2) (hz : IsZipHeld s.heap z TI TO T f) (hT : s.heap.get? T = some oT) (hTI : IsTupOf2 s.heap TI (.ref i1) (.ref i2))
    (st1 : St1 i s.heap) (st2 : St2 i s.heap) (l1 : i < n1) (l2 : i < n2)
    (hQ : ∀ x1 x2 h' tk, P1 i x1 → P2 i x2 → IsZipHeld h' z TI TO T true → St1 (i + 1) h' → St2 (i + 1) h' → IsTupOf2 h' s.heap.objs.size x1 x2 → h'.objs.size = s.heap.objs.size + 1 → (∀ c o, c ≠ z → c ≠ i1 → c ≠ i2 → s.heap.get? c = some o → h'.get? c = some o) → Q (some (.ref s.heap.objs.size)) { s with heap := h', toks := tk }) :
    wpAny (model prog w) A (pyNext (.ref z)) Q E s := by
  have hTy : s.TypeIs (.ref z) "zip" := ⟨_, hz, rfl⟩
  unfold pyNext
  refine wpAny_bind (wpAny_attempt (wpAny_callSpecial?_slot (name := Str.ofString "__next__") hTy F.slot_zip_next ?_))
  exact wpAny_call_entry F.slot_zip_next hTy F.entry_zip_next (zipHeld_item S D1 D2 hz hT hTI st1 st2 l1 l2 fun x1 x2 h' tk a b c d e f1 g h => wpAny_pure (hQ x1 x2 h' tk a b c d e f1 g h)) (F.args_zip_next_1 _)
theorem nextHeld_end {Q : Option Value → Shared → Prop} (S : ZipSep2 z TI TO i1 i2 fp1 fp2) (D1 : Draws prog w A.in1 i1 fp1 n1 P1 St1) (D2 : Draws prog w A.in1 i2 fp2 n2 P2 St2) (hz : IsZipHeld s.heap z TI TO T f) (hT : s.heap.get? T = some oT) (hTI : IsTupOf2 s.heap TI (.ref i1) (.ref i2))
    (st1 : St1 i s.heap) (st2 : St2 i s.heap) (l1 : i = n1)
    (hQ : ∀ h' tk, (∀ c o, c ≠ z → c ≠ i1 → c ≠ i2 → s.heap.get? c = some o → h'.get? c = some o) → Q none { s with heap := h', toks := tk }) : wpAny (model prog w) A (pyNext (.ref z)) Q E s := by
  have hTy : s.TypeIs (.ref z) "zip" := ⟨_, hz, rfl⟩
  unfold pyNext
  refine wpAny_bind (wpAny_attempt (wpAny_callSpecial?_slot (name := Str.ofString "__next__") hTy F.slot_zip_next ?_))
  refine wpAny_call_entry F.slot_zip_next hTy F.entry_zip_next (zipHeld_end S D1 D2 hz hT hTI st1 st2 l1 fun h' tk e hk ⟨o, ho, hc⟩ => ?_) (F.args_zip_next_1 _)
  exact wpAny_bind (wpAny_isInstance (T := "StopIteration") (b := true) ⟨o, ho, hc⟩ isSubtype_stop (wpAny_pure (hQ _ _ hk)))
end
theorem ArB.kept {k : Bool} {h h' : Heap} {a : Addr} {its : Array Value} (x : ArB k h a its) (e : ∀ o, h.get? a = some o → h'.get? a = some o) : ArB k h' a its := by
  cases k
  · exact Heap.IsList.at (show h.IsList a its from x) e
  · exact Heap.IsTuple.at (show h.IsTuple a its from x) e
theorem ArB.obj {k : Bool} {h : Heap} {a : Addr} {its : Array Value} (x : ArB k h a its) : ∃ o, h.get? a = some o := by
  cases k
  · obtain ⟨o, e, _⟩ := (show h.IsList a its from x); exact ⟨o, e⟩
  · obtain ⟨o, e, _⟩ := (show h.IsTuple a its from x); exact ⟨o, e⟩
/-- zip(xs, ys) of two lists or tuples of one length, as the argument of dict() -/
theorem pairZip {prog : Program} {w : World} (k1 k2 : Bool) (z TI TO i1 i2 a b : Addr) (S : ZipSep2 z TI TO i1 i2 [i1, a] [i2, b]) (ha : a ≠ i1) (hb : b ≠ i2) (xs ys : Array Value) (hxy : xs.size = ys.size) (hTa : TI ≠ a) (hTb : TI ≠ b) :
    PairArg prog w "zip" z [z, TI, TO, i1, i2, a, b] [z, TO, i1, i2] xs.size (fun i k v => xs[i]? = some k ∧ ys[i]? = some v)
      (fun h => IsZip h z TI TO .none ∧ IsTupOf2 h TI (.ref i1) (.ref i2) ∧ (∃ x y, IsTupOf2 h TO x y) ∧ IsB k1 h i1 a 0 ∧ IsB k2 h i2 b 0 ∧ ArB k1 h a xs ∧ ArB k2 h b ys) where
  type := fun s ok => ⟨_, ok.1, rfl⟩
  notDict := by decide
  keep := fun h h' ⟨c1, c2, ⟨x, y, c3⟩, c4, c5, c6, c7⟩ hk => ⟨hk _ _ c1, hk _ _ c2, ⟨x, y, hk _ _ c3⟩, c4.kept fun o e => hk _ o e, c5.kept fun o e => hk _ o e, c6.kept fun o e => hk _ o e, c7.kept fun o e => hk _ o e⟩
  there := fun h ⟨c1, c2, ⟨x, y, c3⟩, c4, c5, c6, c7⟩ c hc => by
    obtain ⟨o4, e4, _⟩ := c4.obj
    obtain ⟨o5, e5, _⟩ := c5.obj
    obtain ⟨o6, e6⟩ := c6.obj
    obtain ⟨o7, e7⟩ := c7.obj
    simp only [List.mem_cons, List.not_mem_nil, or_false] at hc
    rcases hc with rfl | rfl | rfl | rfl | rfl | rfl | rfl
    · exact ⟨_, c1⟩
    · exact ⟨_, c2⟩
    · exact ⟨_, c3⟩
    · exact ⟨_, e4⟩
    · exact ⟨_, e5⟩
    · exact ⟨_, e6⟩
    · exact ⟨_, e7⟩
  sub := fun c hc => by
    simp only [List.mem_cons, List.not_mem_nil, or_false] at hc ⊢
    rcases hc with h | h | h | h <;> simp [h]
  noKeys := fun A s Q E hA ok h => getAttrOr_miss_zip ok.1 rfl rfl rfl zip_no_keys (by decide +kernel) hA h
  iter := fun A s d Q E hA ⟨c1, c2, ⟨x0, y0, c3⟩, c4, c5, c6, c7⟩ hd hdf h => by
    simp only [List.mem_cons, List.not_mem_nil, or_false, not_or] at hdf
    obtain ⟨dz, dTI, dTO, d1, d2, da, db⟩ := hdf
    refine wpAny_pyIter_zip c1 (h z [z, TO, i1, i2] (fun i h => IsTupOf2 h TI (.ref i1) (.ref i2) ∧ IsB k1 h i1 a i ∧ IsB k2 h i2 b i ∧ ArB k1 h a xs ∧ ArB k2 h b ys ∧
      ((IsZip h z TI TO .none ∧ ∃ x y, IsTupOf2 h TO x y) ∨ ∃ T f oT, IsZipHeld h z TI TO T f ∧ h.get? T = some oT ∧ T ≠ z ∧ T ≠ i1 ∧ T ≠ i2 ∧ T ≠ d)) s.heap s.toks ?_
      ⟨c2, c4, c5, c6, c7, .inl ⟨c1, x0, y0, c3⟩⟩ (fun _ _ e => e) fun b hb => .inl hb)
    have DD1 := drawsB (prog := prog) (w := w) (A := A.in1) (show A.in1.handled = none from hA) k1 i1 a ha xs
    have DD2 := drawsB (prog := prog) (w := w) (A := A.in1) (show A.in1.handled = none from hA) k2 i2 b hb ys
    have za : z ≠ a := fun e => S.zf1 (by simp [e])
    have zb : z ≠ b := fun e => S.zf2 (by simp [e])
    exact {
      off := fun hm => by
        simp only [List.mem_cons, List.not_mem_nil, or_false] at hm
        rcases hm with e | e | e | e
        · exact dz e
        · exact dTO e
        · exact d1 e
        · exact d2 e
      frame := fun i h₁ h₂ ⟨e1, e2, e3, e4, e5, e6⟩ hk => by
        refine ⟨hk _ _ (Ne.symm dTI) e1, e2.kept fun o e => hk _ o (Ne.symm d1) e, e3.kept fun o e => hk _ o (Ne.symm d2) e, e4.kept fun o e => hk _ o (Ne.symm da) e, e5.kept fun o e => hk _ o (Ne.symm db) e, ?_⟩
        rcases e6 with ⟨q1, x, y, q2⟩ | ⟨T, f, oT, q1, q2, r1, r2, r3, r4⟩
        · exact .inl ⟨hk _ _ (Ne.symm dz) q1, x, y, hk _ _ (Ne.symm dTO) q2⟩
        · exact .inr ⟨T, f, oT, hk _ _ (Ne.symm dz) q1, hk _ _ r4 q2, r1, r2, r3, r4⟩
      item := fun i s₁ Q₁ E₁ hi ⟨e1, e2, e3, e4, e5, e6⟩ hds hQ => by
        have lt : ∀ {c o}, s₁.heap.get? c = some o → s₁.heap.objs.size ≠ c := fun e => Nat.ne_of_gt (Heap.lt_size e)
        have m1 : s₁.heap.objs.size ≠ i1 := let ⟨_, e, _⟩ := e2.obj; lt e
        have m2 : s₁.heap.objs.size ≠ i2 := let ⟨_, e, _⟩ := e3.obj; lt e
        rcases e6 with ⟨q1, x, y, q2⟩ | ⟨T, f, oT, q1, q2, r1, r2, r3, r4⟩
        · refine wpAny_pyNext_zipD2_item S DD1 DD2 q1 e1 q2 ⟨e2, e4⟩ ⟨e3, e5⟩ hi (by omega) fun x1 x2 h' tk p1 p2 hz' hTO' s1 s2 hT' hsz hk => ?_
          exact hQ s₁.heap.objs.size _ _ h' tk ⟨p1, p2⟩ (.inl ⟨_, hT', rfl, _, rfl⟩)
            ⟨hk _ _ S.TIz S.TITO S.TIi1 S.TIi2 e1, s1.1, s2.1, s1.2, s2.2, .inr ⟨s₁.heap.objs.size, false, _, hz', hT', lt q1, m1, m2, Nat.ne_of_gt hds⟩⟩
            fun c o hc e => hk c o (fun x => hc (by simp [x])) (fun x => hc (by simp [x])) (fun x => hc (by simp [x])) (fun x => hc (by simp [x])) e
        · refine nextHeld_item S DD1 DD2 q1 q2 e1 ⟨e2, e4⟩ ⟨e3, e5⟩ hi (by omega) fun x1 x2 h' tk p1 p2 hz' s1 s2 hT' hsz hk => ?_
          exact hQ s₁.heap.objs.size _ _ h' tk ⟨p1, p2⟩ (.inl ⟨_, hT', rfl, _, rfl⟩)
            ⟨hk _ _ S.TIz S.TIi1 S.TIi2 e1, s1.1, s2.1, s1.2, s2.2, .inr ⟨T, true, oT, hz', hk _ _ r1 r2 r3 q2, r1, r2, r3, r4⟩⟩
            fun c o hc e => hk c o (fun x => hc (by simp [x])) (fun x => hc (by simp [x])) (fun x => hc (by simp [x])) e
      done := fun s₁ Q₁ E₁ ⟨e1, e2, e3, e4, e5, e6⟩ hQ => by
        rcases e6 with ⟨q1, x, y, q2⟩ | ⟨T, f, oT, q1, q2, r1, r2, r3, r4⟩
        · exact wpAny_pyNext_zipD2_end S DD1 DD2 q1 e1 q2 ⟨e2, e4⟩ ⟨e3, e5⟩ (Nat.le_refl _) (by omega) (.inl rfl) fun h' tk hk => hQ h' tk fun c o hc e => hk c o (fun x => hc (by simp [x])) (fun x => hc (by simp [x])) (fun x => hc (by simp [x])) (fun x => hc (by simp [x])) e
        · exact nextHeld_end S DD1 DD2 q1 q2 e1 ⟨e2, e4⟩ ⟨e3, e5⟩ rfl fun h' tk hk => hQ h' tk fun c o hc e => hk c o (fun x => hc (by simp [x])) (fun x => hc (by simp [x])) (fun x => hc (by simp [x])) e }
end K19
namespace K19
open PySem PySem.Spec L2
theorem key_is : ∀ {k : Key} {u : Value}, RelV (kV k) u → keyIs k u = true
  | .inl i, u, h => by
    obtain ⟨t, rfl⟩ := (show ∃ t, u = Value.int i t from h)
    exact keyIs_int i t
  | .inr x, u, h => by
    obtain ⟨t, rfl⟩ := (show ∃ t, u = Value.str x t from h)
    exact keyIs_str x t
theorem zip_vals {P : Program} {w : World} : ∀ {ks : List Key} {its : List Value} {ys : List V} {its2 : List Value}, Vals (ks.map kV) its → Vals ys its2 → ks.length = ys.length → ∃ prs : List (Key × Value), KV (ks.zip ys) prs ∧ prs.length = its.length ∧
    ∀ (i : Nat) (k v : Value), its[i]? = some k → its2[i]? = some v → ∃ key, prs[i]? = some (key, v) ∧ (mixKind P w).is key k = true
  | [], _, ys, _, r1, r2, hl => by
    cases r1
    exact ⟨[], .nil, rfl, fun i k v h => by simp at h⟩
  | k0 :: ks, _, [], _, r1, r2, hl => by simp at hl
  | k0 :: ks, _, y0 :: ys, _, r1, r2, hl => by
    cases r1 with
    | cons a1 b1 =>
      cases r2 with
      | cons a2 b2 =>
        obtain ⟨prs, h1, h2, h3⟩ := zip_vals (P := P) (w := w) b1 b2 (by simpa using hl)
        refine ⟨(k0, _) :: prs, .cons ⟨rfl, a2⟩ h1, by simp [h2], fun i k v e1 e2 => ?_⟩
        cases i with
        | zero =>
          simp at e1 e2
          subst e1 e2
          exact ⟨k0, by simp, key_is a1⟩
        | succ i => exact (h3 i k v (by simpa using e1) (by simpa using e2)).imp fun key ⟨x1, x2⟩ => ⟨by simpa using x1, x2⟩
def tDictZip (K : PySem.W.Frag) (k1 k2 : Bool) (ta : TA) : TE := fun σ H Q => ta σ H fun vs H1 => ∃ (a b : Addr) (ks : List Key) (ys : List V), vs = [.ref a, .ref b] ∧ SqB K k1 H1 a (ks.map kV) ∧ SqB K k2 H1 b ys ∧ ks.length = ys.length ∧ ks.length ≤ 1000 ∧ ∀ p, H1 p = none → Q (.ref p) (upd H1 p (.dK (mergeK [] (ks.zip ys))))
theorem pe_dictZip {X : Cx} (k1 k2 : Bool) {e e2 : Expr} {ta : TA} {p0 p pos0 pos : Pos} (hcalm : X.calm = true) (hg0 : Gl X "dict") (hm0 : X.mg "dict" = none) (hg : Gl X "zip") (hm : X.mg "zip" = none) (ha : PA X [e, e2] ta)
    (hs0 : starEach [.Call (.Name "zip" p) [e, e2] [] pos] X.env = [(false, eval (.Call (.Name "zip" p) [e, e2] [] pos) X.env)] := by rfl)
    (hs : starEach [e, e2] X.env = (false, eval e X.env) :: starEach [e2] X.env := by rfl) (hpl : (backTo pos (starEach [e2] X.env)).any (·.1) = false := by rfl) :
    PE X (.Call (.Name "dict" p0) [.Call (.Name "zip" p) [e, e2] [] pos] [] pos0) (tDictZip X.K k1 k2 ta) := by
  refine ⟨fun pins s σ H Q I h => ?_⟩
  refine PyProof.Rows.Call_ (ld_blt I hg0 hm0 PyProof.Rows.boot_dict (PyProof.Rows.callWith_type1 ?_ hs0 rfl))
  rw [hs0]
  show wpAny _ _ (spliced ((false, eval (.Call (.Name "zip" p) [e, e2] [] pos) X.env) :: [])) _ _ s
  refine Calls.spliced_cons ?_
  refine PyProof.Rows.Call_ (ld_blt I hg hm PyProof.Rows.boot_zip (PyProof.Rows.callWith_type1 (thn (ha.run pos pins s σ H _ I h) fun us s1 ⟨vs, H1, I1, r1, q1⟩ => ?_) hs hpl))
  obtain ⟨a, b, ks, ys, rfl, hqx, hqy, hlen, hle, q⟩ := q1
  cases r1 with
  | cons r rr =>
    cases rr with
    | cons r' rr =>
      cases rr
      cases r
      cases r'
      obtain ⟨its, rv, p1, la⟩ := hqx.arr I1
      obtain ⟨its2, rv2, p2, lb⟩ := hqy.arr I1
      refine zip_begins2 (beginsB k1 a its.toArray) (beginsB k2 b its2.toArray) p1 p2 fun h' hz hTI hTO h1 h2 hsz hk => ?_
      have I2 : Inv X pins σ H1 { s1 with heap := h' } := I1.kept (t' := s1.toks) hk
      have sep := zip_sep2 (N := s1.heap.objs.size) (fp1 := [a]) (fp2 := [b]) (by simpa using la) (by simpa using lb)
      have l1 := rv.length
      have l2 := rv2.length
      rw [List.length_map] at l1
      obtain ⟨prs, rel, hlp, hpr⟩ := zip_vals (P := X.prog) (w := X.w) rv rv2 hlen
      have hne1 : s1.heap.objs.size + 2 ≠ a := Nat.ne_of_gt (Nat.lt_add_right 2 la)
      have hne2 : s1.heap.objs.size + 2 ≠ b := Nat.ne_of_gt (Nat.lt_add_right 2 lb)
      have PA0 := pairZip (prog := X.prog) (w := X.w) k1 k2 (s1.heap.objs.size + 4) (s1.heap.objs.size + 2) (s1.heap.objs.size + 3) s1.heap.objs.size (s1.heap.objs.size + 1) a b sep (Nat.ne_of_lt la) (Nat.ne_of_lt (Nat.lt_succ_of_lt lb)) its.toArray its2.toArray (by simp; omega) hne1 hne2
      refine Calls.spliced_nil ?_
      refine PySem.call_dict_pairs (knd := mixKind X.prog X.w) (kvs := prs) PA0 (I.ok.hd hcalm) ⟨hz, hTI, ⟨_, _, hTO⟩, IsB.first h1, IsB.first h2, p1.kept fun o e => hk _ o e, p2.kept fun o e => hk _ o e⟩ ⟨by simp [hlp], fun i key v ⟨e1, e2⟩ => ?_⟩ (by simp; exact sizeLine_ge (by omega)) fun h2' tk hd' k => ?_
      · exact hpr i key v (by simpa using e1) (by simpa using e2)
      · have hm' : (h'.objs.size == sysModules) = false := beq_eq_false_iff_ne.mpr (Nat.ne_of_gt I2.big)
        have hlen2 : (mergeK [] (ks.zip ys)).length ≤ sizeLine := by
          refine Nat.le_trans (length_mergeK (ks.zip ys) []) ?_
          rw [List.length_nil, Nat.zero_add, List.length_zip]
          exact sizeLine_ge (by omega)
        have hge : s1.heap.objs.size ≤ h'.objs.size := by rw [hsz]; omega
        refine ⟨.ref h'.objs.size, upd H1 h'.objs.size (.dK (mergeK [] (ks.zip ys))), I1.laid (t' := tk) (fun c o e => ?_) hge (dk_new hlen2 hm' (KV.merge rel .nil) hd'), rfl, q _ (I1.hok.fresh hge)⟩
        have hlt := Heap.lt_size e
        exact k c o (fun hw => by
          simp only [List.mem_cons, List.not_mem_nil, or_false] at hw
          rcases hw with e | e | e | e
          · exact Nat.ne_of_lt (Nat.lt_add_right 4 hlt) e
          · exact Nat.ne_of_lt (Nat.lt_add_right 3 hlt) e
          · exact Nat.ne_of_lt hlt e
          · exact Nat.ne_of_lt (Nat.lt_add_right 1 hlt) e) (hk c o e)
end K19
namespace K19
open PySem PySem.Spec L2
open Mx (longer tgt Mix someR ext supp Lot UqM)
theorem pe_dictZipK {X : Cx} (K : PySem.W.Frag) (k1 k2 : Bool) {e e2 : Expr} {ta : TA} {p0 p pos0 pos : Pos} (hcalm : X.calm = true) (hg0 : Gl X "dict") (hm0 : X.mg "dict" = none) (hg : Gl X "zip") (hm : X.mg "zip" = none) (ha : PA X [e, e2] ta) (hK : X.K = K := by rfl)
    (hs0 : starEach [.Call (.Name "zip" p) [e, e2] [] pos] X.env = [(false, eval (.Call (.Name "zip" p) [e, e2] [] pos) X.env)] := by rfl)
    (hs : starEach [e, e2] X.env = (false, eval e X.env) :: starEach [e2] X.env := by rfl) (hpl : (backTo pos (starEach [e2] X.env)).any (·.1) = false := by rfl) :
    PE X (.Call (.Name "dict" p0) [.Call (.Name "zip" p) [e, e2] [] pos] [] pos0) (tDictZip K k1 k2 ta) := hK ▸ pe_dictZip k1 k2 hcalm hg0 hm0 hg hm ha hs0 hs hpl
section
variable {P : Program} {w : World} {K : PySem.W.Frag} {mg : Str → Option Value} {base : Heap}
/-! ### a dict of numbered rows -/
abbrev ky (k : Nat) : Key := Sum.inl (k : Int)
theorem ky_inj {a b : Nat} (h : ky a = ky b) : a = b := by
  have := Sum.inl.inj h
  omega
theorem merge_fresh : ∀ {more acc : List (Key × V)}, (∀ p ∈ more, ∀ q ∈ acc, q.1 ≠ p.1) → (more.map (·.1)).Nodup → mergeK acc more = acc ++ more
  | [], acc, _, _ => by rw [List.append_nil]; rfl
  | p :: r, acc, h1, h2 => by
    have e : putK acc p.1 p.2 = acc ++ [p] := by
      unfold putK
      rw [if_neg]
      intro z
      obtain ⟨q, hq, e⟩ := List.any_eq_true.mp z
      exact h1 p (by simp) q hq (of_decide_eq_true e)
    show mergeK (putK acc p.1 p.2) r = _
    rw [List.map_cons] at h2
    have n := List.nodup_cons.mp h2
    rw [e, merge_fresh (fun p' hp' q hq => ?_) n.2, List.append_assoc]
    · rfl
    · rcases List.mem_append.mp hq with z | z
      · exact h1 p' (by simp [hp']) q z
      · rw [List.mem_singleton] at z
        subst z
        intro e2
        exact n.1 (by rw [e2]; exact List.mem_map_of_mem hp')
theorem zip_keys {S : List Nat} {ys : List V} (hl : S.length = ys.length) : (((S.map ky).zip ys).map (·.1)) = S.map ky := List.map_fst_zip (by rw [List.length_map]; omega)
theorem keys_nodup {S : List Nat} (h : S.Pairwise (· < ·)) : (S.map ky).Nodup := by
  refine List.Pairwise.map _ (fun a b hab => ?_) h
  intro e
  have := ky_inj e
  omega
theorem val_out : ∀ {S : List Nat} {ys : List V} {k : Nat}, k ∉ S → valV ((S.map ky).zip ys) (ky k) = none
  | [], ys, k, _ => rfl
  | s :: S, [], k, _ => rfl
  | s :: S, y :: ys, k, h => by
    have h1 : ¬ ky s = ky k := fun e => h (by rw [ky_inj e]; simp)
    show ((((ky s, y) :: (S.map ky).zip ys).find? fun kv => decide (kv.1 = ky k)).map (·.2)) = none
    rw [List.find?_cons_of_neg (by simpa using h1)]
    exact val_out (S := S) (ys := ys) fun z => h (by simp [z])
theorem val_in : ∀ {S : List Nat} {ys : List V} {p : Nat}, S.Pairwise (· < ·) → S.length = ys.length → p < S.length → valV ((S.map ky).zip ys) (ky (S.getD p 0)) = ys[p]?
  | [], ys, p, _, _, hp => absurd hp (Nat.not_lt_zero _)
  | s :: S, [], p, _, hl, _ => by simp at hl
  | s :: S, y :: ys, 0, _, _, _ => by
    show ((((ky s, y) :: (S.map ky).zip ys).find? fun kv => decide (kv.1 = ky s)).map (·.2)) = some y
    rw [List.find?_cons_of_pos (by simp)]; rfl
  | s :: S, y :: ys, p + 1, h, hl, hp => by
    have hp' : p < S.length := by simpa using hp
    have hlt : s < S.getD p 0 := by
      have := (List.pairwise_cons.mp h).1 (S.getD p 0) (by
        rw [List.getD_eq_getElem?_getD, List.getElem?_eq_getElem hp']; exact List.getElem_mem hp')
      exact this
    have h1 : ¬ ky s = ky (S.getD p 0) := fun e => by have := ky_inj e; omega
    show ((((ky s, y) :: (S.map ky).zip ys).find? fun kv => decide (kv.1 = ky (S.getD p 0))).map (·.2)) = _
    rw [List.find?_cons_of_neg (by simpa using h1)]
    exact val_in (List.pairwise_cons.mp h).2 (by simpa using hl) hp'
theorem some_ro {L : Nat} {rows : List (List Rat)} {S : List Nat} (ro : RO L rows) (hS : Lot rows.length S) (h1 : 1 ≤ S.length) (h5 : S.length ≤ 5) : RO L (someR rows S) where
  pos := by rw [Mx.some_len]; omega
  few := by rw [Mx.some_len]; exact h5
  low := ro.low
  lens := Mx.some_lens ro.lens hS
  la := fun u hu => by
    obtain ⟨k, hk, rfl⟩ := List.mem_map.mp hu
    have hlt := hS.lt k hk
    refine ro.la _ ?_
    rw [List.getD_eq_getElem?_getD, List.getElem?_eq_getElem hlt]
    exact List.getElem_mem hlt
theorem vs_dz {k1 k2 : Bool} {t : TA} {σ : L2.St} {H : Hp} {a b : Addr} {ks : List Key} {ys : List V} {R : V → Hp → Prop} (hA : ValA t σ H [.ref a, .ref b]) (h1 : SqB K k1 H a (ks.map kV)) (h2 : SqB K k2 H b ys) (hl : ks.length = ys.length) (hn : ks.length ≤ 1000)
    (q : ∀ p, H p = none → R (.ref p) (upd H p (.dK (mergeK [] (ks.zip ys))))) : VS (tDictZip K k1 k2 t) σ H R := fun Q k => hA _ ⟨a, b, ks, ys, rfl, h1, h2, hl, hn, fun p hp => k _ _ (same_new hp) (q p hp)⟩
def spOnly (K : PySem.W.Frag) : Sp := fun vs H Q _ => ∃ v w L rows S, vs = [v, w] ∧ iCols K H v rows ∧ iLt K H w S ∧ RO L rows ∧ Lot rows.length S ∧ 1 ≤ S.length ∧ S.length ≤ 5 ∧
  (∀ u H' y, Same H H' → y.length = S.length → Mix L (someR rows S) (Mx.vF y) → Small 125 y → iRow K H' u (rowQ rows.length (ext S (Mx.vF y))) → Q u H') ∧
  ((¬ ∃ x, Mix L rows x ∧ UqM L rows x ∧ supp rows.length x = S) → ∀ H', Same H H' → Q .non H')
theorem sc_only_mixing : FnScope ["rows", "lot", "some", "k", "told", "x", "shares"] ["rows", "lot"] (defScope s_only_mixing) := ⟨rfl, rfl, rfl, by decide +kernel, rfl, by decide +kernel, by decide +kernel⟩
theorem ok_only_mixing (T : Txt K mg) : FnOk P w K mg base CX0 6 T.only_mixing.f T.only_mixing.fd ["rows", "lot"] (spOnly K) := by
  refine T.only_mixing.F.ok sc_only_mixing (fun vs H Q E h => ?_) (fun cdv A outer s H vs Q E hr h => ?_)
  · obtain ⟨_, _, _, _, _, rfl, _⟩ := h; rfl
  · obtain ⟨v, w, L, rows, S, rfl, h1, h2, ro, hS, hS1, hS5, q1, q2⟩ := h
    have hf := ro.few
    have hlow := ro.low
    have rs := some_ro ro hS hS1 hS5
    have hsl := Mx.some_len (rows := rows) (S := S)
    refine ⟨_, (PSs.nox (pss_cons (ps_setLc (i := 2) (own := [("k", 3)]) (g := (gName 3)) (tt := tYes) rfl sc_only_mixing.nd rfl rfl (sw_true rfl rfl rfl (by decide +kernel)) (pi_tupK K (pv 1)) (blkOk_by (N := ["rows", "lot", "some", "k", "told", "x", "shares"]) (sc := defScope s_only_mixing) (by decide +kernel)) (fun _ _ _ _ _ => (pg_name (i := 3) sc_only_mixing.nd rfl (.inl rfl))) (fun _ _ _ _ _ => pts_nil) (fun _ _ _ _ _ => (pe_ix (ix_listK K) (pv 0) (pv 3) (fun _ _ => rfl)))) (pss_cons (ps_if (pt_cmpR op_ne (pcall T.rank (ok_rank T) (hr.mono (by decide)) (pa_cons (pv 2) pa_nil)) (pe_op op_sub (pe_callB (k_len K) rfl T.b_len (by decide +kernel) (pa_cons (pv 1) pa_nil)) pe_int) (nomark _)) (pss_one (ps_ret pe_non)) pss_nil) (pss_cons (ps_set (i := 4) sc_only_mixing.nd rfl (.inl rfl) (pcall T.mixed (ok_mixed T) (hr.mono (by decide)) (pa_cons (pv 2) pa_nil))) (pss_cons (ps_if (PW.pt (pw_or (pt_cmpR op_eq (pe_ix (ix_tupK K) (pv 4) pe_int (fun _ _ => rfl)) pe_str (nomark _)) (pw_or1 (pt_val (pe_callB (k_any K rfl) rfl T.b_any (by decide +kernel) (pa_cons (pe_lc (own := [("x", 5)]) (g := (gName 5)) (tt := tYes) rfl sc_only_mixing.nd (pi_tupK K (pe_ix (ix_tupK K) (pv 4) pe_int (fun _ _ => rfl))) (blkOk_by (N := ["rows", "lot", "some", "k", "told", "x", "shares"]) (sc := defScope s_only_mixing) (by decide +kernel)) (fun _ _ _ _ _ => (pg_name (i := 5) sc_only_mixing.nd rfl (.inl rfl))) (fun _ _ _ _ _ => pts_nil) (fun _ _ _ _ _ => (pe_cmpR (op_eqDK K (by exact hr.units)) (pv 5) (pgl T.gZERO) (nomark _)))) pa_nil)))))) (pss_one (ps_ret pe_non)) pss_nil) (pss_cons (ps_set (i := 6) sc_only_mixing.nd rfl (.inr rfl) (pe_dictZipK K true true rfl rfl T.b_dict rfl T.b_zip (pa_cons (pv 1) (pa_cons (pe_ix (ix_tupK K) (pv 4) pe_int (fun _ _ => rfl)) pa_nil)))) (pss_one (ps_ret (pe_callTy (k_tuple K) rfl T.b_tuple (by decide +kernel) (pa_cons (pe_lc (own := [("k", 3)]) (g := (gName 3)) (tt := tYes) rfl sc_only_mixing.nd (pi_range1 rfl T.b_range (pa_cons (pe_callB (k_len K) rfl T.b_len (by decide +kernel) (pa_cons (pv 0) pa_nil)) pa_nil)) (blkOk_by (N := ["rows", "lot", "some", "k", "told", "x", "shares"]) (sc := defScope s_only_mixing) (by decide +kernel)) (fun _ _ _ _ _ => (pg_name (i := 3) sc_only_mixing.nd rfl (.inl rfl))) (fun _ _ _ _ _ => pts_nil) (fun _ _ _ _ _ => (pe_dget2 (hu_of hr) (pv 6) (pv 3) (pgl T.gZERO) ⟨rfl, rfl, rfl, rfl⟩))) pa_nil)))))))))), ?_⟩
    refine st_seq (st_set' (R := NewL (iRow K) H (someR rows S)) (VS.imp (vs_lcN (R := iI) (Z := iRow K) robRow mRow (fun k => rows.getD k.toNat []) (ws_tup mI (vsv (val_var rfl) h2)) (by rw [List.length_map]; exact sizeLine_ge (by omega)) (fun _ => rfl) fun k vk H1 hm s1 hk => VS.el ?_) fun u H s h => ?_) fun u H1 s1 hu => ?_)
    · obtain ⟨k', hk', e⟩ := List.mem_map.mp hm
      subst e
      have hk : vk = .int (k' : Int) := hk
      subst hk
      have hlt := hS.lt k' hk'
      refine vs_ixL (val_var rfl) (val_var rfl) (mCols.to s1 h1) ?_
      rw [Int.toNat_natCast, List.getD_eq_getElem?_getD, List.getElem?_eq_getElem hlt]; rfl
    · have e : (S.map fun k => ((k : Nat) : Int)).map (fun k => rows.getD k.toNat []) = someR rows S := by
        unfold Mx.someR
        rw [List.map_map]
        exact List.map_congr_left fun k _ => by simp
      rw [← e]; exact h
    obtain ⟨sa, rfl, _, hsn⟩ := hu
    dsimp only
    have hrk : AS (tTest (tOp rNe (tCall (spRank K) [] E0 (tCons (tVar 2) tNil)) (tOp (rI0 fun i j => V.int (i - j)) (tCB (rLenK K) (tCons (tVar 1) tNil)) (tC (V.int 1))))) [some v, some w, some (.ref sa), none, none, none, none] H1 (decide ((Mx.rk (someR rows S) L).2 + 1 ≠ S.length)) := fun Q' k => by
      refine vs_call (R := fun u _ => u = .int (((Mx.rk (someR rows S) L).2 : Nat) : Int)) (va1 (val_var (i := 2) (v := .ref sa) rfl)) (fun Q2 k2 => ⟨.ref sa, L, someR rows S, rfl, hsn.iL, rs, fun H2 s2 => k2 _ _ s2 rfl⟩) _ fun u H2 s2 e => ?_
      subst e
      have hlen := v_len (k1 := true) (R := iI) (K := K) (te := tVar 1) (σ := [some v, some w, some (.ref sa), none, none, none, none]) (val_var (i := 1) (v := w) rfl) (mLt.to (s1.trans s2) h2)
      refine vsub hlen (val_c (v := .int 1)) _ ?_
      refine ⟨rfl, _, rfl, ?_⟩
      rw [List.length_map]
      have e : (!decide (V.int (((Mx.rk (someR rows S) L).2 : Nat) : Int) = V.int ((S.length : Int) - 1))) = decide ((Mx.rk (someR rows S) L).2 + 1 ≠ S.length) := by
        by_cases z : (Mx.rk (someR rows S) L).2 + 1 = S.length
        · have z2 : (((Mx.rk (someR rows S) L).2 : Nat) : Int) = (S.length : Int) - 1 := by omega
          rw [z2]; simp [z]
        · have z2 : ¬ V.int (((Mx.rk (someR rows S) L).2 : Nat) : Int) = V.int ((S.length : Int) - 1) := fun y => by
            have : (((Mx.rk (someR rows S) L).2 : Nat) : Int) = (S.length : Int) - 1 := by injection y
            omega
          rw [decide_eq_false z2, decide_eq_true z]; rfl
      rw [e]
      exact k H2 s2
    by_cases hr : (Mx.rk (someR rows S) L).2 + 1 = S.length
    rotate_left
    · refine st_seq (st_yes' (hrk.to (decide_eq_true hr)) fun H2 s2 => ?_)
      refine st_ret val_c (q2 (fun ⟨x, m1, m2, m3⟩ => ?_) H2 (s1.trans s2))
      subst m3
      have := (Mx.rk_ker (Mx.some_lens ro.lens hS) (Mx.supp_ker ro.lens m1 m2)).1
      rw [Mx.some_len] at this
      exact hr this
    refine st_seq (st_no' (hrk.to (decide_eq_false fun z => z hr)) fun H2 s2 => st_next ?_)
    dsimp only
    have s12 := s1.trans s2
    refine st_seq (st_set' (R := fun u H' => iMixed K L (someR rows S) H' u) (vs_call (va1 (val_var rfl)) fun Q' k => ⟨.ref sa, L, someR rows S, rfl, mCols.to s2 hsn.iL, rs, fun u H3 s3 hu => k u H3 s3 hu⟩) fun t H3 s3 ht => ?_)
    dsimp only
    have s13 := s12.trans s3
    rcases ht with ⟨y, a, u, rfl, ha, hu, hyl, hym, hys⟩ | ⟨hno, a, u, rfl, ha⟩
    rotate_left
    · refine st_seq (st_yes' (as_of (ans_or1 (ans_eq (b := true) (ixAt (i := 0) (val_var rfl) val_c ha rfl) val_c rfl (by decide)))) fun H4 s4 => ?_)
      refine st_ret val_c (q2 (fun ⟨x, m1, m2, m3⟩ => ?_) H4 (s13.trans s4))
      subst m3
      exact hno ⟨_, Mx.supp_mix ro.lens m1⟩
    rw [hsl] at hyl
    have hu1 : ∀ {H' : Hp} {σ : L2.St}, Same H3 H' → σ[4]? = some (some (.ref a)) → Val (tOp (rIxT K) (tVar 4) (tC (.int 1))) σ H' u := fun s e => ixAt (i := 1) (val_var e) val_c (sameT s ha) rfl
    have hany : AS (tOr (tTest (tOp rEq (tOp (rIxT K) (tVar 4) (tC (V.int 0))) (tC (V.str (Str.ofString "climbs"))))) (tB (tCB (rAny K) (tCons (tLc (iTup K (tOp (rIxT K) (tVar 4) (tC (V.int 1)))) (gName 5) tYes (tOp (rEqD K) (tVar 5) (tC (V.ref T.aZERO))) [5]) tNil)))) [some v, some w, some (.ref sa), none, some (.ref a), none, none] H3 (false || (y.map fun x => decide (x = 0)).any id) :=
      as_or (as_of (ans_eq (b := false) (ixAt (i := 0) (val_var rfl) val_c ha rfl) val_c rfl (tag_ne (by decide)))) fun _ H4 s4 => as_val (vs_any (vs_lcN (R := iQ K) (Z := iB) robB mB (fun x => decide (x = 0)) (ws_tup mQ (vsv (hu1 s4 rfl) (mRow.to s4 hu))) (sizeLine_ge (by omega)) (fun _ => rfl) fun x vx H5 hm s5 hx => VS.el fun Q' k => by
        refine val_var (i := 5) (v := vx) rfl _ ?_
        refine val_c _ ?_
        refine r_eqD dat_Q dat_Q (by decide) (by decide) hx (q0 T H5) ?_
        rw [eqv_Q]
        exact k _ _ (Same.refl _) rfl))
    by_cases hz : ∃ x ∈ y, x = 0
    · refine st_seq (st_yes' (hany.to (by
        rw [Bool.false_or, List.any_map, List.any_eq_true]
        obtain ⟨x, hx, e⟩ := hz
        exact ⟨x, hx, by simpa using e⟩)) fun H4 s4 => ?_)
      refine st_ret val_c (q2 (fun ⟨x, m1, m2, m3⟩ => ?_) H4 (s13.trans s4))
      subst m3
      obtain ⟨z, hz1, hz2⟩ := hz
      obtain ⟨p, hp, e⟩ := List.getElem_of_mem hz1
      have hps : p < (supp rows.length x).length := by omega
      have h3 := Mx.supp_only ro.lens m1 m2 hym p hps
      have h4 : Mx.vF y p = 0 := by rw [vF_get (List.getElem?_eq_getElem hp), e, hz2]
      have h5 := (Mx.supp_mem (x := x) (N := rows.length) (j := (supp rows.length x).getD p 0)).mp (by
        rw [List.getD_eq_getElem?_getD, List.getElem?_eq_getElem hps]; exact List.getElem_mem hps)
      rw [← h3, h4] at h5
      exact h5.2 rfl
    refine st_seq (st_no' (hany.to (by
      rw [Bool.false_or, List.any_map, List.any_eq_false]
      intro x hx
      simp only [Function.comp, id]
      intro e
      exact hz ⟨x, hx, by simpa using e⟩)) fun H4 s4 => st_next ?_)
    dsimp only
    have s14 := s13.trans s4
    have hu4 := mRow.to s4 hu
    obtain ⟨b, us, rfl, hb, hp⟩ := id hu4
    obtain ⟨la, ls, rfl, hls, hlp⟩ := id h2
    have els := pint hlp
    have hkv : (S.map ky).map kV = ls := by rw [els, List.map_map, List.map_map]; rfl
    have hul : S.length = us.length := by rw [plen hp, hyl]
    have hmk : mergeK [] ((S.map ky).zip us) = (S.map ky).zip us := by
      rw [merge_fresh (fun _ _ q hq => by simp at hq) (by rw [zip_keys hul]; exact keys_nodup hS.up), List.nil_append]
    refine st_seq (st_set' (R := fun v H' => ∃ D, v = .ref D ∧ H' D = some (.dK ((S.map ky).zip us))) (vs_dz (ks := S.map ky) (ys := us) (va2 (val_var rfl) (hu1 s4 rfl)) (by rw [hkv]; exact sameT s14 hls) hb (by rw [List.length_map]; exact hul) (by rw [List.length_map]; omega) fun p hp2 => ⟨p, rfl, by rw [hmk]; exact upd_same⟩) fun d H5 s5 hd => ?_)
    obtain ⟨D, rfl, hD⟩ := hd
    dsimp only
    have hrl : Val (tCB (rLenK K) (tCons (tVar 0) tNil)) [some v, some (.ref la), some (.ref sa), none, some (.ref a), none, some (.ref D)] H5 (.int (rows.length : Int)) := v_len (k1 := false) (R := iRow K) (val_var rfl) (mCols.to (s14.trans s5) h1)
    refine st_ret' (VS.imp (vs_tuple (Z := iQ K) mQ (vs_lcN (R := iI) (Z := iQ K) robQ mQ (fun k => ext S (Mx.vF y) k.toNat) (ws_range1 (va1 hrl) (by omega) (by omega)) (by rw [ups_len]; exact sizeLine_ge (by omega)) (fun _ => rfl) fun k vk H6 hm s6 hk => VS.el fun Q' kk => ?_)) fun u H s h => ?_) fun u H6 s6 hu6 => q1 u H6 y (s14.trans (s5.trans s6)) hyl hym hys hu6
    · unfold ups at hm
      obtain ⟨k', hk', e⟩ := List.mem_map.mp hm
      have e : k = (k' : Int) := by rw [← e]; omega
      subst e
      have hk : vk = .int (k' : Int) := hk
      subst hk
      have hD6 := s6 _ _ hD
      refine val_var (i := 6) (v := .ref D) rfl _ ⟨D, rfl, .inl ⟨_, .inl hD6⟩, ?_⟩
      refine val_var (i := 3) (v := .int (k' : Int)) rfl _ ?_
      refine val_c _ ⟨_, DGet.k (k := ky k') hD6, ?_⟩
      refine kk _ _ (Same.refl _) ?_
      rw [Int.toNat_natCast]
      by_cases hin : k' ∈ S
      · obtain ⟨p, hpl, e⟩ := List.getElem_of_mem hin
        have e2 : S.getD p 0 = k' := by rw [List.getD_eq_getElem?_getD, List.getElem?_eq_getElem hpl, e]; rfl
        have hv := val_in hS.up hul hpl
        rw [e2] at hv
        have hx := Mx.ext_in hS (f := Mx.vF y) hpl
        rw [e2] at hx
        obtain ⟨z, hz1, hz2⟩ := pgetR hp (get_vF (show p < y.length by omega))
        rw [hv, hz1, hx]
        exact mQ.to (s5.trans s6) hz2
      · rw [val_out hin, Mx.ext_out hin]
        exact q0 T H6
    · have e : (ups 0 ((rows.length : Int)).toNat).map (fun k => ext S (Mx.vF y) k.toNat) = rowQ rows.length (ext S (Mx.vF y)) := by
        rw [Int.toNat_natCast]
        unfold ups rowQ
        rw [List.map_map]
        exact List.map_congr_left fun k _ => by simp
      rw [← e]; exact h
end
end K19
namespace K19
open PySem PySem.Spec L2
open Mx (longer tgt Mix someR ext supp Lot UqM Corners Ordered putIn lexLt)
section
variable {P : Program} {w : World} {K : PySem.W.Frag} {mg : Str → Option Value} {base : Heap}
/-- the rest of a list -/
theorem vs_drop {α : Type} {R : Rp α} {ta tl : TE} {σ : L2.St} {H : Hp} {v : V} {xs : List α} {a : Nat} (m : Mon R) (h : Val ta σ H v) (g1 : Val tl σ H (.int (a : Int))) (hv : iL K R H v xs) (ha : a ≤ xs.length) :
    VS (tSl (rSlL K) ta (tPart tl) tNoPart) σ H (NewL R H (xs.drop a)) := fun Q k => by
  obtain ⟨l, vs, rfl, hq, hp⟩ := hv
  refine h _ (g1 _ ⟨_, rfl, l, vs, rfl, hq, fun p hf => ?_⟩)
  have e : cutV vs (some (a : Int)) none = vs.drop a := by
    unfold cutV
    have hl := plen hp
    have e1 : HT.sIx vs.length 0 (some (a : Int)) = a := by rw [HT.sIx_nat]; omega
    rw [e1, HT.sIx_none]
    exact List.take_of_length_le (by rw [List.length_drop]; omega)
  rw [e]
  exact k _ _ (same_new hf) ⟨p, rfl, hf, _, upd_same, paired_mono m (same_new hf) (pdrop _ hp)⟩
theorem putIn_len {s : List Rat} {l : List (List Rat)} : (putIn s l).length = l.length + 1 := by
  unfold Mx.putIn
  rw [List.length_append, List.length_append, List.length_drop, List.length_singleton]
  have := List.length_filter_le (fun o => lexLt o s) l
  omega
/-- the corners found so far -/
structure CO (L : Nat) (rows : List (List Rat)) (done : List (List Nat)) (cs : List (List Rat)) : Prop where
  ord : Ordered cs
  mix : ∀ v ∈ cs, v.length = rows.length ∧ Mix L rows (Mx.vF v)
  small : ∀ v ∈ cs, Small 125 v
  len : cs.length ≤ done.length
  all : ∀ v : List Rat, v.length = rows.length → Mix L rows (Mx.vF v) → UqM L rows (Mx.vF v) → supp rows.length (Mx.vF v) ∈ done → v ∈ cs
theorem ext_row {L : Nat} {rows : List (List Rat)} (hl : ∀ u ∈ rows, u.length = L) {v y : List Rat} (h1 : v.length = rows.length) (h2 : Mix L rows (Mx.vF v)) (h3 : UqM L rows (Mx.vF v)) (h4 : Mix L (someR rows (supp rows.length (Mx.vF v))) (Mx.vF y)) : v = rowQ rows.length (ext (supp rows.length (Mx.vF v)) (Mx.vF y)) := by
  conv => lhs; rw [list_rowQ (cs := v), h1]
  refine rowQ_congr fun j hj => ?_
  rw [← Mx.supp_ext (x := Mx.vF v) hj]
  unfold Mx.ext
  refine Mx.sm_congr fun p hp => ?_
  rw [Mx.supp_only hl h2 h3 h4 p hp]
theorem CO.step {L : Nat} {rows : List (List Rat)} {done : List (List Nat)} {cs : List (List Rat)} {S : List Nat} (ro : RO L rows) (h : CO L rows done cs) (hS : Lot rows.length S) {y : List Rat} (hy : y.length = S.length) (hm : Mix L (someR rows S) (Mx.vF y)) (hs : Small 125 y) :
    CO L rows (done ++ [S]) (putIn (rowQ rows.length (ext S (Mx.vF y))) cs) := by
  obtain ⟨p1, p2⟩ := Mx.putIn_ok (s := rowQ rows.length (ext S (Mx.vF y))) h.ord fun x hx => by rw [(h.mix x hx).1, rowQ_len]
  have hmx : Mix L rows (Mx.vF (rowQ rows.length (ext S (Mx.vF y)))) := by
    have := Mx.mix_ext ro.lens hS hm
    exact ⟨this.nn.congr fun j hj => (vQ hj).symm, this.rc.congr fun j hj => (vQ hj).symm⟩
  refine ⟨p1, fun v hv => ?_, fun v hv => ?_, ?_, fun v a1 a2 a3 a4 => ?_⟩
  · rcases (p2 v).mp hv with z | z
    · subst z; exact ⟨rowQ_len, hmx⟩
    · exact h.mix v z
  · rcases (p2 v).mp hv with z | z
    · subst z
      refine small_rowQ fun j hj => ?_
      by_cases hin : j ∈ S
      · obtain ⟨p, hpl, e⟩ := List.getElem_of_mem hin
        have e2 : S.getD p 0 = j := by rw [List.getD_eq_getElem?_getD, List.getElem?_eq_getElem hpl, e]; rfl
        have hx := Mx.ext_in hS (f := Mx.vF y) hpl
        rw [e2] at hx
        rw [hx]
        exact small_vF hs (by omega)
      · rw [Mx.ext_out hin]; exact sz_0.mono (by decide)
    · exact h.small v z
  · rw [putIn_len, List.length_append, List.length_singleton]
    have := h.len
    omega
  · rcases List.mem_append.mp a4 with z | z
    · exact (p2 v).mpr (.inr (h.all v a1 a2 a3 z))
    · rw [List.mem_singleton] at z
      subst z
      exact (p2 v).mpr (.inl (ext_row ro.lens a1 a2 a3 hm))
theorem CO.skip {L : Nat} {rows : List (List Rat)} {done : List (List Nat)} {cs : List (List Rat)} {S : List Nat} (h : CO L rows done cs) (hno : ¬ ∃ x, Mix L rows x ∧ UqM L rows x ∧ supp rows.length x = S) : CO L rows (done ++ [S]) cs :=
  ⟨h.ord, h.mix, h.small, by rw [List.length_append, List.length_singleton]; have := h.len; omega, fun v a1 a2 a3 a4 => by
    rcases List.mem_append.mp a4 with z | z
    · exact h.all v a1 a2 a3 z
    · rw [List.mem_singleton] at z
      exact absurd ⟨Mx.vF v, a2, a3, z⟩ hno⟩
theorem CO.fin {L : Nat} {rows : List (List Rat)} {cs : List (List Rat)} (ro : RO L rows) (h : CO L rows (Mx.lotsL rows.length (min rows.length (L + 1))) cs) : Corners L rows cs :=
  ⟨h.mix, fun v a1 a2 a3 => h.all v a1 a2 a3 (Mx.lotsL_iff.mpr ⟨Mx.supp_lot, Mx.supp_pos ro.lens a2, by
    have h1 := Mx.supp_le (N := rows.length) (x := Mx.vF v)
    have h2 := Mx.rk_ker (Mx.some_lens ro.lens Mx.supp_lot) (Mx.supp_ker ro.lens a2 a3)
    rw [Mx.some_len] at h2
    omega⟩)⟩
def spCorners (K : PySem.W.Frag) : Sp := fun vs H Q _ => ∃ v L rows, vs = [v] ∧ iCols K H v rows ∧ RO L rows ∧ ∀ u H' cs, Same H H' → iCols K H' u cs → Corners L rows cs → (∀ c ∈ cs, Small 125 c) → cs.length ≤ 1000 → Q u H'
theorem sc_corners : FnScope ["rows", "found", "lot", "shares", "ahead", "other"] ["rows"] (defScope s_corners) := ⟨rfl, rfl, rfl, by decide +kernel, rfl, by decide +kernel, by decide +kernel⟩
theorem ok_corners (T : Txt K mg) : FnOk P w K mg base CX0 7 T.corners.f T.corners.fd ["rows"] (spCorners K) := by
  refine T.corners.F.ok sc_corners (fun vs H Q E h => ?_) (fun cdv A outer s H vs Q E hr h => ?_)
  · obtain ⟨_, _, _, rfl, _⟩ := h; rfl
  · obtain ⟨v, L, rows, rfl, h1, ro, q⟩ := h
    have hf := ro.few
    have hlow := ro.low
    obtain ⟨c0, hc0, l0⟩ := ro.first
    refine ⟨_, (PSs.nox (pss_cons (ps_set (i := 1) sc_corners.nd rfl (.inl rfl) (pe_lst pa_nil)) (pss_cons (ps_for PassesOwn.never rfl (pi_listK K (pcall T.lots (ok_lots T) (hr.mono (by decide)) (pa_cons (pe_callB (k_len K) rfl T.b_len (by decide +kernel) (pa_cons (pv 0) pa_nil)) (pa_cons (pe_op op_add (pe_callB (k_len K) rfl T.b_len (by decide +kernel) (pa_cons (pe_ix (ix_listK K) (pv 0) pe_int (fun _ _ => rfl)) pa_nil)) pe_int) pa_nil)))) (pg_name (i := 2) sc_corners.nd rfl (.inl rfl)) (pss_cons (ps_set (i := 3) sc_corners.nd rfl (.inr rfl) (pcall T.only_mixing (ok_only_mixing T) (hr.mono (by decide)) (pa_cons (pv 0) (pa_cons (pv 2) pa_nil)))) (pss_one (ps_if (pt_cmpR op_notN (pv 3) pe_non (nomark _)) (pss_cons (ps_setLc (i := 4) (own := [("other", 5)]) (g := (gName 5)) rfl sc_corners.nd rfl rfl (sw_true rfl rfl rfl (by decide +kernel)) (pi_listK K (pv 1)) (blkOk_by (N := ["rows", "found", "lot", "shares", "ahead", "other"]) (sc := defScope s_corners) (by decide +kernel)) (fun _ _ _ _ _ => (pg_name (i := 5) sc_corners.nd rfl (.inl rfl))) (fun _ _ _ _ _ => pts_one (pt_val (pcall T.comes_ahead (ok_comes_ahead T) (hr.mono (by decide)) (pa_cons (pv 5) (pa_cons (pv 3) pa_nil))))) (fun _ _ _ _ _ => (pv 5))) (pss_one (ps_set (i := 1) sc_corners.nd rfl (.inl rfl) (pe_op op_cat (pe_op op_cat (pv 4) (pe_lst (pa_cons (pv 3) pa_nil))) (pe_slice (sl_listK K) (pv 1) (po_some (pe_callB (k_len K) rfl T.b_len (by decide +kernel) (pa_cons (pv 4) pa_nil))) po_none))))) pss_nil)))) (pss_one (ps_ret (pv 1)))))), ?_⟩
    refine st_seq (st_set' (R := NewL (iRow K) H []) vs_nil fun u H1 s1 hu => ?_)
    obtain ⟨fa, rfl, _, hfn⟩ := hu
    dsimp only
    have hnum : (Mx.lotsL rows.length (min rows.length (L + 1))).length ≤ 30 := by
      have : ∀ N, N < 6 → ∀ k, k < 5 → (Mx.lotsL N k).length ≤ 30 := by decide +kernel
      exact this _ (by omega) _ (by omega)
    refine st_seq (st_for (R := iLt K) (xs := Mx.lotsL rows.length (min rows.length (L + 1))) (fun i σ H' => ∃ z2 z3 z4 z5, ∃ f cs, σ = [some v, some (.ref f), z2, z3, z4, z5] ∧ nL (iRow K) H' f cs ∧ CO L rows ((Mx.lotsL rows.length (min rows.length (L + 1))).take i) cs) (ws_list mLt ?_) (fun H2 s2 => ⟨none, none, none, none, fa, [], rfl, (let ⟨vs, g1, g2⟩ := hfn; ⟨vs, s2 _ _ g1, paired_mono mRow s2 g2⟩), ?_⟩) ?_ ?_)
    · have hl0 : ∀ {H' : Hp}, Same H1 H' → Val (tCB (rLenK K) (tCons (tOp (rIxL K) (tVar 0) (tC (.int 0))) tNil)) [some v, some (.ref fa), none, none, none, none] H' (.int (L : Int)) := fun s Q' k => by
        refine v_ixL (i := 0) (val_var (i := 0) (v := v) rfl) val_c (mCols.to (s1.trans s) h1) hc0 fun u hu => ?_
        obtain ⟨a, xs, rfl, hs, hp⟩ := hu
        refine ⟨a, xs, rfl, .inr hs, ?_⟩
        rw [plen hp, l0]; exact k
      have hadd := vadd (hl0 (Same.refl _)) (val_c (v := .int 1))
      rw [show (L : Int) + 1 = ((L + 1 : Nat) : Int) by omega] at hadd
      exact vs_call (va2 (v_len (k1 := false) (R := iRow K) (val_var rfl) (mCols.to s1 h1)) hadd) fun Q' k => ⟨rows.length, L + 1, rfl, hf, by omega, fun u H2 s2 hu => k u H2 s2 hu⟩
    · exact ⟨List.Pairwise.nil, fun v hv => by simp at hv, fun v hv => by simp at hv, Nat.zero_le _, fun v _ _ _ hv => by simp at hv⟩
    · rintro i S vS σ1 H2 H3 N hx ⟨z2, z3, z4, z5, f, cs, rfl, hcs, co⟩ s2 s3 hS2 hN
      have hmem := List.mem_of_getElem? hx
      obtain ⟨hlot, hl1, hl2⟩ := Mx.lotsL_iff.mp hmem
      have tk : (Mx.lotsL rows.length (min rows.length (L + 1))).take (i + 1) = (Mx.lotsL rows.length (min rows.length (L + 1))).take i ++ [S] := by rw [List.take_add_one, hx]; rfl
      have s13 := s2.trans s3
      have hcs3 : nL (iRow K) H3 f cs := let ⟨vs, g1, g2⟩ := hcs; ⟨vs, s3 _ _ g1, paired_mono mRow s3 g2⟩
      have hlen30 : cs.length ≤ 30 := by have := co.len; rw [List.length_take] at this; omega
      show tSeq _ _ _ [some v, some (.ref f), some vS, z3, z4, z5] _
      refine st_seq (st_set' (R := fun u H' => (u = .non ∧ ¬ ∃ x, Mix L rows x ∧ UqM L rows x ∧ supp rows.length x = S) ∨ ∃ y : List Rat, y.length = S.length ∧ Mix L (someR rows S) (Mx.vF y) ∧ Small 125 y ∧ iRow K H' u (rowQ rows.length (ext S (Mx.vF y)))) (vs_call (va2 (val_var rfl) (val_var rfl)) fun Q' k => ⟨v, vS, L, rows, S, rfl, mCols.to (s1.trans s13) h1, hS2, ro, hlot, hl1, by omega, fun u H' y s a1 a2 a3 a4 => k u H' s (.inr ⟨y, a1, a2, a3, a4⟩), fun hno H' s => k _ H' s (.inl ⟨rfl, hno⟩)⟩) fun u H4 s4 hu => ?_)
      dsimp only
      rcases hu with ⟨rfl, hno⟩ | ⟨y, a1, a2, a3, a4⟩
      · refine st_no (ans_notN (val_var rfl) rfl) (st_next (hN _ _ s4 ⟨some vS, some .non, z4, z5, f, cs, rfl, (let ⟨vs, g1, g2⟩ := hcs3; ⟨vs, s4 _ _ g1, paired_mono mRow s4 g2⟩), ?_⟩))
        rw [tk]; exact co.skip hno
      · obtain ⟨ua, us, rfl, hus, hup⟩ := id a4
        generalize hs : rowQ rows.length (ext S (Mx.vF y)) = s at a4
        have co' := co.step ro hlot a1 a2 a3
        rw [hs, ← tk] at co'
        have hsm : Small 125 s := co'.small s (by
          have := (Mx.putIn_ok (s := s) co.ord fun x hx => by rw [(co.mix x hx).1, ← hs, rowQ_len]).2 s
          exact this.mpr (.inl rfl))
        have hcs4 : nL (iRow K) H4 f cs := let ⟨vs, g1, g2⟩ := hcs3; ⟨vs, s4 _ _ g1, paired_mono mRow s4 g2⟩
        refine st_yes (ans_notN (val_var rfl) rfl) ?_
        refine st_seq (st_set' (R := NewL (iRow K) H4 ((cs.filter fun o => lexLt o s).map fun o => o)) (vs_lcNF (R := iRow K) (Z := iRow K) robRow mRow (fun o => o) (fun o => lexLt o s) (ws_list mRow (vsv (val_var rfl) hcs4.iL)) (sizeLine_ge (by omega)) (fun _ => rfl) (fun o vo H5 hm s5 ho C' k => ?_) (fun o vo H5 hm s5 ho _ => VS.el (vsv (val_var rfl) ho)) mRow) fun u H5 s5 hu => ?_)
        · refine vs_call (R := fun u _ => u = .bl (lexLt o s)) (va2 (val_var (i := 5) (v := vo) rfl) (val_var (i := 3) (v := .ref ua) rfl)) (fun Q' k' => ⟨vo, .ref ua, o, s, rfl, ho, mRow.to s5 a4, fun x hx => (co.small o hm x hx).mono (by decide), fun x hx => (hsm x hx).mono (by decide), fun H6 s6 => k' _ _ s6 rfl⟩) _ fun u H6 s6 e => ⟨_, e, k _ s6⟩
        · obtain ⟨aa, rfl, _, han⟩ := hu
          rw [List.map_id'] at han
          dsimp only
          have hfl := List.length_filter_le (fun o => lexLt o s) cs
          have hcs5 : nL (iRow K) H5 f cs := let ⟨vs, g1, g2⟩ := hcs4; ⟨vs, s5 _ _ g1, paired_mono mRow s5 g2⟩
          have a5 := mRow.to s5 a4
          refine st_set' (R := NewL (iRow K) H5 (putIn s cs)) (vs_cat mRow (VS.imp (vs_cat mRow (vsv (val_var rfl) ⟨aa, rfl, han⟩) (fun H6 s6 => VS.imp (vs_lst1 mRow (vsv (val_var rfl) (mRow.to s6 a5))) fun u H s h => h.n) (sizeLine_ge (by show _ + 1 ≤ 1000; omega))) fun u H s h => h.n) (fun H6 s6 => VS.imp (vs_drop (a := (cs.filter fun o => lexLt o s).length) mRow (val_var rfl) (v_len (k1 := false) (R := iRow K) (val_var rfl) (mCols.to s6 han.iL)) (mCols.to s6 hcs5.iL) hfl) fun u H s h => h.n) (sizeLine_ge (by
            rw [List.length_append, List.length_drop, List.length_singleton]; omega))) fun u H6 s6 hu => ?_
          obtain ⟨f2, rfl, _, hf2⟩ := hu
          exact hN _ _ (s4.trans (s5.trans s6)) ⟨some vS, some (.ref ua), some (.ref aa), z5, f2, putIn s cs, rfl, hf2, co'⟩
    · rintro σ1 H2 s2 ⟨z2, z3, z4, z5, f, cs, rfl, hcs, co⟩
      rw [List.take_length] at co
      dsimp only
      exact st_ret (val_var rfl) (q _ H2 cs (s1.trans s2) hcs.iL (co.fin ro) co.small (by have := co.len; omega))
end
end K19
namespace K19
open PySem PySem.Spec L2
section
variable {P : Program} {w : World} {K : PySem.W.Frag} {mg : Str → Option Value} {base : Heap}
def spWCommon : Sp := fun vs H Q _ => ∃ a b : Int, vs = [.int a, .int b] ∧ Q (.int ((Nat.gcd a.natAbs b.natAbs : Nat) : Int)) H
theorem v_abs {σ : L2.St} {H : Hp} {ta : TE} {a : Int} (h : Val ta σ H (.int a)) : Val (tCB (fun xs H Q => ∃ i, xs = [V.int i] ∧ Q (.int (if i < 0 then -i else i)) H) (tCons ta tNil)) σ H (.int ((a.natAbs : Nat) : Int)) := fun Q k =>
  h _ ⟨a, rfl, by
    have e : (if a < 0 then -a else a) = ((a.natAbs : Nat) : Int) := by split <;> omega
    rw [e]; exact k⟩
theorem st_par {i j : Nat} {ta : TA} {D : Ends} {σ : L2.St} {H : Hp} {x y : V} (h : ValA ta σ H [x, y]) (q : D.nx ((σ.set i (some x)).set j (some y)) H) : tPar i j ta D σ H := h _ ⟨x, y, rfl, q⟩
theorem sc_w_common : FnScope ["_law_a", "_law_b"] ["_law_a", "_law_b"] (defScope s_w_common) := ⟨rfl, rfl, rfl, by decide +kernel, rfl, by decide +kernel, by decide +kernel⟩
theorem ok_w_common (T : Txt K mg) : FnOk P w K mg base CX0 1 T.w_common.f T.w_common.fd ["_law_a", "_law_b"] spWCommon := by
  refine T.w_common.F.ok sc_w_common (fun vs H Q E h => ?_) (fun cdv A outer s H vs Q E hr h => ?_)
  · obtain ⟨_, _, rfl, _⟩ := h; rfl
  · obtain ⟨a, b, rfl, q⟩ := h
    refine ⟨_, (PSs.nox (pss_cons (ps_par (i := 0) (j := 1) rfl sc_w_common.nd rfl rfl (by decide) rfl rfl (pa_cons (pe_callB call_abs rfl T.b_abs (by decide +kernel) (pa_cons (pv 0) pa_nil)) (pa_cons (pe_callB call_abs rfl T.b_abs (by decide +kernel) (pa_cons (pv 1) pa_nil)) pa_nil)) rfl) (pss_cons (ps_while PassesOwn.never (pt_cmpR op_ne (pv 1) pe_int (nomark _)) (pss_one (ps_par (i := 0) (j := 1) rfl sc_w_common.nd rfl rfl (by decide) rfl rfl (pa_cons (pv 1) (pa_cons (pe_op op_mod (pv 0) (pv 1)) pa_nil)) rfl))) (pss_one (ps_ret (pv 0)))))), ?_⟩
    refine st_seq (st_par (va2 (v_abs (val_var rfl)) (v_abs (val_var rfl))) ?_)
    dsimp only
    refine st_seq (st_whileB (fun m σ H' => ∃ x y : Nat, σ = [some (.int (x : Int)), some (.int (y : Int))] ∧ y ≠ 0 ∧ Nat.gcd x y = Nat.gcd a.natAbs b.natAbs ∧ m = y ∧ H' = H) (fun σ H' => ∃ x : Nat, σ = [some (.int (x : Int)), some (.int 0)] ∧ x = Nat.gcd a.natAbs b.natAbs ∧ H' = H) ?_ ?_ ?_ ?_ ?_)
    · by_cases z : b.natAbs = 0
      · refine .inr ⟨a.natAbs, ?_, ?_, rfl⟩
        · rw [z]; rfl
        · rw [z, Nat.gcd_zero_right]
      · exact .inl ⟨b.natAbs, a.natAbs, b.natAbs, rfl, z, rfl, rfl, rfl⟩
    · rintro m σ H' ⟨x, y, rfl, hy, _, _, rfl⟩
      refine ans_ne (val_var rfl) val_c rfl ?_
      have : ¬ V.int (y : Int) = V.int 0 := fun z => by have : (y : Int) = 0 := by injection z
                                                        omega
      rw [decide_eq_false this]; rfl
    · rintro σ H' ⟨x, rfl, _, rfl⟩
      exact ans_ne (val_var rfl) val_c rfl rfl
    · rintro σ H' ⟨x, rfl, hx, rfl⟩
      dsimp only
      refine st_ret (val_var rfl) ?_
      rw [hx]; exact q
    · rintro N m σ H' ⟨x, y, rfl, hy, hg, hm, rfl⟩ hW hB
      refine st_par (x := .int (y : Int)) (y := .int ((x % y : Nat) : Int)) (va2 (val_var rfl) (fun Q' k => val_var (i := 0) (v := .int (x : Int)) rfl _ (val_var (i := 1) (v := .int (y : Int)) rfl _ ⟨_, _, rfl, rfl, (by show (0 : Int) < (y : Int); omega), k⟩))) ?_
      have hgcd : Nat.gcd y (x % y) = Nat.gcd a.natAbs b.natAbs := by rw [← hg, Nat.gcd_comm x y, Nat.gcd_rec y x, Nat.gcd_comm]
      by_cases z : x % y = 0
      · refine hB _ _ ⟨y, ?_, ?_, rfl⟩
        · rw [z]; rfl
        · rw [← hgcd, z, Nat.gcd_zero_right]
      · exact hW (x % y) _ _ (by rw [hm]; exact Nat.mod_lt _ (by omega)) ⟨y, x % y, rfl, z, hgcd, rfl, rfl⟩
theorem sc_w_fraction : FnScope ["_law_n", "_law_d", "_law_unit"] ["_law_n", "_law_d"] (defScope s_w_fraction) := ⟨rfl, rfl, rfl, by decide +kernel, rfl, by decide +kernel, by decide +kernel⟩
theorem ok_w_fraction (T : Txt K mg) : FnOk P w K mg base CX0 2 T.w_fraction.f T.w_fraction.fd ["_law_n", "_law_d"] (spInForm K) := by
  refine T.w_fraction.F.ok sc_w_fraction (fun vs H Q E h => ?_) (fun cdv A outer s H vs Q E hr h => ?_)
  · obtain ⟨_, _, rfl, _⟩ := h; rfl
  · obtain ⟨n, d, rfl, h0, hb, q⟩ := h
    refine ⟨_, (PSs.nox (pss_cons (ps_set (i := 2) sc_w_fraction.nd rfl (.inl rfl) (pe_op op_mulW (pcall T.w_common (ok_w_common T) (hr.mono (by decide)) (pa_cons (pv 0) (pa_cons (pv 1) pa_nil))) (pe_ifExp (pt_cmpR op_gt (pv 1) pe_int (nomark _)) pe_int (pe_op op_sub pe_int pe_int)))) (pss_one (ps_ret (pe_tup (pa_cons (pe_op op_fdivX (pv 0) (pv 2)) (pa_cons (pe_op op_fdivX (pv 1) (pv 2)) pa_nil))))))), ?_⟩
    have hg : 0 < Nat.gcd n.natAbs d.natAbs := Nat.gcd_pos_of_pos_right _ (by omega)
    have hgb : Nat.gcd n.natAbs d.natAbs < 2 ^ 8500 := Nat.lt_of_le_of_lt (Nat.gcd_le_right _ (by omega)) hb
    have hG : VS (tCall spWCommon [] E0 (tCons (tVar 0) (tCons (tVar 1) tNil))) [some (.int n), some (.int d), none] H (fun v _ => v = .int ((Nat.gcd n.natAbs d.natAbs : Nat) : Int)) := vs_call (va2 (val_var rfl) (val_var rfl)) fun Q' k => ⟨n, d, rfl, k _ _ (Same.refl _) rfl⟩
    refine st_seq (st_set' (R := fun v _ => v = .int (((Nat.gcd n.natAbs d.natAbs : Nat) : Int) * (if 0 < d then 1 else -1))) (vs_mulI hG (fun H1 s1 => vs_if (b := decide (0 < d)) (as_test (vsv (vcmp (f := fun i j => decide (j < i)) (val_var rfl) val_c) rfl)) (fun hb2 H2 s2 => vsv val_c (by rw [if_pos (of_decide_eq_true hb2)])) fun hb2 H2 s2 => vsv (vsub val_c val_c) (by rw [if_neg (of_decide_eq_false hb2)]; rfl)) (wide_mul (a := 8500) (b := 1) (by rw [Int.natAbs_natCast]; exact hgb) (by split <;> decide) (by decide) (by decide) (by decide))) fun u H1 s1 e => ?_)
    subst e
    dsimp only
    refine st_rt2 ?_
    have vdx : ∀ {σ : L2.St} {H : Hp} {ta tb : TE} {a b : Int}, Val ta σ H (.int a) → Val tb σ H (.int b) → CDivX a b → Val (tOp (L2.rI (fun i j => CDivX i j) fun i j => .int (i.fdiv j)) ta tb) σ H (.int (a.fdiv b)) := fun h g c Q k => h _ (g _ ⟨_, _, rfl, rfl, c, k⟩)
    by_cases hd : 0 < d
    · rw [if_pos hd, Int.mul_one]
      have c1 : ∀ i : Int, CDivX i ((Nat.gcd n.natAbs d.natAbs : Nat) : Int) := fun i => divX (b := 8500) (by omega) (by rw [Int.natAbs_natCast]; exact hgb) (by decide) (by decide)
      refine t_tup (ValA.vsa (R := fun vs H' => vs = [.int (n.fdiv ((Nat.gcd n.natAbs d.natAbs : Nat) : Int)), .int (d.fdiv ((Nat.gcd n.natAbs d.natAbs : Nat) : Int))]) (va2 (vdx (val_var rfl) (val_var rfl) (c1 _)) (vdx (val_var rfl) (val_var rfl) (c1 _))) rfl) fun vs H2 s2 e => ?_
      subst e
      exact ⟨by show 2 ≤ sizeLine; decide, fun p hp => q _ _ ((s1.trans s2).trans (same_new hp)) (newQ (form_num hd).1 (form_num hd).2)⟩
    · have hd : d < 0 := by omega
      rw [if_neg (by omega), show ((Nat.gcd n.natAbs d.natAbs : Nat) : Int) * -1 = -((Nat.gcd n.natAbs d.natAbs : Nat) : Int) by omega]
      have c1 : ∀ i : Int, CDivX i (-((Nat.gcd n.natAbs d.natAbs : Nat) : Int)) := fun i => divX (b := 8500) (by omega) (by rw [Int.natAbs_neg, Int.natAbs_natCast]; exact hgb) (by decide) (by decide)
      refine t_tup (ValA.vsa (R := fun vs H' => vs = [.int (n.fdiv (-((Nat.gcd n.natAbs d.natAbs : Nat) : Int))), .int (d.fdiv (-((Nat.gcd n.natAbs d.natAbs : Nat) : Int)))]) (va2 (vdx (val_var rfl) (val_var rfl) (c1 _)) (vdx (val_var rfl) (val_var rfl) (c1 _))) rfl) fun vs H2 s2 e => ?_
      subst e
      exact ⟨by show 2 ≤ sizeLine; decide, fun p hp => q _ _ ((s1.trans s2).trans (same_new hp)) (newQ (form_neg hd).1 (form_neg hd).2)⟩
theorem sc_w_sum : FnScope ["_law_x", "_law_y"] ["_law_x", "_law_y"] (defScope s_w_sum) := ⟨rfl, rfl, rfl, by decide +kernel, rfl, by decide +kernel, by decide +kernel⟩
theorem ok_w_sum (T : Txt K mg) : FnOk P w K mg base CX0 3 T.w_sum.f T.w_sum.fd ["_law_x", "_law_y"] (spQQ K S4 (· + ·)) := by
  refine T.w_sum.F.ok sc_w_sum (fun vs H Q E h => ?_) (fun cdv A outer s H vs Q E hr h => ?_)
  · obtain ⟨_, _, _, _, rfl, _⟩ := h; rfl
  · obtain ⟨v, w, x, y, rfl, hx, hy, ⟨sx, sy⟩, q⟩ := h
    refine ⟨_, (PSs.nox (pss_one (ps_ret (pcall T.w_fraction (ok_w_fraction T) (hr.mono (by decide)) (pa_cons (pe_op op_add (pe_op op_mulW (pe_ix (ix_tupK K) (pv 0) pe_int (fun _ _ => rfl)) (pe_ix (ix_tupK K) (pv 1) pe_int (fun _ _ => rfl))) (pe_op op_mulW (pe_ix (ix_tupK K) (pv 1) pe_int (fun _ _ => rfl)) (pe_ix (ix_tupK K) (pv 0) pe_int (fun _ _ => rfl)))) (pa_cons (pe_op op_mulW (pe_ix (ix_tupK K) (pv 0) pe_int (fun _ _ => rfl)) (pe_ix (ix_tupK K) (pv 1) pe_int (fun _ _ => rfl))) pa_nil)))))), ?_⟩
    refine sret_call (va2 (vadd (vmul (vnum rfl hx) (vden rfl hy) (mulS sx.n sy.d)) (vmul (vnum rfl hy) (vden rfl hx) (mulS sy.n sx.d))) (vmul (vden rfl hx) (vden rfl hy) (mulS sx.d sy.d))) ?_
    exact ⟨_, _, rfl, dmul_ne, dmul_lt sx.d sy.d, fun u H' s hu => q u H' s (by show iQ K H' u (x + y); rw [add_divInt]; exact hu)⟩
theorem sc_w_times : FnScope ["_law_x", "_law_y"] ["_law_x", "_law_y"] (defScope s_w_times) := ⟨rfl, rfl, rfl, by decide +kernel, rfl, by decide +kernel, by decide +kernel⟩
theorem ok_w_times (T : Txt K mg) : FnOk P w K mg base CX0 3 T.w_times.f T.w_times.fd ["_law_x", "_law_y"] (spQQ K S4 (· * ·)) := by
  refine T.w_times.F.ok sc_w_times (fun vs H Q E h => ?_) (fun cdv A outer s H vs Q E hr h => ?_)
  · obtain ⟨_, _, _, _, rfl, _⟩ := h; rfl
  · obtain ⟨v, w, x, y, rfl, hx, hy, ⟨sx, sy⟩, q⟩ := h
    refine ⟨_, (PSs.nox (pss_one (ps_ret (pcall T.w_fraction (ok_w_fraction T) (hr.mono (by decide)) (pa_cons (pe_op op_mulW (pe_ix (ix_tupK K) (pv 0) pe_int (fun _ _ => rfl)) (pe_ix (ix_tupK K) (pv 1) pe_int (fun _ _ => rfl))) (pa_cons (pe_op op_mulW (pe_ix (ix_tupK K) (pv 0) pe_int (fun _ _ => rfl)) (pe_ix (ix_tupK K) (pv 1) pe_int (fun _ _ => rfl))) pa_nil)))))), ?_⟩
    refine sret_call (va2 (vmul (vnum rfl hx) (vnum rfl hy) (mulS sx.n sy.n)) (vmul (vden rfl hx) (vden rfl hy) (mulS sx.d sy.d))) ?_
    exact ⟨_, _, rfl, dmul_ne, dmul_lt sx.d sy.d, fun u H' s hu => q u H' s (by show iQ K H' u (x * y); rw [mul_divInt]; exact hu)⟩
theorem sc_w_over : FnScope ["_law_x", "_law_y"] ["_law_x", "_law_y"] (defScope s_w_over) := ⟨rfl, rfl, rfl, by decide +kernel, rfl, by decide +kernel, by decide +kernel⟩
theorem ok_w_over (T : Txt K mg) : FnOk P w K mg base CX0 3 T.w_over.f T.w_over.fd ["_law_x", "_law_y"] (spQQ K (fun x y => y ≠ 0 ∧ S4 x y) (· / ·)) := by
  refine T.w_over.F.ok sc_w_over (fun vs H Q E h => ?_) (fun cdv A outer s H vs Q E hr h => ?_)
  · obtain ⟨_, _, _, _, rfl, _⟩ := h; rfl
  · obtain ⟨v, w, x, y, rfl, hx, hy, ⟨y0, sx, sy⟩, q⟩ := h
    refine ⟨_, (PSs.nox (pss_one (ps_ret (pcall T.w_fraction (ok_w_fraction T) (hr.mono (by decide)) (pa_cons (pe_op op_mulW (pe_ix (ix_tupK K) (pv 0) pe_int (fun _ _ => rfl)) (pe_ix (ix_tupK K) (pv 1) pe_int (fun _ _ => rfl))) (pa_cons (pe_op op_mulW (pe_ix (ix_tupK K) (pv 0) pe_int (fun _ _ => rfl)) (pe_ix (ix_tupK K) (pv 1) pe_int (fun _ _ => rfl))) pa_nil)))))), ?_⟩
    refine sret_call (va2 (vmul (vnum rfl hx) (vden rfl hy) (mulS sx.n sy.d)) (vmul (vden rfl hx) (vnum rfl hy) (mulS sx.d sy.n))) ?_
    have hn : (x.den : Int) * y.num ≠ 0 := by
      have h1 := x.den_pos
      exact Int.mul_ne_zero (by omega) fun z => y0 (Rat.num_eq_zero.mp z)
    exact ⟨_, _, rfl, hn, dmul_lt sx.d sy.n, fun u H' s hu => q u H' s (by show iQ K H' u (x / y); rw [div_divInt x y y0]; exact hu)⟩
theorem sc_w_below : FnScope ["_law_x", "_law_y"] ["_law_x", "_law_y"] (defScope s_w_below) := ⟨rfl, rfl, rfl, by decide +kernel, rfl, by decide +kernel, by decide +kernel⟩
theorem ok_w_below (T : Txt K mg) : FnOk P w K mg base CX0 1 T.w_below.f T.w_below.fd ["_law_x", "_law_y"] (spIsLess K) := by
  refine T.w_below.F.ok sc_w_below (fun vs H Q E h => ?_) (fun cdv A outer s H vs Q E hr h => ?_)
  · obtain ⟨_, _, _, _, rfl, _⟩ := h; rfl
  · obtain ⟨v, w, x, y, rfl, hx, hy, ⟨sx, sy⟩, q⟩ := h
    refine ⟨_, (PSs.nox (pss_one (ps_ret (pe_cmpR op_lt (pe_op op_mulW (pe_ix (ix_tupK K) (pv 0) pe_int (fun _ _ => rfl)) (pe_ix (ix_tupK K) (pv 1) pe_int (fun _ _ => rfl))) (pe_op op_mulW (pe_ix (ix_tupK K) (pv 1) pe_int (fun _ _ => rfl)) (pe_ix (ix_tupK K) (pv 0) pe_int (fun _ _ => rfl))) (nomark _))))), ?_⟩
    refine st_ret (vcmp (f := fun i j => decide (i < j)) (vmul (vnum rfl hx) (vden rfl hy) (mulS sx.n sy.d)) (vmul (vnum rfl hy) (vden rfl hx) (mulS sy.n sx.d))) ?_
    have e : decide (x.num * (y.den : Int) < y.num * (x.den : Int)) = decide (x < y) := decide_eq_decide.mpr (Rat.lt_iff x y).symm
    rw [e]
    exact q
end
end K19
namespace K19
open PySem PySem.Spec L2
section
variable {P : Program} {w : World} {K : PySem.W.Frag} {mg : Str → Option Value} {base : Heap}
/-- a written pair of numbers, a fraction -/
theorem vs_lit {σ : L2.St} {H : Hp} {a b : Int} {q : Rat} (h1 : q.num = a) (h2 : (q.den : Int) = b) : VS (tTup (tCons (tC (.int a)) (tCons (tC (.int b)) tNil))) σ H (fun v H' => iQ K H' v q) := fun Q k =>
  ⟨by show 2 ≤ sizeLine; decide, fun p hp => k _ _ (same_new hp) ⟨p, rfl, by rw [h1, h2]; exact SqT.of upd_same⟩⟩
/-- a list's sum -/
theorem sc_w_all : FnScope ["_law_fractions", "_law_found", "_law_x"] ["_law_fractions"] (defScope s_w_all) := ⟨rfl, rfl, rfl, by decide +kernel, rfl, by decide +kernel, by decide +kernel⟩
theorem ok_w_all (T : Txt K mg) : FnOk P w K mg base CX0 4 T.w_all.f T.w_all.fd ["_law_fractions"] (spSummed K) := by
  refine T.w_all.F.ok sc_w_all (fun vs H Q E h => ?_) (fun cdv A outer s H vs Q E hr h => ?_)
  · obtain ⟨_, _, _, rfl, _⟩ := h; rfl
  · obtain ⟨v, xs, b, rfl, hv, hb, hl, q⟩ := h
    refine ⟨_, (PSs.nox (pss_cons (ps_set (i := 1) sc_w_all.nd rfl (.inl rfl) (pe_tup (pa_cons pe_int (pa_cons pe_int pa_nil)))) (pss_cons (ps_for PassesOwn.never rfl (pi_listK K (pv 0)) (pg_name (i := 2) sc_w_all.nd rfl (.inl rfl)) (pss_one (ps_set (i := 1) sc_w_all.nd rfl (.inl rfl) (pcall T.w_sum (ok_w_sum T) (hr.mono (by decide)) (pa_cons (pv 1) (pa_cons (pv 2) pa_nil)))))) (pss_one (ps_ret (pv 1)))))), ?_⟩
    refine st_seq (st_set' (vs_lit (K := K) (q := 0) rfl rfl) fun z H0 s0 hz => ?_)
    dsimp only
    refine st_seq ?_
    refine st_for (fun i σ H' => ∃ u z, σ = [some v, some u, z] ∧ iQ K H' u (sumQ (xs.take i))) (ws_list mQ (vsv (val_var rfl) ((mL mQ).to s0 hv))) (fun H1 s1 => ⟨_, none, rfl, mQ.to s1 hz⟩) ?_ ?_
    · rintro i x vx σ1 H1 H2 N hx ⟨u, z, rfl, hu⟩ s1 s2 hr2 hN
      have hxm := hb x (List.mem_of_getElem? hx)
      have hs := sz_sumQ (b := b) (xs := xs.take i) rfl fun y hy => hb y (List.mem_of_mem_take hy)
      have hlt : (xs.take i).length ≤ xs.length := by rw [List.length_take]; omega
      have hle := Nat.mul_le_mul_right (b + 1) hlt
      refine st_set' (vs_call (R := fun y H4 => iQ K H4 y (sumQ (xs.take (i + 1)))) (va2 (val_var rfl) (val_var rfl)) fun Q' k => ⟨_, _, _, _, rfl, mQ.to s2 hu, hr2, ⟨hs.mono (by omega), hxm.mono (by omega)⟩, fun y H4 s4 hy => k y H4 s4 ?_⟩) fun y H4 s4 hy => hN _ _ s4 ⟨y, _, rfl, hy⟩
      rw [sumQ_take hx]; exact hy
    · rintro σ1 H1 s1 ⟨u, z, rfl, hu⟩
      rw [List.take_length] at hu
      exact st_ret (val_var rfl) (q u H1 (s0.trans s1) hu)
/-- two rows added -/
def spWRowSum (K : PySem.W.Frag) : Sp := fun vs H Q _ => ∃ v u xs ys, vs = [v, u] ∧ iRow K H v xs ∧ iRow K H u ys ∧ Small 4000 xs ∧ Small 4000 ys ∧ xs.length ≤ 1000 ∧ ∀ r H', Same H H' → iRow K H' r (List.zipWith (· + ·) xs ys) → Q r H'
theorem sc_w_row_sum : FnScope ["_law_one", "_law_other", "_law_x", "_law_y"] ["_law_one", "_law_other"] (defScope s_w_row_sum) := ⟨rfl, rfl, rfl, by decide +kernel, rfl, by decide +kernel, by decide +kernel⟩
theorem ok_w_row_sum (T : Txt K mg) : FnOk P w K mg base CX0 4 T.w_row_sum.f T.w_row_sum.fd ["_law_one", "_law_other"] (spWRowSum K) := by
  refine T.w_row_sum.F.ok sc_w_row_sum (fun vs H Q E h => ?_) (fun cdv A outer s H vs Q E hr h => ?_)
  · obtain ⟨_, _, _, _, rfl, _⟩ := h; rfl
  · obtain ⟨v, u, xs, ys, rfl, h1, h2, s1, s2, hl, q⟩ := h
    refine ⟨_, (PSs.nox (pss_one (ps_ret (pe_callTy (k_tuple K) rfl T.b_tuple (by decide +kernel) (pa_cons (pe_lc (own := [("_law_x", 2), ("_law_y", 3)]) (g := (gTup K 2 (gCons (gName 2) (gCons (gName 3) gNil)))) (tt := tYes) rfl sc_w_row_sum.nd (pi_zipK K true true rfl T.b_zip (pa_cons (pv 0) (pa_cons (pv 1) pa_nil))) (blkOk_by (N := ["_law_one", "_law_other", "_law_x", "_law_y"]) (sc := defScope s_w_row_sum) (by decide +kernel)) (fun _ _ _ _ _ => (pg_tup rfl (pgs_cons (pg_name (i := 2) sc_w_row_sum.nd rfl (.inl rfl)) (pgs_cons (pg_name (i := 3) sc_w_row_sum.nd rfl (.inl rfl)) pgs_nil)))) (fun _ _ _ _ _ => pts_nil) (fun _ _ _ _ _ => (pcall T.w_sum (ok_w_sum T) (hr.mono (by decide)) (pa_cons (pv 2) (pa_cons (pv 3) pa_nil))))) pa_nil))))), ?_⟩
    refine st_ret' (VS.imp (vs_tuple (Z := iQ K) mQ (vs_lcP (R := iQ K) (S := iQ K) (Z := iQ K) robQ mQ (fun p => p.1 + p.2) (ws_zip mQ mQ (k1 := true) (k2 := true) (va2 (val_var rfl) (val_var rfl)) h1 h2) (by rw [List.length_zip]; exact sizeLine_ge (by omega)) (fun _ _ => rfl) fun x y vx vy H2 hm t2 hx hy => ?_)) fun r H2 t2 hr => ?_) fun r H2 t2 hr => q r H2 t2 hr
    · have m1 := List.of_mem_zip hm
      exact VS.el (vs_QQ (va2 (val_var rfl) (val_var rfl)) hx hy ⟨s1 x m1.1, s2 y m1.2⟩)
    · have e : (xs.zip ys).map (fun p => p.1 + p.2) = List.zipWith (· + ·) xs ys := by rw [List.zip, List.map_zipWith]
      rw [← e]; exact hr
def spWRowTimes (K : PySem.W.Frag) : Sp := fun vs H Q _ => ∃ v u xs y, vs = [v, u] ∧ iRow K H v xs ∧ iQ K H u y ∧ Small 4000 xs ∧ Sz 4000 y ∧ xs.length ≤ 1000 ∧ ∀ r H', Same H H' → iRow K H' r (xs.map fun x => x * y) → Q r H'
theorem sc_w_row_times : FnScope ["_law_one", "_law_x", "_law_y"] ["_law_one", "_law_x"] (defScope s_w_row_times) := ⟨rfl, rfl, rfl, by decide +kernel, rfl, by decide +kernel, by decide +kernel⟩
theorem ok_w_row_times (T : Txt K mg) : FnOk P w K mg base CX0 4 T.w_row_times.f T.w_row_times.fd ["_law_one", "_law_x"] (spWRowTimes K) := by
  refine T.w_row_times.F.ok sc_w_row_times (fun vs H Q E h => ?_) (fun cdv A outer s H vs Q E hr h => ?_)
  · obtain ⟨_, _, _, _, rfl, _⟩ := h; rfl
  · obtain ⟨v, u, xs, y, rfl, h1, h2, s1, s2, hl, q⟩ := h
    refine ⟨_, (PSs.nox (pss_one (ps_ret (pe_callTy (k_tuple K) rfl T.b_tuple (by decide +kernel) (pa_cons (pe_lc (own := [("_law_y", 2)]) (g := (gName 2)) (tt := tYes) rfl sc_w_row_times.nd (pi_tupK K (pv 0)) (blkOk_by (N := ["_law_one", "_law_x", "_law_y"]) (sc := defScope s_w_row_times) (by decide +kernel)) (fun _ _ _ _ _ => (pg_name (i := 2) sc_w_row_times.nd rfl (.inl rfl))) (fun _ _ _ _ _ => pts_nil) (fun _ _ _ _ _ => (pcall T.w_times (ok_w_times T) (hr.mono (by decide)) (pa_cons (pv 2) (pa_cons (pv 1) pa_nil))))) pa_nil))))), ?_⟩
    refine st_ret' (vs_tuple (Z := iQ K) mQ (vs_lcN (R := iQ K) (Z := iQ K) robQ mQ (fun x => x * y) (ws_tup mQ (vsv (val_var rfl) h1)) (sizeLine_ge hl) (fun _ => rfl) fun x vx H2 hm t2 hx => VS.el (vs_QQ (va2 (val_var rfl) (val_var rfl)) hx (mQ.to t2 h2) ⟨s1 x hm, s2⟩))) fun r H2 t2 hr => q r H2 t2 hr
def spWLonger (K : PySem.W.Frag) : Sp := fun vs H Q _ => ∃ v rows, vs = [v] ∧ iCols K H v rows ∧ rows.length ≤ 1000 ∧ (∀ r ∈ rows, r.length ≤ 900) ∧ ∀ u H', Same H H' → iCols K H' u (Mx.longer rows) → Q u H'
theorem vs_tupleT {α : Type} {Z : Rp α} {σ : L2.St} {H : Hp} {te : TE} {zs : List α} (h : VS te σ H (fun u H' => iT K Z H' u zs)) : VS (tCB (rTupK K) (tCons te tNil)) σ H (fun u H' => iT K Z H' u zs) := fun Q k =>
  h _ fun v H' s ⟨p, ys, e, hp, q⟩ => ⟨p, ys, by rw [e], .inr ⟨hp, k _ _ s ⟨p, ys, rfl, hp, q⟩⟩⟩
theorem sc_w_longer : FnScope ["_law_rows", "_law_one"] ["_law_rows"] (defScope s_w_longer) := ⟨rfl, rfl, rfl, by decide +kernel, rfl, by decide +kernel, by decide +kernel⟩
theorem ok_w_longer (T : Txt K mg) : FnOk P w K mg base CX0 1 T.w_longer.f T.w_longer.fd ["_law_rows"] (spWLonger K) := by
  refine T.w_longer.F.ok sc_w_longer (fun vs H Q E h => ?_) (fun cdv A outer s H vs Q E hr h => ?_)
  · obtain ⟨_, _, rfl, _⟩ := h; rfl
  · obtain ⟨v, rows, rfl, h1, hl, hr, q⟩ := h
    refine ⟨_, (PSs.nox (pss_one (ps_ret (pe_lc (own := [("_law_one", 1)]) (g := (gName 1)) (tt := tYes) rfl sc_w_longer.nd (pi_listK K (pv 0)) (blkOk_by (N := ["_law_rows", "_law_one"]) (sc := defScope s_w_longer) (by decide +kernel)) (fun _ _ _ _ _ => (pg_name (i := 1) sc_w_longer.nd rfl (.inl rfl))) (fun _ _ _ _ _ => pts_nil) (fun _ _ _ _ _ => (pe_op (op_catAK K) (pe_callTy (k_tuple K) rfl T.b_tuple (by decide +kernel) (pa_cons (pv 1) pa_nil)) (pe_tup (pa_cons (pe_tup (pa_cons pe_int (pa_cons pe_int pa_nil))) pa_nil)))))))), ?_⟩
    refine st_ret' (vs_lcN (R := iRow K) (Z := iRow K) robRow mRow (fun r => r ++ [1]) (ws_list mRow (vsv (val_var rfl) h1)) (sizeLine_ge hl) (fun _ => rfl) fun r vr H2 hm t2 hx => VS.el (vs_catT mQ (vs_tupleT (vsv (val_var rfl) hx)) (fun H3 s3 => vs_tup1 mQ (vs_lit (K := K) (q := 1) rfl rfl)) (sizeLine_ge (by have := hr r hm; show _ + 1 ≤ 1000; omega)))) fun u H2 t2 ⟨a, e, _, hn⟩ => by
      rw [e]; exact q _ H2 t2 hn.iL
/-- costs times amounts -/
theorem sc_w_cost : FnScope ["_law_costs", "_law_amounts", "_law_x", "_law_y"] ["_law_costs", "_law_amounts"] (defScope s_w_cost) := ⟨rfl, rfl, rfl, by decide +kernel, rfl, by decide +kernel, by decide +kernel⟩
theorem ok_w_cost (T : Txt K mg) : FnOk P w K mg base CX0 5 T.w_cost.f T.w_cost.fd ["_law_costs", "_law_amounts"] (spCostOf K) := by
  refine T.w_cost.F.ok sc_w_cost (fun vs H Q E h => ?_) (fun cdv A outer s H vs Q E hr h => ?_)
  · obtain ⟨_, _, _, _, _, _, rfl, _⟩ := h; rfl
  · obtain ⟨v, u, xs, ys, a, b, rfl, hx, hy, sx, sy, hb, q⟩ := h
    refine ⟨_, (PSs.nox (pss_one (ps_ret (pcall T.w_all (ok_w_all T) (hr.mono (by decide)) (pa_cons (pe_lc (own := [("_law_x", 2), ("_law_y", 3)]) (g := (gTup K 2 (gCons (gName 2) (gCons (gName 3) gNil)))) (tt := tYes) rfl sc_w_cost.nd (pi_zipK K false true rfl T.b_zip (pa_cons (pv 0) (pa_cons (pv 1) pa_nil))) (blkOk_by (N := ["_law_costs", "_law_amounts", "_law_x", "_law_y"]) (sc := defScope s_w_cost) (by decide +kernel)) (fun _ _ _ _ _ => (pg_tup rfl (pgs_cons (pg_name (i := 2) sc_w_cost.nd rfl (.inl rfl)) (pgs_cons (pg_name (i := 3) sc_w_cost.nd rfl (.inl rfl)) pgs_nil)))) (fun _ _ _ _ _ => pts_nil) (fun _ _ _ _ _ => (pcall T.w_times (ok_w_times T) (hr.mono (by decide)) (pa_cons (pv 2) (pa_cons (pv 3) pa_nil))))) pa_nil))))), ?_⟩
    have hlen : (xs.zip ys).length ≤ xs.length := by rw [List.length_zip]; omega
    have hl4 : xs.length ≤ 4000 := by
      have := Nat.le_mul_of_pos_right xs.length (show 0 < a + b + 1 by omega)
      omega
    refine st_ret' (vs_callS (R := fun r H' => iQ K H' r (dotL xs ys)) (vsa1 (vs_lcP (R := iQ K) (S := iQ K) (Z := iQ K) robQ mQ (fun p => p.1 * p.2) (ws_zip mQ mQ (k1 := false) (k2 := true) (va2 (val_var rfl) (val_var rfl)) hx hy) (Nat.le_trans hlen (Nat.le_trans hl4 (by decide))) (fun _ _ => rfl) fun x y vx vy H1 hm s1 h1 h2 => ?_)) ?_) fun r H' s hr => q r H' s hr
    · have m1 := List.of_mem_zip hm
      exact VS.el (vs_QQ (va2 (val_var rfl) (val_var rfl)) h1 h2 ⟨(sx x m1.1).mono (by omega), (sy y m1.2).mono (by omega)⟩)
    · rintro vs H1 s1 ⟨y, rfl, p, rfl, hp, hn⟩ Q' k
      refine ⟨_, _, a + b, rfl, hn.iL, fun z hz => ?_, ?_, fun r H' s hr => k r H' s hr⟩
      · obtain ⟨p, hp, rfl⟩ := List.mem_map.mp hz
        exact sz_mul (sx _ (List.of_mem_zip hp).1) (sy _ (List.of_mem_zip hp).2)
      · rw [List.length_map]
        have := Nat.mul_le_mul_right (a + b + 1) hlen
        omega
end
end K19
namespace K19
open PySem PySem.Spec L2
section
variable {P : Program} {w : World} {K : PySem.W.Frag} {mg : Str → Option Value} {base : Heap}
/-- q * a is an integer of size at most b -/
def Gr (a b : Nat) (q : Rat) : Prop := ∃ z : Int, q * (a : Int) = z ∧ z.natAbs ≤ b
theorem Gr.add {a b c : Nat} {x y : Rat} (h : Gr a b x) (g : Gr a c y) : Gr a (b + c) (x + y) := by
  obtain ⟨z, e, hz⟩ := h
  obtain ⟨u, e2, hu⟩ := g
  refine ⟨z + u, ?_, by have := Int.natAbs_add_le z u; omega⟩
  rw [Rat.intCast_add, ← e, ← e2]; grind
theorem Gr.mul {a b c d : Nat} {x y : Rat} (h : Gr a b x) (g : Gr c d y) : Gr (a * c) (b * d) (x * y) := by
  obtain ⟨z, e, hz⟩ := h
  obtain ⟨u, e2, hu⟩ := g
  refine ⟨z * u, ?_, by rw [Int.natAbs_mul]; exact Nat.mul_le_mul hz hu⟩
  rw [Rat.intCast_mul, ← e, ← e2, Int.natCast_mul, Rat.intCast_mul]; grind
theorem Gr.zero {a b : Nat} : Gr a b 0 := ⟨0, by grind, Nat.zero_le _⟩
theorem Gr.mono {a b c : Nat} {x : Rat} (h : Gr a b x) (e : b ≤ c) : Gr a c x := let ⟨z, h1, h2⟩ := h; ⟨z, h1, by omega⟩
theorem Gr.sz {a b k : Nat} {x : Rat} (h : Gr a b x) (ha : 0 < a) (h1 : a < 2 ^ k) (h2 : b < 2 ^ k) (hk : 1 ≤ k) : Sz k x := by
  obtain ⟨z, e, hz⟩ := h
  have h0 : (((a : Int)) : Rat) ≠ 0 := fun y => by
    have : (((a : Int)) : Rat) = ((0 : Int) : Rat) := y
    have := Rat.intCast_inj.mp this
    omega
  have e2 : x = Rat.divInt z (a : Int) := by
    rw [Rat.divInt_eq_div, ← e, Rat.div_def, Rat.mul_assoc, Rat.mul_inv_cancel _ h0, Rat.mul_one]
  rw [e2]
  exact sz_divInt (by unfold Bd; omega) (by unfold Bd; rw [Int.natAbs_natCast]; exact h1) hk
theorem Gr.lim {b : Nat} {x : Rat} (h : Gr 12 b x) (e : b ≤ 2880) : Lim x := let ⟨z, h1, h2⟩ := h; ⟨z, h1, by omega⟩
theorem Gr.lim6 {b : Nat} {x : Rat} (h : Gr 6 b x) (e : b ≤ 1440) : Lim x := by
  obtain ⟨z, h1, h2⟩ := h
  refine ⟨2 * z, ?_, by rw [Int.natAbs_mul]; show 2 * z.natAbs ≤ 2880; omega⟩
  rw [Rat.intCast_mul, ← h1]
  have : ((2 : Int) : Rat) = 2 := rfl
  have : (((6 : Nat) : Int) : Rat) = 6 := rfl
  grind
/-- rows with amounts, put together -/
def spWReached (K : PySem.W.Frag) : Sp := fun vs H Q _ => ∃ v u cols xs, ∃ m a b c d : Nat, vs = [v, u, .int (m : Int)] ∧ iCols K H v cols ∧ iL K (iQ K) H u xs ∧ (∀ r ∈ cols, r.length = m ∧ ∀ x ∈ r, Gr a b x) ∧ (∀ x ∈ xs, Gr c d x) ∧ cols.length ≤ 5 ∧ xs.length = cols.length ∧ m ≤ 100 ∧
  0 < a ∧ 0 < c ∧ a < 2 ^ 20 ∧ b < 2 ^ 20 ∧ c < 2 ^ 20 ∧ d < 2 ^ 20 ∧ ∀ r H' zs, Same H H' → iRow K H' r zs → zs.length = m → (∀ z ∈ zs, Gr (a * c) (cols.length * (b * d)) z) → Q r H'
theorem sc_w_reached : FnScope ["_law_columns", "_law_amounts", "_law_many", "_law_found", "_law_one", "_law_x"] ["_law_columns", "_law_amounts", "_law_many"] (defScope s_w_reached) := ⟨rfl, rfl, rfl, by decide +kernel, rfl, by decide +kernel, by decide +kernel⟩
theorem ok_w_reached (T : Txt K mg) : FnOk P w K mg base CX0 5 T.w_reached.f T.w_reached.fd ["_law_columns", "_law_amounts", "_law_many"] (spWReached K) := by
  refine T.w_reached.F.ok sc_w_reached (fun vs H Q E h => ?_) (fun cdv A outer s H vs Q E hr h => ?_)
  · obtain ⟨_, _, _, _, _, _, _, _, _, rfl, _⟩ := h; rfl
  · obtain ⟨v, u, cols, xs, m, a, b, c, d, rfl, h1, h2, hc, hx, l1, l2, hm, a0, c0, ba, bb, bc, bd, q⟩ := h
    refine ⟨_, (PSs.nox (pss_cons (ps_set (i := 3) sc_w_reached.nd rfl (.inl rfl) (pe_callTy (k_tuple K) rfl T.b_tuple (by decide +kernel) (pa_cons (pe_op op_rep (pe_lst (pa_cons (pe_tup (pa_cons pe_int (pa_cons pe_int pa_nil))) pa_nil)) (pv 2)) pa_nil))) (pss_cons (ps_for PassesOwn.never rfl (pi_zipK K false false rfl T.b_zip (pa_cons (pv 0) (pa_cons (pv 1) pa_nil))) (pg_tup rfl (pgs_cons (pg_name (i := 4) sc_w_reached.nd rfl (.inl rfl)) (pgs_cons (pg_name (i := 5) sc_w_reached.nd rfl (.inl rfl)) pgs_nil))) (pss_one (ps_set (i := 3) sc_w_reached.nd rfl (.inl rfl) (pcall T.w_row_sum (ok_w_row_sum T) (hr.mono (by decide)) (pa_cons (pv 3) (pa_cons (pcall T.w_row_times (ok_w_row_times T) (hr.mono (by decide)) (pa_cons (pv 4) (pa_cons (pv 5) pa_nil))) pa_nil)))))) (pss_one (ps_ret (pv 3)))))), ?_⟩
    refine st_seq (st_set' (R := fun r H' => iRow K H' r (List.replicate m 0)) (vs_tuple mQ (vs_rep (x := (0 : Rat)) (n := m) mQ (vs_lit (K := K) (q := 0) rfl rfl) (fun H1 s1 => val_var rfl) (by omega))) fun f H1 s1 hf => ?_)
    dsimp only
    have hmul : a * c < 2 ^ 40 := Nat.lt_of_lt_of_le (Nat.mul_lt_mul'' ba bc) (by decide)
    have hbd : b * d < 2 ^ 40 := Nat.lt_of_lt_of_le (Nat.mul_lt_mul'' bb bd) (by decide)
    refine st_seq (st_for (R := iP K (iRow K) (iQ K)) (xs := cols.zip xs) (fun i σ H' => ∃ r z1 z2 zs, σ = [some v, some u, some (.int (m : Int)), some r, z1, z2] ∧ iRow K H' r zs ∧ zs.length = m ∧ ∀ z ∈ zs, Gr (a * c) (i * (b * d)) z) (ws_zip mRow mQ (k1 := false) (k2 := false) (va2 (val_var rfl) (val_var rfl)) (mCols.to s1 h1) ((mL mQ).to s1 h2)) (fun H2 s2 => ⟨f, none, none, _, rfl, mRow.to s2 hf, List.length_replicate, fun z hz => by rw [List.eq_of_mem_replicate hz]; exact Gr.zero⟩) ?_ ?_)
    · rintro i p vp σ1 H2 H3 N hp ⟨r, z1, z2, zs, rfl, hr, hrl, hrz⟩ s2 s3 hp2 hN
      obtain ⟨col, x⟩ := p
      have hi := (List.getElem?_eq_some_iff.mp hp).1
      rw [List.length_zip] at hi
      have m1 := List.of_mem_zip (List.mem_of_getElem? hp)
      refine g_pair hp2 fun vc vx hvc hvx => ?_
      have hzs : ∀ z ∈ zs, Sz 45 z := fun z hz => (hrz z hz).sz (Nat.mul_pos a0 c0) (by omega) (by
        have : i * (b * d) ≤ 5 * (b * d) := Nat.mul_le_mul_right _ (by omega)
        omega) (by decide)
      have hcs : Small 20 col := fun y hy => ((hc col m1.1).2 y hy).sz a0 ba bb (by decide)
      have hxs : Sz 20 x := (hx x m1.2).sz c0 bc bd (by decide)
      have hcl := (hc col m1.1).1
      dsimp only
      refine st_set' (R := fun r' H' => iRow K H' r' (List.zipWith (· + ·) zs (col.map fun y => y * x))) (vs_callS (vsa2 (val_var rfl) (vs_call (R := fun r' H' => iRow K H' r' (col.map fun y => y * x)) (va2 (val_var rfl) (val_var rfl)) fun Q' k => ⟨vc, vx, col, x, rfl, hvc, hvx, fun y hy => (hcs y hy).mono (by decide), hxs.mono (by decide), by omega, fun r' H' s hr' => k r' H' s hr'⟩)) ?_) fun r' H4 s4 hr' => hN _ _ s4 ⟨r', _, _, _, rfl, hr', ?_, ?_⟩
      · rintro vs H4 s4 ⟨y, rfl, hy⟩ Q' k
        refine ⟨r, y, zs, _, rfl, mRow.to (s3.trans s4) hr, hy, fun z hz => (hzs z hz).mono (by decide), fun z hz => ?_, by omega, fun r' H' s hr' => k r' H' s hr'⟩
        obtain ⟨y', hy', rfl⟩ := List.mem_map.mp hz
        exact (sz_mul (hcs y' hy') hxs).mono (by decide)
      · rw [List.length_zipWith, List.length_map, hrl, hcl]; omega
      · intro z hz
        rw [← List.map_uncurry_zip_eq_zipWith] at hz
        obtain ⟨⟨p1, p2⟩, hp', rfl⟩ := List.mem_map.mp hz
        have m2 := List.of_mem_zip hp'
        obtain ⟨y', hy', rfl⟩ := List.mem_map.mp m2.2
        show Gr (a * c) ((i + 1) * (b * d)) (p1 + y' * x)
        rw [Nat.succ_mul]
        exact (hrz _ m2.1).add (((hc col m1.1).2 y' hy').mul (hx x m1.2))
    · rintro σ1 H2 s2 ⟨r, z1, z2, zs, rfl, hr, hrl, hrz⟩
      have e : (cols.zip xs).length = cols.length := by rw [List.length_zip]; omega
      rw [e] at hrz
      dsimp only
      exact st_ret (val_var rfl) (q r H2 zs (s1.trans s2) hr hrl hrz)
end
end K19
namespace K19
open PySem PySem.Spec L2
/-! ### the sum turned about, as lists -/
def unitRow (n k : Nat) : List Rat := rowQ n fun j => if j = k then 1 else 0
def lineOf (cols : List (List Rat)) (i : Nat) : List Rat := cols.map fun c => Mx.vF c i
def linesOf (cols : List (List Rat)) (m : Nat) : List (List Rat) := (List.range m).map (lineOf cols)
def turnCols (cols : List (List Rat)) (m : Nat) : List (List Rat) := linesOf cols m ++ (linesOf cols m).map (fun r => r.map fun x => x * (-1)) ++ (List.range cols.length).map (unitRow cols.length)
def turnCosts (ts : List Rat) (n : Nat) : List Rat := ts.map (fun x => x * (-1)) ++ ts ++ List.replicate n 0
section
variable {cols : List (List Rat)} {cs ts : List Rat} {m n : Nat}
theorem lines_len : (linesOf cols m).length = m := by unfold linesOf; simp
theorem line_len {i : Nat} : (lineOf cols i).length = cols.length := List.length_map _
theorem turn_len : (turnCols cols m).length = m + m + cols.length := by
  unfold turnCols
  simp [lines_len]
  omega
theorem tcost_len : (turnCosts ts n).length = ts.length + ts.length + n := by unfold turnCosts; simp; omega
theorem turn_lp (lp : LP cols cs ts) (h5 : cols.length ≤ 5) (h3 : ts.length ≤ 3) : LP (turnCols cols ts.length) (turnCosts ts cols.length) cs where
  pos := by rw [turn_len]; have := lp.pos; omega
  few := by rw [turn_len]; omega
  low := by rw [lp.cl]; exact h5
  cl := by rw [turn_len, tcost_len]
  rl := fun c hc => by
    rw [lp.cl]
    rcases List.mem_append.mp hc with h | h
    · rcases List.mem_append.mp h with h | h
      · obtain ⟨i, _, rfl⟩ := List.mem_map.mp h
        exact line_len
      · obtain ⟨r, hr, rfl⟩ := List.mem_map.mp h
        obtain ⟨i, _, rfl⟩ := List.mem_map.mp hr
        rw [List.length_map]; exact line_len
    · obtain ⟨k, _, rfl⟩ := List.mem_map.mp h
      exact rowQ_len
  la := fun c hc x hx => by
    have hline : ∀ i, i < ts.length → ∀ y ∈ lineOf cols i, Lim y := fun i hi y hy => by
      obtain ⟨d, hd, rfl⟩ := List.mem_map.mp hy
      exact lp.la d hd _ (List.mem_of_getElem? (get_vF (by rw [lp.rl d hd]; exact hi)))
    rcases List.mem_append.mp hc with h | h
    · rcases List.mem_append.mp h with h | h
      · obtain ⟨i, hi, rfl⟩ := List.mem_map.mp h
        exact hline i (List.mem_range.mp hi) x hx
      · obtain ⟨r, hr, rfl⟩ := List.mem_map.mp h
        obtain ⟨i, hi, rfl⟩ := List.mem_map.mp hr
        obtain ⟨y, hy, rfl⟩ := List.mem_map.mp hx
        have := lim_neg (hline i (List.mem_range.mp hi) y hy)
        rw [show y * (-1) = -y by grind]; exact this
    · obtain ⟨k, _, rfl⟩ := List.mem_map.mp h
      unfold unitRow rowQ at hx
      obtain ⟨j, _, rfl⟩ := List.mem_map.mp hx
      split
      · exact lim1
      · exact lim0
  lc := fun x hx => by
    rcases List.mem_append.mp hx with h | h
    · rcases List.mem_append.mp h with h | h
      · obtain ⟨y, hy, rfl⟩ := List.mem_map.mp h
        rw [show y * (-1) = -y by grind]; exact lim_neg (lp.lt y hy)
      · exact lp.lt x h
    · rw [List.eq_of_mem_replicate h]; exact lim0
  lt := lp.lc
theorem getD_app {xs ys : List (List Rat)} {l : Nat} : (xs ++ ys).getD l [] = if l < xs.length then xs.getD l [] else ys.getD (l - xs.length) [] := by
  rw [List.getD_eq_getElem?_getD, List.getElem?_append]
  split <;> rw [← List.getD_eq_getElem?_getD]
theorem line_at {i j : Nat} (hj : j < cols.length) : Mx.vF (lineOf cols i) j = Mx.colF cols j i := by
  unfold lineOf Mx.colF
  show (cols.map fun c => Mx.vF c i).getD j 0 = _
  rw [Mx.getD_map (e := []) hj]
theorem lines_at {l : Nat} (hl : l < m) : (linesOf cols m).getD l [] = lineOf cols l := by
  unfold linesOf
  rw [Mx.getD_map (e := 0) (by simpa using hl), List.getD_eq_getElem?_getD]
  simp [hl]
theorem turn_at {l j : Nat} (hl : l < m + m + cols.length) (hj : j < cols.length) : Mx.colF (turnCols cols m) l j = Mx.ta m (Mx.colF cols) l j := by
  unfold Mx.ta
  show Mx.vF ((turnCols cols m).getD l []) j = _
  unfold turnCols
  rw [getD_app]
  have hlen : (linesOf cols m ++ (linesOf cols m).map (fun r : List Rat => r.map fun x => x * (-1))).length = m + m := by rw [List.length_append, List.length_map, lines_len]
  rw [hlen]
  by_cases h1 : l < m
  · rw [if_pos (by omega), if_pos h1, getD_app, lines_len, if_pos h1, lines_at h1, line_at hj]
  · by_cases h2 : l < m + m
    · rw [if_pos h2, if_neg h1, if_pos h2, getD_app, lines_len, if_neg h1, Mx.getD_map (e := []) (by rw [lines_len]; omega), lines_at (by omega)]
      show ((lineOf cols (l - m)).map fun x => x * (-1)).getD j 0 = _
      rw [Mx.getD_map (e := 0) (by rw [line_len]; exact hj)]
      have := line_at (cols := cols) (i := l - m) hj
      unfold Mx.vF at this
      rw [this]; grind
    · rw [if_neg h2, if_neg h1, if_neg h2, Mx.getD_map (e := 0) (by rw [List.length_range]; omega)]
      have e : (List.range cols.length).getD (l - (m + m)) 0 = l - (m + m) := by
        rw [List.getD_eq_getElem?_getD]; simp [show l - (m + m) < cols.length by omega]
      rw [e]
      unfold unitRow
      rw [vQ hj]
      by_cases z : j = l - (m + m)
      · rw [if_pos z, if_pos z.symm]
      · rw [if_neg z, if_neg (fun y => z y.symm)]
theorem tcost_at {l : Nat} (hl : l < ts.length + ts.length + n) : Mx.vF (turnCosts ts n) l = Mx.tc ts.length (Mx.vF ts) l := by
  unfold Mx.tc turnCosts
  rw [Mx.vF_append, List.length_append, List.length_map]
  by_cases h1 : l < ts.length
  · rw [if_pos (by omega), if_pos h1, Mx.vF_append, List.length_map, if_pos h1]
    show (ts.map fun x => x * (-1)).getD l 0 = _
    rw [Mx.getD_map (e := 0) h1]
    show Mx.vF ts l * (-1) = _
    grind
  · by_cases h2 : l < ts.length + ts.length
    · rw [if_pos h2, if_neg h1, if_pos h2, Mx.vF_append, List.length_map, if_neg h1]
    · rw [if_neg h2, if_neg h1, if_neg h2, vF_rep0]
end
end K19
namespace K19
open PySem PySem.Spec L2
section
variable {P : Program} {w : World} {K : PySem.W.Frag} {mg : Str → Option Value} {base : Heap}
def spTurned (K : PySem.W.Frag) : Sp := fun vs H Q _ => ∃ v1 v2 v3 cols cs ts, vs = [v1, v2, v3] ∧ iCols K H v1 cols ∧ iL K (iQ K) H v2 cs ∧ iRow K H v3 ts ∧ LP cols cs ts ∧ cols.length ≤ 5 ∧ ts.length ≤ 3 ∧
  ∀ a x y z H', Same H H' → SqT K H' a [x, y, z] → iCols K H' x (turnCols cols ts.length) → iL K (iQ K) H' y (turnCosts ts cols.length) → iRow K H' z cs → Q (.ref a) H'
theorem vs_m1 {σ : L2.St} {H : Hp} : VS (tTup (tCons (tOp (rI0 fun i j => V.int (i - j)) (tC (.int 0)) (tC (.int 1))) (tCons (tC (.int 1)) tNil))) σ H (fun v H' => iQ K H' v (-1)) := fun Q k =>
  t_tup (ValA.vsa (R := fun vs _ => vs = [.int (0 - 1), .int 1]) (va2 (vsub val_c val_c) val_c) rfl) fun vs H1 s1 e => by
    subst e
    exact ⟨by show 2 ≤ sizeLine; decide, fun p hp => k _ _ (s1.trans (same_new hp)) ⟨p, rfl, SqT.of upd_same⟩⟩
theorem sc_w_turned : FnScope ["_law_columns", "_law_costs", "_law_target", "_law_many", "_law_lines", "_law_i", "_law_one", "_law_units", "_law_k", "_law_j", "_law_others", "_law_prices", "_law_x"] ["_law_columns", "_law_costs", "_law_target"] (defScope s_w_turned) := ⟨rfl, rfl, rfl, by decide +kernel, rfl, by decide +kernel, by decide +kernel⟩
theorem ok_w_turned (T : Txt K mg) : FnOk P w K mg base CX0 5 T.w_turned.f T.w_turned.fd ["_law_columns", "_law_costs", "_law_target"] (spTurned K) := by
  refine T.w_turned.F.ok sc_w_turned (fun vs H Q E h => ?_) (fun cdv A outer s H vs Q E hr h => ?_)
  · obtain ⟨_, _, _, _, _, _, rfl, _⟩ := h; rfl
  · obtain ⟨v1, v2, v3, cols, cs, ts, rfl, h1, h2, h3, lp, l5, l3, q⟩ := h
    refine ⟨_, (PSs.nox (pss_cons (ps_set (i := 3) sc_w_turned.nd rfl (.inr rfl) (pe_callB (k_len K) rfl T.b_len (by decide +kernel) (pa_cons (pv 0) pa_nil))) (pss_cons (ps_setLc (i := 4) (own := [("_law_i", 5)]) (g := (gName 5)) (tt := tYes) rfl sc_w_turned.nd rfl rfl (sw_true rfl rfl rfl (by decide +kernel)) (pi_range1 rfl T.b_range (pa_cons (pe_callB (k_len K) rfl T.b_len (by decide +kernel) (pa_cons (pv 2) pa_nil)) pa_nil)) (blkOk_by (N := ["_law_columns", "_law_costs", "_law_target", "_law_many", "_law_lines", "_law_i", "_law_one", "_law_units", "_law_k", "_law_j", "_law_others", "_law_prices", "_law_x"]) (sc := defScope s_w_turned) (by decide +kernel)) (fun _ _ _ _ _ => (pg_name (i := 5) sc_w_turned.nd rfl (.inr rfl))) (fun _ _ _ _ _ => pts_nil) (fun _ _ _ _ _ => (pe_callTy (k_tuple K) rfl T.b_tuple (by decide +kernel) (pa_cons (pe_lc (own := [("_law_one", 6)]) (g := (gName 6)) (tt := tYes) rfl sc_w_turned.nd (pi_listK K (pv 0)) (blkOk_by (by kernel_rfl)) (fun _ _ _ _ _ => (pg_name (i := 6) sc_w_turned.nd rfl (.inl rfl))) (fun _ _ _ _ _ => pts_nil) (fun _ _ _ _ _ => (pe_ix (ix_tupK K) (pv 6) (pv 5) (fun _ _ => rfl)))) pa_nil)))) (pss_cons (ps_setLc (i := 7) (own := [("_law_k", 8)]) (g := (gName 8)) (tt := tYes) rfl sc_w_turned.nd rfl rfl (sw_true rfl rfl rfl (by decide +kernel)) (pi_range1 rfl T.b_range (pa_cons (pv 3) pa_nil)) (blkOk_by (N := ["_law_columns", "_law_costs", "_law_target", "_law_many", "_law_lines", "_law_i", "_law_one", "_law_units", "_law_k", "_law_j", "_law_others", "_law_prices", "_law_x"]) (sc := defScope s_w_turned) (by decide +kernel)) (fun _ _ _ _ _ => (pg_name (i := 8) sc_w_turned.nd rfl (.inr rfl))) (fun _ _ _ _ _ => pts_nil) (fun _ _ _ _ _ => (pe_callTy (k_tuple K) rfl T.b_tuple (by decide +kernel) (pa_cons (pe_lc (own := [("_law_j", 9)]) (g := (gName 9)) (tt := tYes) rfl sc_w_turned.nd (pi_range1 rfl T.b_range (pa_cons (pv 3) pa_nil)) (blkOk_by (by kernel_rfl)) (fun _ _ _ _ _ => (pg_name (i := 9) sc_w_turned.nd rfl (.inl rfl))) (fun _ _ _ _ _ => pts_nil) (fun _ _ _ _ _ => (pe_ifExp (pt_cmpR op_eq (pv 9) (pv 8) (nomark _)) (pe_tup (pa_cons pe_int (pa_cons pe_int pa_nil))) (pe_tup (pa_cons pe_int (pa_cons pe_int pa_nil)))))) pa_nil)))) (pss_cons (ps_setLc (i := 10) (own := [("_law_one", 6)]) (g := (gName 6)) (tt := tYes) rfl sc_w_turned.nd rfl rfl (sw_true rfl rfl rfl (by decide +kernel)) (pi_listK K (pv 4)) (blkOk_by (N := ["_law_columns", "_law_costs", "_law_target", "_law_many", "_law_lines", "_law_i", "_law_one", "_law_units", "_law_k", "_law_j", "_law_others", "_law_prices", "_law_x"]) (sc := defScope s_w_turned) (by decide +kernel)) (fun _ _ _ _ _ => (pg_name (i := 6) sc_w_turned.nd rfl (.inl rfl))) (fun _ _ _ _ _ => pts_nil) (fun _ _ _ _ _ => (pcall T.w_row_times (ok_w_row_times T) (hr.mono (by decide)) (pa_cons (pv 6) (pa_cons (pe_tup (pa_cons (pe_op op_sub pe_int pe_int) (pa_cons pe_int pa_nil))) pa_nil))))) (pss_cons (ps_setLc (i := 11) (own := [("_law_x", 12)]) (g := (gName 12)) (tt := tYes) rfl sc_w_turned.nd rfl rfl (sw_true rfl rfl rfl (by decide +kernel)) (pi_tupK K (pv 2)) (blkOk_by (N := ["_law_columns", "_law_costs", "_law_target", "_law_many", "_law_lines", "_law_i", "_law_one", "_law_units", "_law_k", "_law_j", "_law_others", "_law_prices", "_law_x"]) (sc := defScope s_w_turned) (by decide +kernel)) (fun _ _ _ _ _ => (pg_name (i := 12) sc_w_turned.nd rfl (.inl rfl))) (fun _ _ _ _ _ => pts_nil) (fun _ _ _ _ _ => (pcall T.w_times (ok_w_times T) (hr.mono (by decide)) (pa_cons (pv 12) (pa_cons (pe_tup (pa_cons (pe_op op_sub pe_int pe_int) (pa_cons pe_int pa_nil))) pa_nil))))) (pss_one (ps_ret (pe_tup (pa_cons (pe_op op_cat (pe_op op_cat (pv 4) (pv 10)) (pv 7)) (pa_cons (pe_op op_cat (pe_op op_cat (pv 11) (pe_callTy (k_list K) rfl T.b_list (by decide +kernel) (pa_cons (pv 2) pa_nil))) (pe_op op_rep (pe_lst (pa_cons (pe_tup (pa_cons pe_int (pa_cons pe_int pa_nil))) pa_nil)) (pv 3))) (pa_cons (pe_callTy (k_tuple K) rfl T.b_tuple (by decide +kernel) (pa_cons (pv 1) pa_nil)) pa_nil)))))))))))), ?_⟩
    have hc := lp.cl
    have hup : ∀ {n : Nat}, ∀ k ∈ ups 0 ((n : Int)).toNat, ∃ k' : Nat, k = (k' : Int) ∧ k' < n := fun {n} k hm => by
      unfold ups at hm
      obtain ⟨k', hk', e⟩ := List.mem_map.mp hm
      have hk' := List.mem_range.mp hk'
      exact ⟨k', by rw [← e]; omega, by omega⟩
    refine st_seq (st_set (v_len (k1 := false) (R := iRow K) (val_var rfl) h1) ?_)
    dsimp only
    refine st_seq (st_set' (R := NewL (iRow K) H (linesOf cols ts.length)) (VS.imp (vs_lcN (R := iI) (Z := iRow K) robRow mRow (fun i => lineOf cols i.toNat) (ws_range1 (va1 (v_len (k1 := true) (R := iQ K) (val_var rfl) h3)) (by omega) (by omega)) (by rw [ups_len]; exact sizeLine_ge (by omega)) (fun _ => rfl) fun i vi H1 hm s1 hi => VS.el ?_) fun u H s h => ?_) fun u H1 s1 hu => ?_)
    · obtain ⟨i', rfl, hi'⟩ := hup i hm
      have hi : vi = .int (i' : Int) := hi
      subst hi
      rw [Int.toNat_natCast]
      refine vs_tuple mQ (vs_lcN (R := iRow K) (Z := iQ K) robQ mQ (fun c => Mx.vF c i') (ws_list mRow (vsv (val_var rfl) (mCols.to s1 h1))) (sizeLine_ge (by omega)) (fun _ => rfl) fun c vc H2 hm2 s2 hc2 => VS.el (vs_ixT (val_var rfl) (val_var rfl) hc2 (get_vF (by rw [lp.rl c hm2]; exact hi'))))
    · have e : (ups 0 ((ts.length : Int)).toNat).map (fun i => lineOf cols i.toNat) = linesOf cols ts.length := by
        rw [Int.toNat_natCast]
        unfold ups linesOf
        rw [List.map_map]
        exact List.map_congr_left fun k _ => by simp
      rw [← e]; exact h
    obtain ⟨la, rfl, _, hln⟩ := hu
    dsimp only
    refine st_seq (st_set' (R := NewL (iRow K) H1 ((List.range cols.length).map (unitRow cols.length))) (VS.imp (vs_lcN (R := iI) (Z := iRow K) robRow mRow (fun k => unitRow cols.length k.toNat) (ws_range1 (va1 (val_var rfl)) (by omega) (by omega)) (by rw [ups_len]; exact sizeLine_ge (by omega)) (fun _ => rfl) fun k vk H2 hm s2 hk => VS.el ?_) fun u H s h => ?_) fun u H2 s2 hu => ?_)
    · obtain ⟨k', rfl, hk'⟩ := hup k hm
      have hk : vk = .int (k' : Int) := hk
      subst hk
      rw [Int.toNat_natCast]
      refine VS.imp (vs_tuple mQ (vs_lcN (R := iI) (Z := iQ K) robQ mQ (fun j => if j = (k' : Int) then (1 : Rat) else 0) (ws_range1 (va1 (val_var rfl)) (by omega) (by omega)) (by rw [ups_len]; exact sizeLine_ge (by omega)) (fun _ => rfl) fun j vj H3 hm3 s3 hj => VS.el ?_)) fun u H s h => ?_
      · have hj : vj = .int j := hj
        subst hj
        refine vs_if (b := decide (j = (k' : Int))) (as_test (vsv (v_eq (val_var rfl) (val_var rfl) rfl) ?_)) (fun hb H s => by rw [if_pos (of_decide_eq_true hb)]; exact vs_lit (K := K) rfl rfl) fun hb H s => by rw [if_neg (of_decide_eq_false hb)]; exact vs_lit (K := K) rfl rfl
        rw [show decide (V.int j = V.int (k' : Int)) = decide (j = (k' : Int)) from decide_eq_decide.mpr ⟨fun h => by injection h, fun h => by rw [h]⟩]
      · have e : (ups 0 ((cols.length : Int)).toNat).map (fun j => if j = (k' : Int) then (1 : Rat) else 0) = unitRow cols.length k' := by
          rw [Int.toNat_natCast]
          unfold ups unitRow rowQ
          rw [List.map_map]
          refine List.map_congr_left fun j _ => ?_
          show (if (0 : Int) + (j : Int) = (k' : Int) then (1 : Rat) else 0) = if j = k' then 1 else 0
          by_cases z : j = k'
          · rw [if_pos z, if_pos (by omega)]
          · rw [if_neg z, if_neg (by omega)]
        rw [← e]; exact h
    · have e : (ups 0 ((cols.length : Int)).toNat).map (fun k => unitRow cols.length k.toNat) = (List.range cols.length).map (unitRow cols.length) := by
        rw [Int.toNat_natCast]
        unfold ups
        rw [List.map_map]
        exact List.map_congr_left fun k _ => by simp
      rw [← e]; exact h
    obtain ⟨ua, rfl, _, hun⟩ := hu
    have hln2 : nL (iRow K) H2 la (linesOf cols ts.length) := let ⟨vs, g1, g2⟩ := hln; ⟨vs, s2 _ _ g1, paired_mono mRow s2 g2⟩
    have hLlim : ∀ r ∈ linesOf cols ts.length, r.length = cols.length ∧ Small 12 r := fun r hr => by
      obtain ⟨i, hi, rfl⟩ := List.mem_map.mp hr
      refine ⟨line_len, fun x hx => ?_⟩
      obtain ⟨d, hd, rfl⟩ := List.mem_map.mp hx
      exact (lp.la d hd _ (List.mem_of_getElem? (get_vF (by rw [lp.rl d hd]; exact List.mem_range.mp hi)))).sz
    have hm1s : Sz 4000 (-1 : Rat) := limG.sz.mono (by decide)
    dsimp only
    refine st_seq (st_set' (R := NewL (iRow K) H2 ((linesOf cols ts.length).map fun r => r.map fun x => x * (-1))) (vs_lcN (R := iRow K) (Z := iRow K) robRow mRow (fun r => r.map fun x => x * (-1)) (ws_list mRow (vsv (val_var rfl) hln2.iL)) (by rw [lines_len]; exact sizeLine_ge (by omega)) (fun _ => rfl) fun r vr H3 hm s3 hr => VS.el (vs_callS (vsa2 (val_var rfl) (vs_m1 (K := K))) ?_)) fun u H3 s3 hu => ?_)
    · rintro vs H4 s4 ⟨y, rfl, hy⟩ Q' k
      exact ⟨_, _, r, -1, rfl, mRow.to s4 hr, hy, fun x hx => ((hLlim r hm).2 x hx).mono (by decide), hm1s, by rw [(hLlim r hm).1]; omega, fun z H5 s5 hz => k z H5 s5 hz⟩
    obtain ⟨oa, rfl, _, hon⟩ := hu
    dsimp only
    have s03 := s1.trans (s2.trans s3)
    refine st_seq (st_set' (R := NewL (iQ K) H3 (ts.map fun x => x * (-1))) (vs_lcN (R := iQ K) (Z := iQ K) robQ mQ (fun x => x * (-1)) (ws_tup mQ (vsv (val_var rfl) (mRow.to s03 h3))) (sizeLine_ge (by omega)) (fun _ => rfl) fun x vx H4 hm s4 hx => VS.el (vs_callS (vsa2 (val_var rfl) (vs_m1 (K := K))) ?_)) fun u H4 s4 hu => ?_)
    · rintro vs H5 s5 ⟨y, rfl, hy⟩ Q' k
      exact ⟨_, _, x, -1, rfl, mQ.to s5 hx, hy, ⟨(lp.lt x hm).sz.mono (by decide), hm1s⟩, fun z H6 s6 hz => k z H6 s6 hz⟩
    obtain ⟨pa, rfl, _, hpn⟩ := hu
    dsimp only
    refine st_rt2 ?_
    have s04 := s03.trans s4
    have keep : ∀ {a : Addr} {xs : List (List Rat)} {Ha Hb : Hp}, Same Ha Hb → nL (iRow K) Ha a xs → nL (iRow K) Hb a xs := fun s ⟨vs, g1, g2⟩ => ⟨vs, s _ _ g1, paired_mono mRow s g2⟩
    have keepQ : ∀ {a : Addr} {xs : List Rat} {Ha Hb : Hp}, Same Ha Hb → nL (iQ K) Ha a xs → nL (iQ K) Hb a xs := fun s ⟨vs, g1, g2⟩ => ⟨vs, s _ _ g1, paired_mono mQ s g2⟩
    refine t_tup (A := fun vs H' => ∃ x y z, vs = [x, y, z] ∧ iCols K H' x (turnCols cols ts.length) ∧ iL K (iQ K) H' y (turnCosts ts cols.length) ∧ iRow K H' z cs) (fun Q' k => ?_) fun vs H5 s5 ⟨x, y, z, e, g1, g2, g3⟩ => ?_
    · refine vs_cat mRow (VS.imp (vs_cat mRow (vsv (val_var (i := 4) (v := .ref la) rfl) ⟨la, rfl, keep (s3.trans s4) hln2⟩) (fun H5 s5 => vsv (val_var (i := 10) (v := .ref oa) rfl) ⟨oa, rfl, keep (s4.trans s5) hon⟩) (by rw [List.length_map, lines_len]; exact sizeLine_ge (by omega))) fun u H s h => h.n) (fun H5 s5 => vsv (val_var (i := 7) (v := .ref ua) rfl) ⟨ua, rfl, keep (s3.trans (s4.trans s5)) hun⟩) (by
        rw [List.length_append, List.length_map, List.length_map, lines_len, List.length_range]; exact sizeLine_ge (by omega)) _ fun x H5 s5 hx => ?_
      refine vs_cat mQ (VS.imp (vs_cat mQ (vsv (val_var (i := 11) (v := .ref pa) rfl) ⟨pa, rfl, keepQ s5 hpn⟩) (fun H6 s6 => VS.imp (vs_list (k1 := true) mQ (vsv (val_var (i := 2) (v := v3) rfl) (mRow.to (s04.trans (s5.trans s6)) h3))) fun u H s h => h.n) (by rw [List.length_map]; exact sizeLine_ge (by omega))) fun u H s h => h.n) (fun H6 s6 => VS.imp (vs_rep (x := (0 : Rat)) (n := cols.length) mQ (vs_lit (K := K) rfl rfl) (fun H7 s7 => val_var (i := 3) (v := .int (cols.length : Int)) rfl) (by omega)) fun u H s h => h.n) (by
        rw [List.length_append, List.length_map, List.length_replicate]; exact sizeLine_ge (by omega)) _ fun y H6 s6 hy => ?_
      refine vs_tupleL (Z := iQ K) mQ (vsv (val_var (i := 1) (v := v2) rfl) ((mL mQ).to (s04.trans (s5.trans s6)) h2)) _ fun z H7 s7 hz => ?_
      refine k _ _ (s5.trans (s6.trans s7)) ⟨x, y, z, rfl, ?_, ?_, hz⟩
      · obtain ⟨a, rfl, _, hn⟩ := hx
        exact (keep (s6.trans s7) hn).iL
      · obtain ⟨a, rfl, _, hn⟩ := hy
        exact (keepQ s7 hn).iL
    · subst e
      exact ⟨by show 3 ≤ sizeLine; decide, fun p hp => q p x y z _ ((s04.trans s5).trans (same_new hp)) (SqT.of upd_same) (mCols.to (same_new hp) g1) ((mL mQ).to (same_new hp) g2) (mRow.to (same_new hp) g3)⟩
end
end K19
namespace K19
open PySem PySem.Spec L2
/-! ### the source of the draws -/
def kvS (c : Addr) (l m t : Int) : List (Key × V) := [(Sum.inr ("cells" : Str), .ref c), (Sum.inr ("left" : Str), .int l), (Sum.inr ("mixed" : Str), .int m), (Sum.inr ("turn" : Str), .int t)]
section
variable {c d : Addr} {l m t : Int} {H H' H1 H2 : Hp} {ns : List Int}
theorem kvS_cells : valV (kvS c l m t) (Sum.inr ("cells" : Str)) = some (.ref c) := rfl
theorem kvS_left : valV (kvS c l m t) (Sum.inr ("left" : Str)) = some (.int l) := rfl
theorem kvS_mixed : valV (kvS c l m t) (Sum.inr ("mixed" : Str)) = some (.int m) := rfl
theorem kvS_turn : valV (kvS c l m t) (Sum.inr ("turn" : Str)) = some (.int t) := rfl
theorem putS_left {z : Int} : putK (kvS c l m t) (Sum.inr ("left" : Str)) (.int z) = kvS c z m t := rfl
theorem putS_turn {z : Int} : putK (kvS c l m t) (Sum.inr ("turn" : Str)) (.int z) = kvS c l m z := rfl
theorem mergeS : mergeK [] (kvS c l m t) = kvS c l m t := rfl
structure SrcAt (H : Hp) (d c : Addr) (ns : List Int) (l m t : Int) : Prop where
  d : H d = some (.dK (kvS c l m t))
  c : H c = some (.lst (ns.map V.int))
def Src (H : Hp) (d c : Addr) : Prop := ∃ ns l m t, SrcAt H d c ns l m t
theorem SrcAt.src (h : SrcAt H d c ns l m t) : Src H d c := ⟨ns, l, m, t, h⟩
theorem SrcAt.ne (h : SrcAt H d c ns l m t) : c ≠ d := ne_of h.c h.d (by intro z; cases z)
theorem SrcAt.same (h : SrcAt H d c ns l m t) (s : Same H H') : SrcAt H' d c ns l m t := ⟨s _ _ h.d, s _ _ h.c⟩
theorem Src.same (h : Src H d c) (s : Same H H') : Src H' d c := let ⟨ns, l, m, t, h⟩ := h; ⟨ns, l, m, t, h.same s⟩
theorem SrcAt.left (h : SrcAt H d c ns l m t) {z : Int} : SrcAt (upd H d (.dK (kvS c z m t))) d c ns z m t := ⟨upd_same, by rw [upd_ne h.ne]; exact h.c⟩
theorem SrcAt.turn (h : SrcAt H d c ns l m t) {z : Int} : SrcAt (upd H d (.dK (kvS c l m z))) d c ns l m z := ⟨upd_same, by rw [upd_ne h.ne]; exact h.c⟩
theorem SrcAt.cells (h : SrcAt H d c ns l m t) {ms : List Int} : SrcAt (upd H c (.lst (ms.map V.int))) d c ms l m t := ⟨by rw [upd_ne h.ne.symm]; exact h.d, upd_same⟩
/-- all kept but the source, which goes on -/
structure Kp (d c : Addr) (H H' : Hp) : Prop where
  keep : ∀ b u, b ≠ d → b ≠ c → H b = some u → H' b = some u
  src0 : Src H d c
  src : Src H' d c
theorem Kp.refl (h : Src H d c) : Kp d c H H := ⟨fun _ _ _ _ e => e, h, h⟩
theorem Kp.of (h : Src H d c) (s : Same H H') : Kp d c H H' := ⟨fun b u _ _ e => s b u e, h, h.same s⟩
theorem Kp.trans (a : Kp d c H H1) (b : Kp d c H1 H2) : Kp d c H H2 := ⟨fun x u h1 h2 e => b.keep x u h1 h2 (a.keep x u h1 h2 e), a.src0, b.src⟩
theorem Kp.same (a : Kp d c H H1) (s : Same H1 H2) : Kp d c H H2 := a.trans (.of a.src s)
theorem Src.nd (h : Src H d c) {D : Addr} (hD : H D = none) : D ≠ d ∧ D ≠ c := by
  obtain ⟨ns, l, m, t, h⟩ := h
  exact ⟨fun e => (by rw [e, h.d] at hD; cases hD), fun e => (by rw [e, h.c] at hD; cases hD)⟩
theorem SrcAt.other (h : SrcAt H d c ns l m t) {D : Addr} {o : HO} (h1 : D ≠ d) (h2 : D ≠ c) : SrcAt (upd H D o) d c ns l m t := ⟨by rw [upd_ne h1.symm]; exact h.d, by rw [upd_ne h2.symm]; exact h.c⟩
theorem Src.other (h : Src H d c) {D : Addr} {o : HO} (h1 : D ≠ d) (h2 : D ≠ c) : Src (upd H D o) d c := let ⟨ns, l, m, t, h⟩ := h; ⟨ns, l, m, t, h.other h1 h2⟩
/-- what was made since is changed -/
theorem Kp.put (k : Kp d c H H1) {D : Addr} {o : HO} (hD : H D = none) : Kp d c H (upd H1 D o) :=
  ⟨fun b u h1 h2 e => by rw [upd_ne (ne_of_none e hD)]; exact k.keep b u h1 h2 e, k.src0, k.src.other (k.src0.nd hD).1 (k.src0.nd hD).2⟩
theorem Kp.free (k : Kp d c H H1) {D : Addr} (hD : H1 D = none) : H D = none := by
  obtain ⟨n1, n2⟩ := k.src.nd hD
  cases q : H D with
  | none => rfl
  | some o => rw [k.keep _ _ n1 n2 q] at hD; cases hD
theorem SrcAt.kp (h : SrcAt H d c ns l m t) {ns' : List Int} {l' m' t' : Int} (h' : SrcAt H' d c ns' l' m' t') (k : ∀ b u, b ≠ d → b ≠ c → H b = some u → H' b = some u) : Kp d c H H' := ⟨k, h.src, h'.src⟩
end
section
variable {K : PySem.W.Frag} {d c : Addr} {H H' : Hp} {α β : Type} {R : Rp α} {S : Rp β}
theorem Kp.tup (k : Kp d c H H') {a : Addr} {xs : List V} (h : SqT K H a xs) : SqT K H' a xs := by
  obtain ⟨ns, l, m, t, s⟩ := k.src0
  rcases h with (h | ⟨o, h⟩) | h
  · exact .inl (.inl (k.keep _ _ (ne_of h s.d (by intro z; cases z)) (ne_of h s.c (by intro z; cases z)) h))
  · exact .inl (.inr ⟨o, k.keep _ _ (ne_of h s.d (by intro z; cases z)) (ne_of h s.c (by intro z; cases z)) h⟩)
  · exact .inr h
/-- kept, whatever the source does -/
structure KM (R : Rp α) : Prop where
  to : ∀ {d c : Addr} {H H' : Hp} {v : V} {x : α}, Kp d c H H' → R H v x → R H' v x
theorem paired_km (m : KM R) (e : Kp d c H H') {vs : List V} {xs : List α} (h : Paired (R H) vs xs) : Paired (R H') vs xs := Paired.mapP h fun _ _ q => m.to e q
theorem kI : KM iI := ⟨fun _ h => h⟩
theorem kQ : KM (iQ K) := ⟨fun e ⟨a, h1, h2⟩ => ⟨a, h1, e.tup h2⟩⟩
theorem kT (m : KM R) : KM (iT K R) := ⟨fun e ⟨a, vs, h1, h2, h3⟩ => ⟨a, vs, h1, e.tup h2, paired_km m e h3⟩⟩
theorem kRow : KM (iRow K) := kT kQ
theorem Kp.lst (k : Kp d c H H') {p : Addr} {l : List V} (hp : p ≠ c) (h : H p = some (.lst l)) : H' p = some (.lst l) := by
  obtain ⟨ns, l, m, t, s⟩ := k.src0
  exact k.keep _ _ (ne_of h s.d (by intro z; cases z)) hp h
theorem Kp.nl (k : Kp d c H H') (m : KM R) {p : Addr} {xs : List α} (hp : p ≠ c) (h : nL R H p xs) : nL R H' p xs := let ⟨vs, h1, h2⟩ := h; ⟨vs, k.lst hp h1, paired_km m k h2⟩
/-! ### values while the source goes on -/
variable {σ : L2.St} {ta tb te : TE}
def VD (d c : Addr) (te : TE) (σ : L2.St) (H : Hp) (R : V → Hp → Prop) : Prop := ∀ Q : VK, (∀ v H', Kp d c H H' → R v H' → Q v H') → te σ H Q
def VDA (d c : Addr) (t : TA) (σ : L2.St) (H : Hp) (R : List V → Hp → Prop) : Prop := ∀ Q : List V → Hp → Prop, (∀ vs H', Kp d c H H' → R vs H' → Q vs H') → t σ H Q
theorem VS.vd {R : V → Hp → Prop} (h : VS te σ H R) (s : Src H d c) : VD d c te σ H R := fun Q k => h Q fun v H' e r => k v H' (.of s e) r
theorem VD.imp {R1 R2 : V → Hp → Prop} (h : VD d c te σ H R1) (g : ∀ v H', Kp d c H H' → R1 v H' → R2 v H') : VD d c te σ H R2 := fun Q k => h Q fun v H' e r => k v H' e (g v H' e r)
theorem vd_call {t : TA} {vs : List V} {sp : Sp} {R : V → Hp → Prop} (h : ValA t σ H vs) (g : ∀ Q : VK, (∀ v H', Kp d c H H' → R v H' → Q v H') → sp (vs ++ []) H Q E0) : VD d c (tCall sp [] E0 t) σ H R := fun Q k => h _ (g Q k)
theorem vd_callS {t : TA} {sp : Sp} {A : List V → Hp → Prop} {R : V → Hp → Prop} (h : VDA d c t σ H A) (g : ∀ vs H', Kp d c H H' → A vs H' → ∀ Q : VK, (∀ v H2, Kp d c H' H2 → R v H2 → Q v H2) → sp (vs ++ []) H' Q E0) : VD d c (tCall sp [] E0 t) σ H R := fun Q k =>
  h _ fun vs H' s a => g vs H' s a Q fun v H2 s2 r => k v H2 (s.trans s2) r
theorem st_setD {D : Ends} {i : Nat} {R : V → Hp → Prop} (h : VD d c te σ H R) (q : ∀ v H', Kp d c H H' → R v H' → D.nx (σ.set i (some v)) H') : tAsg te (gName i) D σ H := h _ q
theorem st_retD {D : Ends} {R : V → Hp → Prop} (h : VD d c te σ H R) (q : ∀ v H', Kp d c H H' → R v H' → D.rt v H') : tRet te D σ H := h _ q
/-- a test with a draw in it -/
theorem st_ifD {A : Bool → Hp → Prop} {cc : TT} {t1 t2 : TS} {D : Ends} (h : ∀ Q : Bool → Hp → Prop, (∀ b H', Kp d c H H' → A b H' → Q b H') → cc σ H Q) (q1 : ∀ H', Kp d c H H' → A true H' → t1 D σ H') (q2 : ∀ H', Kp d c H H' → A false H' → t2 D σ H') : tIfS cc t1 t2 D σ H :=
  h _ fun b H' k a => by
    cases b
    · exact iteF (q2 H' k a)
    · exact iteT (q1 H' k a)
theorem st_tail {t : TS} {D : Ends} {σ : L2.St} {H : Hp} (A : L2.St → Hp → Prop) (h2 : ∀ σ' H', A σ' H' → D.nx σ' H') (h1 : ∀ N : L2.St → Hp → Prop, (∀ σ' H', A σ' H' → N σ' H') → t { D with nx := N } σ H) : t D σ H := h1 D.nx h2
/-- an int that was drawn, and what is done with it -/
abbrev DI (A : Int → Prop) : V → Hp → Prop := fun v _ => ∃ r : Int, v = .int r ∧ A r
theorem vd_addL {A : Int → Prop} {a : Int} (h : ∀ H', Val ta σ H' (.int a)) (g : VD d c tb σ H (DI A)) : VD d c (tOp (rI0 fun i j => .int (i + j)) ta tb) σ H (DI fun z => ∃ r, z = a + r ∧ A r) := fun Q k =>
  h H _ (g _ fun v H' e ⟨r, e1, hr⟩ => ⟨_, _, rfl, e1, k _ _ e ⟨_, rfl, r, rfl, hr⟩⟩)
theorem vd_subR {A : Int → Prop} {b : Int} (h : VD d c ta σ H (DI A)) (g : ∀ H', Val tb σ H' (.int b)) : VD d c (tOp (rI0 fun i j => .int (i - j)) ta tb) σ H (DI fun z => ∃ r, z = r - b ∧ A r) := fun Q k =>
  h _ fun v H' e ⟨r, e1, hr⟩ => g H' _ ⟨_, _, e1, rfl, k _ _ e ⟨_, rfl, r, rfl, hr⟩⟩
theorem vda1 {R : V → Hp → Prop} (h : VD d c ta σ H R) : VDA d c (tCons ta tNil) σ H (fun vs H' => ∃ y, vs = [y] ∧ R y H') := fun Q k => h _ fun y H' s r => k _ _ s ⟨y, rfl, r⟩
theorem vda2 {x : V} {R : V → Hp → Prop} (h : Val ta σ H x) (g : VD d c tb σ H R) : VDA d c (tCons ta (tCons tb tNil)) σ H (fun vs H' => ∃ y, vs = [x, y] ∧ R y H') := fun Q k => h _ (g _ fun y H' s r => k _ _ s ⟨y, rfl, r⟩)
/-- a drawn value ahead of a plain one, both ints -/
theorem vda2l {A : Int → Prop} {y : V} (h : VD d c ta σ H (DI A)) (g : ∀ H', Val tb σ H' y) : VDA d c (tCons ta (tCons tb tNil)) σ H (fun vs _ => ∃ r : Int, vs = [.int r, y] ∧ A r) := fun Q k => h _ fun v H' s ⟨r, e, hr⟩ => g H' _ (k _ _ s ⟨r, by rw [e], hr⟩)
theorem vda2b {A B : Int → Prop} (h : VD d c ta σ H (DI A)) (g : ∀ H', Kp d c H H' → VD d c tb σ H' (DI B)) : VDA d c (tCons ta (tCons tb tNil)) σ H (fun vs _ => ∃ r q : Int, vs = [.int r, .int q] ∧ A r ∧ B q) := fun Q k => h _ fun v H' s ⟨r, e, hr⟩ => g H' s _ fun u H2 s2 ⟨q, e2, hq⟩ => k _ _ (s.trans s2) ⟨r, q, by rw [e, e2], hr, hq⟩
/-- two arguments, both made -/
theorem vsaTT {R S : V → Hp → Prop} (h : VS ta σ H R) (g : ∀ H', Same H H' → VS tb σ H' S) (mR : ∀ v H' H2, Same H' H2 → R v H' → R v H2) : VSA (tCons ta (tCons tb tNil)) σ H (fun vs H' => ∃ x y, vs = [x, y] ∧ R x H' ∧ S y H') := fun Q k =>
  h _ fun v H1 s1 r => g H1 s1 _ fun u H2 s2 r2 => k _ _ (s1.trans s2) ⟨v, u, rfl, mR v H1 H2 s2 r, r2⟩
/-! ### comprehensions that draw -/
abbrev NewD {γ : Type} (Z : Rp γ) (H : Hp) (A : List γ → Prop) : V → Hp → Prop := fun u H' => ∃ p zs, u = .ref p ∧ H p = none ∧ nL Z H' p zs ∧ A zs
theorem lc_src {γ : Type} {Z : Rp γ} {Pz : γ → Prop} {J : It} {n : Nat} {H1 : Hp} {Y : Nat → Hp → V → Hp → Prop} (w : Walk J n (Kp d c H1) Y) (hY : ∀ i H v H', Y i H v H' → Same H H') (rb : Rob noNE Z) (kz : KM Z) {i : Nat} {te : TE} {vs : List Nat} {Q : VK} (hn : n ≤ 1000) (s0 : Src H1 d c)
    (hwp : ∀ a, wipe ((wipe σ vs).set i a) vs = wipe σ vs)
    (hs : ∀ v H', Kp d c H1 H' → VD d c te ((wipe σ vs).set i (some v)) H' (fun y H2 => ∃ z, Z H2 y z ∧ Pz z))
    (hq : ∀ D H' zs, Kp d c H1 H' → H1 D = none → nL Z H' D zs → zs.length = n → (∀ z ∈ zs, Pz z) → Q (.ref D) H') :
    ∀ D, H1 D = none → ∃ W : Nat → Nat → Hp → Prop, (∃ m, W 0 m (upd H1 D (.lst []))) ∧ ∀ j m H, W j m H →
      (J.stop j H ∧ Q (.ref D) H) ∨ (J.go j H ∧ ∃ Nx : Hp → Prop, (∀ H', Nx H' → ∃ m', m' < m ∧ W (j + 1) m' H') ∧ ∀ x H', J.yld j H x H' → gName i x (wipe σ vs) H' fun σ2 H2 => wipe σ2 vs = wipe σ vs ∧ tYes σ2 H2 fun b H3 =>
        if b = true then te σ2 H3 fun y H4 => ∃ acc, H4 D = some (.lst acc) ∧ acc.length < sizeLine ∧ Nx (upd H4 D (.lst (acc ++ [y]))) else Nx H3) := by
  intro D hD
  obtain ⟨nd1, nd2⟩ := s0.nd hD
  refine lc_it w (fun j H => Kp d c H1 H ∧ ∃ acc zs, H D = some (.lst acc) ∧ Paired (Z H) acc zs ∧ zs.length = j ∧ ∀ z ∈ zs, Pz z) ?_ (fun j H _ h => h.1) ?_ ?_
  · exact ⟨(Kp.refl s0).put hD, [], [], upd_same, .nil, rfl, by simp⟩
  · rintro j v H H' hj ⟨k, acc, zs, hacc, hp, hl, hz⟩ y
    have s' := hY _ _ _ _ y
    have k' := k.same s'
    refine ⟨hwp _, ?_⟩
    refine hs v H' k' _ fun u H4 k4 ⟨z, hz1, hz2⟩ => ?_
    have ka : Kp d c H H4 := (Kp.of k.src s').trans k4
    have hacc4 : H4 D = some (.lst acc) := ka.lst nd2 hacc
    refine ⟨acc, hacc4, ?_, (k'.trans k4).put hD, acc ++ [u], zs ++ [z], upd_same, ?_, by simp [hl], ?_⟩
    · rw [plen hp, hl]; exact Nat.lt_of_lt_of_le hj (sizeLine_ge hn)
    · have q4 : Paired (Z H4) acc zs := paired_km kz ka hp
      exact papp (Paired.mapP q4 fun _ _ r => rb.to hacc4 trivial r) (.cons (rb.to hacc4 trivial hz1) .nil)
    · intro x hx
      rcases List.mem_append.mp hx with h | h
      · exact hz x h
      · rw [List.mem_singleton] at h; subst h; exact hz2
  · rintro H ⟨k, acc, zs, hacc, hp, hl, hz⟩
    exact hq D H zs k hD ⟨acc, hacc, hp⟩ hl hz
section
variable {γ : Type} {Z : Rp γ} {Pz : γ → Prop} {vs : List Nat} {i : Nat}
/-- over a range, the range drawn too -/
theorem vd_lcR (rb : Rob noNE Z) (kz : KM Z) {t : TA} {A : Nat → Prop} (s0 : Src H d c) (h : VDA d c t σ H (fun ws _ => ∃ n : Nat, ws = [.int (n : Int)] ∧ A n)) (hA : ∀ n, A n → n ≤ 1000) (hwp : ∀ a, wipe ((wipe σ vs).set i a) vs = wipe σ vs)
    (hs : ∀ v H', Kp d c H H' → VD d c te ((wipe σ vs).set i (some v)) H' (fun y H2 => ∃ z, Z H2 y z ∧ Pz z)) :
    VD d c (tLc (iRng1 t) (gName i) tYes te vs) σ H (NewD Z H fun zs => A zs.length ∧ ∀ z ∈ zs, Pz z) := fun Q k =>
  h _ fun ws H1 k1 ⟨n, e, hn⟩ => ⟨(n : Int), e, by omega, by have := hA n hn; omega, by
    have w := (walk_range (lo := 0) (n := n)).mono (G' := Kp d c H1) (Y' := fun _ H _ H' => Same H H') (fun _ _ => trivial) (fun j H v H' hj _ y => by obtain ⟨e, _⟩ := y; rw [e]; exact Same.refl _)
    rw [show ((n : Int)).toNat = n from Int.toNat_natCast n]
    exact lc_src w (fun _ _ _ _ y => y) rb kz (hA n hn) k1.src hwp (fun v H' k2 => hs v H' (k1.trans k2)) fun D H' zs k2 hD hz hl hp => k _ _ (k1.trans k2) ⟨D, zs, rfl, k1.free hD, hz, by rw [hl]; exact hn, hp⟩⟩
/-- over a list that is not the source's -/
theorem vd_lcL {R : Rp α} (rb : Rob noNE Z) (kz : KM Z) {tl : TE} {p : Addr} {xs : List α} (s0 : Src H d c) (h : Val tl σ H (.ref p)) (hp : p ≠ c) (hv : nL R H p xs) (hx : xs.length ≤ 1000) (hwp : ∀ a, wipe ((wipe σ vs).set i a) vs = wipe σ vs)
    (hs : ∀ v H', Kp d c H H' → VD d c te ((wipe σ vs).set i (some v)) H' (fun y H2 => ∃ z, Z H2 y z ∧ Pz z)) :
    VD d c (tLc (iList K tl) (gName i) tYes te vs) σ H (NewD Z H fun zs => zs.length = xs.length ∧ ∀ z ∈ zs, Pz z) := fun Q k => by
  obtain ⟨ws, h1, h2⟩ := hv
  refine h _ ⟨p, rfl, ⟨ws, SqL.of h1⟩, ?_⟩
  have w := (walk_list (K := K) (a := p) (xs := ws)).mono (G' := Kp d c H) (Y' := fun _ H _ H' => Same H H') (fun H' k => SqL.of (k.lst hp h1)) (fun j H v H' hj _ y => by obtain ⟨e, _⟩ := y; rw [e]; exact Same.refl _)
  rw [plen h2] at w
  exact lc_src w (fun _ _ _ _ y => y) rb kz hx s0 hwp hs fun D H' zs k2 hD hz hl hp => k _ _ k2 ⟨D, zs, rfl, hD, hz, hl, hp⟩
theorem vd_tuple {A : List γ → Prop} (mZ : Mon Z) (h : VD d c te σ H (NewD Z H A)) : VD d c (tCB (rTupK K) (tCons te tNil)) σ H (fun u H' => ∃ zs, iT K Z H' u zs ∧ A zs) := fun Q k =>
  h _ fun v H' s ⟨p, zs, e, _, ⟨ys, hp, q⟩, a⟩ => ⟨p, ys, by rw [e], .inl ⟨SqL.of hp, fun l hl => k _ _ (s.same (same_new hl)) ⟨zs, ⟨l, ys, rfl, SqT.of upd_same, paired_mono mZ (same_new hl) q⟩, a⟩⟩⟩
end
end
/-! ### tests of ints -/
section
variable {σ : L2.St} {H : Hp} {ta tb : TE} {a b : Int} {r : Bool}
theorem ans_cI {f : Int → Int → Bool} (h : Val ta σ H (.int a)) (g : Val tb σ H (.int b)) (e : f a b = r) : Ans (tTest (tOp (rI0 fun i j => .bl (f i j)) ta tb)) σ H r := fun Q k => h _ (g _ ⟨_, _, rfl, rfl, _, rfl, by rw [e]; exact k⟩)
theorem ans_lt (h : Val ta σ H (.int a)) (g : Val tb σ H (.int b)) (e : decide (a < b) = r) : Ans (tTest (tOp (rI0 fun i j => .bl (decide (i < j))) ta tb)) σ H r := ans_cI h g e
theorem ans_gt2 (h : Val ta σ H (.int a)) (g : Val tb σ H (.int b)) (e : decide (b < a) = r) : Ans (tTest (tOp (rI0 fun i j => .bl (decide (j < i))) ta tb)) σ H r := ans_cI (f := fun i j => decide (j < i)) h g e
theorem ans_eqI (h : Val ta σ H (.int a)) (g : Val tb σ H (.int b)) (e : decide (a = b) = r) : Ans (tTest (tOp rEq ta tb)) σ H r := ans_eq h g rfl (by
  rw [← e]; exact decide_eq_decide.mpr ⟨fun z => by injection z, fun z => by rw [z]⟩)
end
/-! ### the source read and written -/
section
variable {d c : Addr} {l m t : Int} {H : Hp} {ns : List Int} {σ : L2.St} {ta tv : TE}
theorem v_sget {k : Str} {v : V} (hs : SrcAt H d c ns l m t) (hv : valV (kvS c l m t) (Sum.inr k) = some v) (h : Val ta σ H (.ref d)) : Val (tDGet ta (tC (.str k))) σ H v := fun Q q =>
  h _ ⟨d, v, rfl, by rw [← hv]; exact DGet.k (k := Sum.inr k) hs.d, q⟩
theorem st_sput {k : Str} {v : V} {kvs : List (Key × V)} {D : Ends} (g : Val tv σ H v) (hs : SrcAt H d c ns l m t) (hv : putK (kvS c l m t) (Sum.inr k) v = kvs) (h : Val ta σ H (.ref d)) (q : D.nx σ (upd H d (.dK kvs))) : sDPut ta (tC (.str k)) tv D σ H :=
  g _ (h _ ⟨d, _, rfl, DPut.k (k := Sum.inr k) hs.d (by show 4 < sizeLine; decide), by rw [hv]; exact q⟩)
end
end K19
namespace K19
open PySem PySem.Spec L2
section
variable {P : Program} {w : World} {K : PySem.W.Frag} {mg : Str → Option Value} {base : Heap}
theorem v_mod {σ : L2.St} {H : Hp} {ta tb : TE} {a b : Int} (h : Val ta σ H (.int a)) (g : Val tb σ H (.int b)) (c : 0 < b) : Val (tOp (L2.rI (fun _ j => 0 < j) fun i j => .int (i % j)) ta tb) σ H (.int (a % b)) := fun _ k => h _ (g _ ⟨_, _, rfl, rfl, c, k⟩)
theorem v_mulS {σ : L2.St} {H : Hp} {ta tb : TE} {a b : Int} (h : Val ta σ H (.int a)) (g : Val tb σ H (.int b)) (c : CMul a b) : Val (tOp (L2.rI CMul fun i j => .int (i * j)) ta tb) σ H (.int (a * b)) := fun _ k => h _ (g _ ⟨_, _, rfl, rfl, c, k⟩)
theorem v_int {σ : L2.St} {H : Hp} {ta : TE} {a : Int} (h : Val ta σ H (.int a)) : Val (tCB (fun xs H Q => (∃ i, xs = [V.int i] ∧ Q (.int i) H) ∨ ∃ k, xs = [V.bl k] ∧ Q (.int (if k then 1 else 0)) H) (tCons ta tNil)) σ H (.int a) := fun Q k => h _ (.inl ⟨a, rfl, k⟩)
theorem cmulR {a b : Int} (h : -(2 ^ 64) < b) (g : b < 2 ^ 64) : CMul a b := .inr ⟨h, g⟩
/-- the source of a script -/
def spOpen (K : PySem.W.Frag) : Sp := fun vs H Q _ => ∃ v xs, vs = [v] ∧ iL K iI H v xs ∧ xs.length ≤ 1000 ∧ ∀ d c H', Same H H' → Src H' d c → Q (.ref d) H'
theorem sc_w_open_cells : FnScope ["_law_script", "_law_stirred", "_law_cell", "_law_cells"] ["_law_script"] (defScope s_w_open_cells) := ⟨rfl, rfl, rfl, by decide +kernel, rfl, by decide +kernel, by decide +kernel⟩
theorem ok_w_open_cells (T : Txt K mg) : FnOk P w K mg base CX0 1 T.w_open_cells.f T.w_open_cells.fd ["_law_script"] (spOpen K) := by
  refine T.w_open_cells.F.ok sc_w_open_cells (fun vs H Q E h => ?_) (fun cdv A outer s H vs Q E hr h => ?_)
  · obtain ⟨_, _, rfl, _⟩ := h; rfl
  · obtain ⟨v, xs, rfl, hv, hl, q⟩ := h
    refine ⟨_, (PSs.nox (pss_cons (ps_set (i := 1) sc_w_open_cells.nd rfl (.inl rfl) pe_int) (pss_cons (ps_for PassesOwn.never rfl (pi_listK K (pv 0)) (pg_name (i := 2) sc_w_open_cells.nd rfl (.inl rfl)) (pss_one (ps_set (i := 1) sc_w_open_cells.nd rfl (.inl rfl) (pe_op op_mod (pe_callTy call_int1 rfl T.b_int (by decide +kernel) (pa_cons (pe_op op_add (pe_op op_add (pe_op op_mul (pv 1) pe_int) (pe_op op_mul (pv 2) pe_int)) pe_int) pa_nil)) pe_int)))) (pss_cons (ps_setLc (i := 3) (own := [("_law_cell", 2)]) (g := (gName 2)) (tt := tYes) rfl sc_w_open_cells.nd rfl rfl (sw_true rfl rfl rfl (by decide +kernel)) (pi_listK K (pv 0)) (blkOk_by (N := ["_law_script", "_law_stirred", "_law_cell", "_law_cells"]) (sc := defScope s_w_open_cells) (by decide +kernel)) (fun _ _ _ _ _ => (pg_name (i := 2) sc_w_open_cells.nd rfl (.inl rfl))) (fun _ _ _ _ _ => pts_nil) (fun _ _ _ _ _ => (pe_callB call_abs rfl T.b_abs (by decide +kernel) (pa_cons (pv 2) pa_nil)))) (pss_one (ps_ret (pe_disp (pps_cons pe_str (pe_revL (pv 3)) (pps_cons pe_str pe_int (pps_cons pe_str (pv 1) (pps_cons pe_str pe_int pps_nil)))) rfl rfl (List.cons_ne_nil _ _) (by decide)))))))), ?_⟩
    refine st_seq (st_set val_c ?_)
    dsimp only
    refine st_seq (st_for (fun i σ H' => ∃ (s : Int) (z : Option V), σ = [some v, some (.int s), z, none]) (ws_list mI (vsv (val_var rfl) hv)) (fun H1 s1 => ⟨11, none, rfl⟩) ?_ ?_)
    · rintro i x vx σ1 H1 H2 N hx ⟨s, z, rfl⟩ s1 s2 hr hN
      have hr : vx = V.int x := hr
      subst hr
      refine st_set (v := .int ((s * 69069 + x * 31 + 5) % 2147483629)) ?_ (hN _ _ (Same.refl _) ⟨_, _, rfl⟩)
      exact v_mod (v_int (vadd (vadd (v_mulS (val_var rfl) val_c (cmulR (by decide) (by decide))) (v_mulS (val_var rfl) val_c (cmulR (by decide) (by decide)))) val_c)) val_c (by decide)
    · rintro σ1 H1 s1 ⟨s, z, rfl⟩
      dsimp only
      refine st_seq (st_set' (R := NewL iI H1 (xs.map fun x => ((x.natAbs : Nat) : Int))) (vs_lcN (R := iI) (Z := iI) robI mI (fun x => ((x.natAbs : Nat) : Int)) (ws_list mI (vsv (val_var rfl) ((mL mI).to s1 hv))) (sizeLine_ge hl) (fun _ => rfl) fun x vx H2 hm s2 hx => VS.el (vsv (v_abs (by rw [show vx = V.int x from hx]; exact val_var rfl)) rfl)) fun u H2 s2 hu => ?_)
      obtain ⟨p, rfl, hp, ws, h1, h2⟩ := hu
      have h2 := pint h2
      subst h2
      dsimp only
      refine st_rt2 fun D hD => ?_
      have hpD : p ≠ D := ne_of_none h1 hD
      refine ⟨.ref p, rfl, ?_⟩
      refine ⟨p, _, rfl, SqL.of (by rw [upd_ne hpD]; exact h1), fun c hc => ?_⟩
      have hcD : c ≠ D := fun e => by rw [e, upd_same] at hc; cases hc
      refine ⟨.int s, rfl, ?_⟩
      refine ⟨by rw [upd_ne hcD.symm]; exact upd_same, kvS c 1 s 0, rfl, (by show 4 ≤ 15; decide), ?_⟩
      have hcN : H2 c = none := by rw [upd_ne hcD] at hc; exact hc
      refine q D c _ ?_ ⟨(xs.map fun x => ((x.natAbs : Nat) : Int)).reverse, 1, s, 0, ?_, ?_⟩
      · exact fun b u e => by
          have e2 := s2 _ _ (s1 _ _ e)
          rw [upd_ne (ne_of_none e2 hD), upd_ne (ne_of_none e2 hcN), upd_ne (ne_of_none e2 hD)]
          exact e2
      · rw [upd_same, mergeS]
      · rw [upd_ne hcD, upd_same, List.map_reverse]
/-- a number below most, whatever the source holds -/
def spPick : Sp := fun vs H Q _ => ∃ d c, ∃ m : Int, vs = [.ref d, .int m] ∧ Src H d c ∧ m ≤ 1000 ∧ ∀ (r : Int) H', Kp d c H H' → 0 ≤ r → (r < m ∨ r = 0) → Q (.int r) H'
theorem vdivW {σ : L2.St} {H : Hp} {ta tb : TE} {a b : Int} (h : Val ta σ H (.int a)) (g : Val tb σ H (.int b)) (h0 : 0 < b) (h1 : b ≤ 1000) : Val (tOp (L2.rI CDivW fun i j => .int (i / j)) ta tb) σ H (.int (a / b)) :=
  vdiv h g (wide_div (b := 10) h0 (by omega) (by decide) (by decide))
theorem sc_w_pick : FnScope ["_law_source", "_law_most", "_law_cells", "_law_others", "_law_lap", "_law_stirred"] ["_law_source", "_law_most"] (defScope s_w_pick) := ⟨rfl, rfl, rfl, by decide +kernel, rfl, by decide +kernel, by decide +kernel⟩
theorem ok_w_pick (T : Txt K mg) : FnOk P w K mg base CX0 1 T.w_pick.f T.w_pick.fd ["_law_source", "_law_most"] spPick := by
  refine T.w_pick.F.ok sc_w_pick (fun vs H Q E h => ?_) (fun cdv A outer s H vs Q E hr h => ?_)
  · obtain ⟨_, _, _, rfl, _⟩ := h; rfl
  · obtain ⟨d, c, mm, rfl, ⟨ns, l, m, t, hs⟩, hm, q⟩ := h
    refine ⟨_, (PSs.nox (pss_cons (ps_if (pt_cmpR op_lt (pv 1) pe_int (nomark _)) (pss_one (ps_ret pe_int)) pss_nil) (pss_cons (ps_set (i := 2) sc_w_pick.nd rfl (.inl rfl) (pe_dget (hu_of hr) (pv 0) pe_str (fun _ _ => rfl))) (pss_cons (ps_while PassesOwn.never (PW.pt (pw_and (pt_cmpR op_lt (pe_dget (hu_of hr) (pv 0) pe_str (fun _ _ => rfl)) pe_int (nomark _)) (pw_and1 (pt_cmpR op_gt (pe_callB (k_len K) rfl T.b_len (by decide +kernel) (pa_cons (pv 2) pa_nil)) pe_int (nomark _))))) (pss_one (ps_dput (hu_of hr) (pv 0) pe_str (pe_bm0 PySem.F.plainAttrs_list PySem.F.slot_list_pop PySem.F.type_list_pop mt_pop (pv 2)) rfl))) (pss_cons (ps_set (i := 3) sc_w_pick.nd rfl (.inl rfl) (pe_dget (hu_of hr) (pv 0) pe_str (fun _ _ => rfl))) (pss_cons (ps_if (pt_cmpR op_gt (pv 3) pe_int (nomark _)) (pss_cons (ps_dput (hu_of hr) (pv 0) pe_str (pe_op op_fdivW (pv 3) (pv 1)) rfl) (pss_one (ps_ret (pe_op op_mod (pe_callTy call_int1 rfl T.b_int (by decide +kernel) (pa_cons (pv 3) pa_nil)) (pv 1))))) pss_nil) (pss_cons (ps_dput (hu_of hr) (pv 0) pe_str (pe_op op_add (pe_dget (hu_of hr) (pv 0) pe_str (fun _ _ => rfl)) pe_int) rfl) (pss_cons (ps_set (i := 4) sc_w_pick.nd rfl (.inl rfl) (pe_dget (hu_of hr) (pv 0) pe_str (fun _ _ => rfl))) (pss_cons (ps_set (i := 5) sc_w_pick.nd rfl (.inl rfl) (pe_op op_mod (pe_callTy call_int1 rfl T.b_int (by decide +kernel) (pa_cons (pe_op op_add (pe_dget (hu_of hr) (pv 0) pe_str (fun _ _ => rfl)) (pe_op op_mul (pv 4) pe_int)) pa_nil)) pe_int)) (pss_cons (ps_set (i := 5) sc_w_pick.nd rfl (.inl rfl) (pe_op op_mod (pe_callTy call_int1 rfl T.b_int (by decide +kernel) (pa_cons (pe_op op_add (pe_op op_mulW (pv 5) (pv 5)) (pe_op op_mul (pv 4) pe_int)) pa_nil)) pe_int)) (pss_one (ps_ret (pe_op op_mod (pe_callTy call_int1 rfl T.b_int (by decide +kernel) (pa_cons (pe_op op_fdivW (pv 5) pe_int) pa_nil)) (pv 1)))))))))))))), ?_⟩
    have src0 : Src H d c := hs.src
    by_cases h2 : mm < 2
    · refine st_seq (st_yes' (as_of (ans_lt (val_var rfl) val_c (decide_eq_true h2))) fun H1 s1 => ?_)
      exact st_ret val_c (q 0 H1 (.of src0 s1) (by decide) (.inr rfl))
    refine st_seq (st_no (ans_lt (val_var rfl) val_c (decide_eq_false h2)) (st_next ?_))
    dsimp only
    refine st_seq (st_set (v_sget hs kvS_cells (val_var rfl)) ?_)
    dsimp only
    refine st_seq (st_whileB (fun k σ H' => ∃ ns' l', σ = [some (.ref d), some (.int mm), some (.ref c), none, none, none] ∧ SrcAt H' d c ns' l' m t ∧ Kp d c H H' ∧ l' < 2 ∧ ns' ≠ [] ∧ k = ns'.length)
      (fun σ H' => ∃ ns' l', σ = [some (.ref d), some (.int mm), some (.ref c), none, none, none] ∧ SrcAt H' d c ns' l' m t ∧ Kp d c H H' ∧ (¬ l' < 2 ∨ ns' = [])) ?_ ?_ ?_ ?_ ?_)
    · by_cases e : l < 2 ∧ ns ≠ []
      · exact .inl ⟨_, ns, l, rfl, hs, .refl src0, e.1, e.2, rfl⟩
      · refine .inr ⟨ns, l, rfl, hs, .refl src0, ?_⟩
        by_cases e1 : l < 2
        · exact .inr (Classical.byContradiction fun z => e ⟨e1, z⟩)
        · exact .inl e1
    · rintro k σ H' ⟨ns', l', rfl, hs', k', e1, e2, _⟩
      have : ns'.length ≠ 0 := fun z => e2 (List.eq_nil_of_length_eq_zero z)
      exact ans_and (ans_lt (v_sget hs' kvS_left (val_var rfl)) val_c (decide_eq_true e1)) (ans_gt2 (v_len (k1 := false) (R := iI) (xs := ns') (v := .ref c) (val_var rfl) ⟨c, _, rfl, SqL.of hs'.c, pintR _⟩) val_c (decide_eq_true (by omega)))
    · rintro σ H' ⟨ns', l', rfl, hs', k', e1⟩
      by_cases e2 : l' < 2
      · have e3 : ns' = [] := e1.resolve_left fun z => z e2
        subst e3
        exact ans_and (ans_lt (v_sget hs' kvS_left (val_var rfl)) val_c (decide_eq_true e2)) (ans_gt2 (v_len (k1 := false) (R := iI) (xs := []) (v := .ref c) (val_var rfl) ⟨c, _, rfl, SqL.of hs'.c, pintR _⟩) val_c (decide_eq_false (by decide)))
      · exact ans_and0 (ans_lt (v_sget hs' kvS_left (val_var rfl)) val_c (decide_eq_false e2))
    · rintro σ H' ⟨ns', l', rfl, hs', k', e1⟩
      dsimp only
      refine st_seq (st_set (v_sget hs' kvS_left (val_var rfl)) ?_)
      dsimp only
      have m0 : 0 < mm := by omega
      have mn : mm ≠ 0 := by omega
      have done : ∀ {te : TE} {σ : L2.St} {H1 : Hp} {z : Int} {D : Ends}, Kp d c H H1 → Val te σ H1 (.int z) → σ[1]? = some (some (.int mm)) → D.rt = Q → tRet (tOp (L2.rI (fun _ j => 0 < j) fun i j => .int (i % j)) (tCB (fun xs H Q => (∃ i, xs = [V.int i] ∧ Q (.int i) H) ∨ ∃ k, xs = [V.bl k] ∧ Q (.int (if k then 1 else 0)) H) (tCons te tNil)) (tVar 1)) D σ H1 := fun {te σ H1 z D} k1 hz e1 eD => by
        refine st_ret (v_mod (v_int hz) (val_var e1) m0) ?_
        rw [eD]
        exact q _ _ k1 (Int.emod_nonneg _ mn) (.inl (Int.emod_lt_of_pos _ m0))
      by_cases e2 : 1 < l'
      · refine st_seq (st_yes' (as_of (ans_gt2 (val_var rfl) val_c (decide_eq_true e2))) fun H1 s1 => ?_)
        have hs1 := hs'.same s1
        refine st_seq (st_sput (vdivW (val_var rfl) (val_var rfl) m0 hm) hs1 putS_left (val_var rfl) ?_)
        refine done (k'.trans ((Kp.of hs'.src s1).trans ⟨fun b u n1 n2 e => by rw [upd_ne n1]; exact e, hs1.src, hs1.left.src⟩)) (val_var (i := 3) rfl) rfl rfl
      · refine st_seq (st_no (ans_gt2 (val_var rfl) val_c (decide_eq_false e2)) (st_next ?_))
        dsimp only
        refine st_seq (st_sput (vadd (v_sget hs' kvS_turn (val_var rfl)) val_c) hs' putS_turn (val_var rfl) ?_)
        have ht := hs'.turn (z := t + 1)
        have kt : Kp d c H' (upd H' d (.dK (kvS c l' m (t + 1)))) := ⟨fun b u n1 n2 e => by rw [upd_ne n1]; exact e, hs'.src, ht.src⟩
        dsimp only
        refine st_seq (st_set (v_sget ht kvS_turn (val_var rfl)) ?_)
        dsimp only
        refine st_seq (st_set (v_mod (v_int (vadd (v_sget ht kvS_mixed (val_var rfl)) (v_mulS (val_var rfl) val_c (cmulR (by decide) (by decide))))) val_c (by decide)) ?_)
        dsimp only
        generalize hz : (m + (t + 1) * 104729) % 998244353 = z
        have z0 : 0 ≤ z := by omega
        have z1 : z < 998244353 := by omega
        refine st_seq (st_set (v_mod (v_int (vadd (vmul (val_var rfl) (val_var rfl) (wide_mul (a := 30) (b := 30) (by omega) (by omega) (by decide) (by decide) (by decide))) (v_mulS (val_var rfl) val_c (cmulR (by decide) (by decide))))) val_c (by decide)) ?_)
        dsimp only
        refine done (k'.trans kt) (vdivW (val_var rfl) val_c (by decide) (by decide)) rfl rfl
    · rintro N k σ H' ⟨ns', l', rfl, hs', k', e1, e2, ek⟩ hW hB
      dsimp only
      have hlt : ns'.length - 1 < ns'.length := by
        have : ns'.length ≠ 0 := fun z => e2 (List.eq_nil_of_length_eq_zero z)
        omega
      refine ⟨.ref c, rfl, ?_⟩
      refine ⟨.inl ⟨rfl, _, SqL.of hs'.c⟩, c, ns'.map V.int, .int ns'[ns'.length - 1], rfl, rfl, hs'.c, by rw [List.length_map, List.getElem?_map, List.getElem?_eq_getElem hlt]; rfl, ?_⟩
      rw [← List.map_dropLast]
      have hs2 := hs'.cells (ms := ns'.dropLast)
      refine ⟨.ref d, rfl, ?_⟩
      refine ⟨d, _, rfl, DPut.k (k := Sum.inr ("left" : Str)) hs2.d (by show 4 < sizeLine; decide), ?_⟩
      rw [putS_left]
      have hs3 := hs2.left (z := ns'[ns'.length - 1])
      have k3 : Kp d c H (upd (upd H' c (.lst (ns'.dropLast.map V.int))) d (.dK (kvS c ns'[ns'.length - 1] m t))) :=
        k'.trans ⟨fun b u n1 n2 e => by rw [upd_ne n1, upd_ne n2]; exact e, hs'.src, hs3.src⟩
      by_cases e3 : ns'[ns'.length - 1] < 2 ∧ ns'.dropLast ≠ []
      · exact hW ns'.dropLast.length _ _ (by rw [List.length_dropLast]; omega) ⟨_, _, rfl, hs3, k3, e3.1, e3.2, rfl⟩
      · refine hB _ _ ⟨_, _, rfl, hs3, k3, ?_⟩
        by_cases e4 : ns'[ns'.length - 1] < 2
        · exact .inr (Classical.byContradiction fun z => e3 ⟨e4, z⟩)
        · exact .inl e4
/-- a draw -/
theorem vd_pick {d c : Addr} {σ : L2.St} {H : Hp} {ta tb : TE} {m : Int} (s : Src H d c) (h : Val ta σ H (.ref d)) (g : Val tb σ H (.int m)) (hm : m ≤ 1000) : VD d c (tCall spPick [] E0 (tCons ta (tCons tb tNil))) σ H (DI fun r => 0 ≤ r ∧ (r < m ∨ r = 0)) :=
  vd_call (va2 h g) fun Q k => ⟨d, c, m, rfl, s, hm, fun r H' k' r0 r1 => k _ _ k' ⟨r, rfl, r0, r1⟩⟩
end
end K19
namespace K19
open PySem PySem.Spec L2
theorem w_rng {t : TA} {σ : L2.St} {H : Hp} {n : Nat} {Rr : It → Hp → Prop} (h : ValA t σ H [.int (n : Int)]) (hn : n ≤ 1000) (q : Rr (Itr 0 n) H) : iRng1 t σ H Rr := h _ ⟨(n : Int), rfl, by omega, by omega, by
  rw [show ((n : Int)).toNat = n from Int.toNat_natCast n]; exact q⟩
theorem sidx {k n : Nat} (h : k < n) : seqIndex? (k : Int) n = some k := by
  have h1 : ¬ ((k : Int) < 0) := by omega
  unfold seqIndex?
  simp [h1, h]
section
variable {P : Program} {w : World} {K : PySem.W.Frag} {mg : Str → Option Value} {base : Heap}
/-- the same rows in some order -/
def spAnyOrder (K : PySem.W.Frag) : Sp := fun vs H Q _ => ∃ d c v xs, vs = [.ref d, v] ∧ Src H d c ∧ iCols K H v xs ∧ xs.length ≤ 1000 ∧
  ∀ p H' ys, Kp d c H H' → H p = none → nL (iRow K) H' p ys → ys.length = xs.length → (∀ y ∈ ys, y ∈ xs) → Q (.ref p) H'
theorem sc_w_any_order : FnScope ["_law_source", "_law_things", "_law_spare", "_law_lap"] ["_law_source", "_law_things"] (defScope s_w_any_order) := ⟨rfl, rfl, rfl, by decide +kernel, rfl, by decide +kernel, by decide +kernel⟩
theorem ok_w_any_order (T : Txt K mg) : FnOk P w K mg base CX0 2 T.w_any_order.f T.w_any_order.fd ["_law_source", "_law_things"] (spAnyOrder K) := by
  refine T.w_any_order.F.ok sc_w_any_order (fun vs H Q E h => ?_) (fun cdv A outer s H vs Q E hr h => ?_)
  · obtain ⟨_, _, _, _, rfl, _⟩ := h; rfl
  · obtain ⟨d, c, v, xs, rfl, src, hv, hl, q⟩ := h
    refine ⟨_, (PSs.nox (pss_cons (ps_set (i := 2) sc_w_any_order.nd rfl (.inr rfl) (pe_callTy (k_list K) rfl T.b_list (by decide +kernel) (pa_cons (pv 1) pa_nil))) (pss_one (ps_ret (pe_lc (own := [("_law_lap", 3)]) (g := (gName 3)) (tt := tYes) rfl sc_w_any_order.nd (pi_range1 rfl T.b_range (pa_cons (pe_callB (k_len K) rfl T.b_len (by decide +kernel) (pa_cons (pv 2) pa_nil)) pa_nil)) (blkOk_by (N := ["_law_source", "_law_things", "_law_spare", "_law_lap"]) (sc := defScope s_w_any_order) (by decide +kernel)) (fun _ _ _ _ _ => (pg_name (i := 3) sc_w_any_order.nd rfl (.inl rfl))) (fun _ _ _ _ _ => pts_nil) (fun _ _ _ _ _ => (pe_bmK K PySem.F.plainAttrs_list PySem.F.slot_list_pop PySem.F.type_list_pop mt_popAt (pv 2) (pa_cons (pcall T.w_pick (ok_w_pick T) (hr.mono (by decide)) (pa_cons (pv 0) (pa_cons (pe_callB (k_len K) rfl T.b_len (by decide +kernel) (pa_cons (pv 2) pa_nil)) pa_nil))) pa_nil)))))))), ?_⟩
    refine st_seq (st_set' (R := NewL (iRow K) H xs) (vs_list (k1 := false) mRow (vsv (val_var rfl) hv)) fun u H1 s1 hu => ?_)
    obtain ⟨s, rfl, hs, hn⟩ := hu
    have src1 := src.same s1
    have sc : s ≠ c := (src.nd hs).2
    dsimp only
    refine st_rt2 ?_
    refine w_rng (n := xs.length) (va1 (v_len (k1 := false) (R := iRow K) (val_var rfl) hn.iL)) hl ?_
    intro D hD
    have hDs : D ≠ s := fun e => by obtain ⟨ws, e1, _⟩ := hn; rw [e, e1] at hD; cases hD
    have hD0 : H D = none := s1.free hD
    have wk := (walk_range (lo := 0) (n := xs.length)).mono (G' := Kp d c H) (Y' := fun _ H _ H' => H' = H) (fun _ _ => trivial) (fun j H v H' hj _ y => y.1)
    refine lc_it wk (fun j H' => Kp d c H H' ∧ ∃ rest acc zs, nL (iRow K) H' s rest ∧ rest.length = xs.length - j ∧ (∀ y ∈ rest, y ∈ xs) ∧ H' D = some (.lst acc) ∧ Paired (iRow K H') acc zs ∧ zs.length = j ∧ ∀ z ∈ zs, z ∈ xs) ?_ (fun j H' _ h => h.1) ?_ ?_
    · refine ⟨(Kp.of src s1).put hD0, xs, [], [], ?_, rfl, fun _ h => h, upd_same, .nil, rfl, by simp⟩
      obtain ⟨ws, e1, e2⟩ := hn
      exact ⟨ws, by rw [upd_ne hDs.symm]; exact e1, paired_mono mRow (same_new hD) e2⟩
    · rintro j x H2 H3 hj ⟨k2, rest, acc, zs, ⟨ws, e1, e2⟩, rl, rm, hacc, hp, hzl, hzm⟩ e
      have e : H3 = H2 := e
      subst e
      refine ⟨rfl, ?_⟩
      refine ⟨.ref s, rfl, ?_⟩
      refine ⟨.inl ⟨rfl, _, SqL.of e1⟩, ?_⟩
      refine vda1 (vd_pick (d := d) (c := c) k2.src (val_var (i := 0) rfl) (v_len (k1 := false) (R := iRow K) (xs := rest) (val_var (i := 2) (v := .ref s) rfl) ⟨s, ws, rfl, SqL.of e1, e2⟩) (by omega)) _ fun vs H4 k4 ⟨y, ey, r, er, r0, r1⟩ => ?_
      subst ey er
      obtain ⟨rn, rfl⟩ := Int.eq_ofNat_of_zero_le r0
      have hlt : rn < rest.length := by omega
      have e14 : H4 s = some (.lst ws) := k4.lst sc e1
      have e24 : Paired (iRow K H4) ws rest := paired_km kRow k4 e2
      obtain ⟨y, hy1, hy2⟩ := pgetR e24 (List.getElem?_eq_getElem hlt)
      have hD4 : H4 D = some (.lst acc) := k4.lst (src.nd hD0).2 hacc
      refine ⟨s, ws, (rn : Int), rn, y, rfl, rfl, e14, by omega, by omega, sidx (by rw [plen e24]; exact hlt), hy1, ?_⟩
      have ks := (k2.trans k4).put (o := .lst (ws.eraseIdx rn)) hs
      have hD5 : (upd H4 s (.lst (ws.eraseIdx rn))) D = some (.lst acc) := by rw [upd_ne hDs]; exact hD4
      refine ⟨acc, hD5, ?_, ks.put hD0, rest.eraseIdx rn, acc ++ [y], zs ++ [rest[rn]], ⟨ws.eraseIdx rn, by rw [upd_ne hDs.symm]; exact upd_same, ?_⟩, ?_, ?_, upd_same, ?_, by simp [hzl], ?_⟩
      · rw [plen hp, hzl]; exact Nat.lt_of_lt_of_le hj (sizeLine_ge hl)
      · exact Paired.mapP (perase rn e24) fun _ _ r => robRow.to hD5 trivial (robRow.to e14 trivial r)
      · rw [List.length_eraseIdx_of_lt hlt]; omega
      · exact fun z hz => rm z (List.mem_of_mem_eraseIdx hz)
      · have q4 : Paired (iRow K H4) acc zs := paired_km kRow k4 hp
        exact papp (Paired.mapP q4 fun _ _ r => robRow.to hD5 trivial (robRow.to e14 trivial r)) (.cons (robRow.to hD5 trivial (robRow.to e14 trivial hy2)) .nil)
      · intro z hz
        rcases List.mem_append.mp hz with h | h
        · exact hzm z h
        · rw [List.mem_singleton] at h; subst h; exact rm _ (List.getElem_mem hlt)
    · rintro H2 ⟨k2, rest, acc, zs, _, _, _, hacc, hp, hzl, hzm⟩
      exact q D H2 zs k2 hD0 ⟨acc, hacc, hp⟩ hzl hzm
end
end K19
namespace K19
open PySem PySem.Spec L2
theorem gr_draw {n d : Int} {w : Nat} (hd : d = 1 ∨ d = 2 ∨ d = 3) (hn : n.natAbs ≤ w * d.natAbs) : Gr 6 (6 * w) (Rat.divInt n d) := by
  rcases hd with rfl | rfl | rfl
  · refine ⟨n * 6, ?_, by rw [Int.natAbs_mul]; show n.natAbs * 6 ≤ _; have : n.natAbs ≤ w * 1 := hn; omega⟩
    rw [Rat.divInt_eq_div, Rat.intCast_mul]
    show (n : Rat) / 1 * 6 = n * 6
    grind
  · refine ⟨n * 3, ?_, by rw [Int.natAbs_mul]; show n.natAbs * 3 ≤ _; have : n.natAbs ≤ w * 2 := hn; omega⟩
    rw [Rat.divInt_eq_div, Rat.intCast_mul]
    show (n : Rat) / 2 * 6 = n * 3
    grind
  · refine ⟨n * 2, ?_, by rw [Int.natAbs_mul]; show n.natAbs * 2 ≤ _; have : n.natAbs ≤ w * 3 := hn; omega⟩
    rw [Rat.divInt_eq_div, Rat.intCast_mul]
    show (n : Rat) / 3 * 6 = n * 2
    grind
section
variable {P : Program} {w : World} {K : PySem.W.Frag} {mg : Str → Option Value} {base : Heap}
theorem t_opL {t : TA} {r : R2} {tb : TE} {vs : List V} {σ : L2.St} {H : Hp} {Q : VK} (h : ValA t σ H vs) (hl : vs.length ≤ sizeLine) (q : ∀ l, H l = none → tb σ (upd H l (.lst vs)) fun y H2 => r (.ref l) y H2 Q) : tOp r (tLst t) tb σ H Q := h _ ⟨hl, q⟩
def spDrawF (K : PySem.W.Frag) : Sp := fun vs H Q _ => ∃ d c, ∃ m : Nat, vs = [.ref d, .int (m : Int)] ∧ Src H d c ∧ m ≤ 4 ∧ ∀ u q H', Kp d c H H' → iQ K H' u q → Gr 6 (6 * m) q → Q u H'
theorem sc_w_draw_fraction : FnScope ["_law_source", "_law_wide", "_law_d"] ["_law_source", "_law_wide"] (defScope s_w_draw_fraction) := ⟨rfl, rfl, rfl, by decide +kernel, rfl, by decide +kernel, by decide +kernel⟩
theorem ok_w_draw_fraction (T : Txt K mg) : FnOk P w K mg base CX0 3 T.w_draw_fraction.f T.w_draw_fraction.fd ["_law_source", "_law_wide"] (spDrawF K) := by
  refine T.w_draw_fraction.F.ok sc_w_draw_fraction (fun vs H Q E h => ?_) (fun cdv A outer s H vs Q E hr h => ?_)
  · obtain ⟨_, _, _, rfl, _⟩ := h; rfl
  · obtain ⟨d, c, m, rfl, src, hm, q⟩ := h
    refine ⟨_, (PSs.nox (pss_cons (ps_set (i := 2) sc_w_draw_fraction.nd rfl (.inl rfl) (pe_ix (ix_listK K) (pe_lst (pa_cons pe_int (pa_cons pe_int (pa_cons pe_int (pa_cons pe_int (pa_cons pe_int pa_nil)))))) (pcall T.w_pick (ok_w_pick T) (hr.mono (by decide)) (pa_cons (pv 0) (pa_cons pe_int pa_nil))) (fun _ _ => rfl))) (pss_one (ps_ret (pcall T.w_fraction (ok_w_fraction T) (hr.mono (by decide)) (pa_cons (pe_op op_sub (pcall T.w_pick (ok_w_pick T) (hr.mono (by decide)) (pa_cons (pv 0) (pa_cons (pe_op op_add (pe_op op_mul (pe_op op_mul pe_int (pv 1)) (pv 2)) pe_int) pa_nil))) (pe_op op_mul (pv 1) (pv 2))) (pa_cons (pv 2) pa_nil))))))), ?_⟩
    refine st_seq (st_setD (d := d) (c := c) (R := DI fun z => z = 1 ∨ z = 2 ∨ z = 3) (fun Q' k => ?_) fun v H1 k1 ⟨z, ez, hz⟩ => ?_)
    · refine t_opL (va_cons val_c (va_cons val_c (va_cons val_c (va2 val_c val_c)))) (by show 5 ≤ sizeLine; decide) fun l hl => ?_
      have k0 : Kp d c H (upd H l (.lst [.int 1, .int 1, .int 1, .int 2, .int 3])) := .of src (same_new hl)
      refine vd_pick (d := d) (c := c) k0.src (val_var (i := 0) rfl) val_c (by decide) _ fun v H1 k1 ⟨r, er, r0, r1⟩ => ?_
      subst er
      have hl1 : H1 l = some (.lst [.int 1, .int 1, .int 1, .int 2, .int 3]) := k1.lst (src.nd hl).2 upd_same
      obtain ⟨rn, rfl⟩ := Int.eq_ofNat_of_zero_le r0
      have hr : rn = 0 ∨ rn = 1 ∨ rn = 2 ∨ rn = 3 ∨ rn = 4 := by omega
      rcases hr with rfl | rfl | rfl | rfl | rfl
      · exact ⟨l, _, _, .int 1, rfl, rfl, SqL.of hl1, rfl, k _ _ (k0.trans k1) ⟨1, rfl, .inl rfl⟩⟩
      · exact ⟨l, _, _, .int 1, rfl, rfl, SqL.of hl1, rfl, k _ _ (k0.trans k1) ⟨1, rfl, .inl rfl⟩⟩
      · exact ⟨l, _, _, .int 1, rfl, rfl, SqL.of hl1, rfl, k _ _ (k0.trans k1) ⟨1, rfl, .inl rfl⟩⟩
      · exact ⟨l, _, _, .int 2, rfl, rfl, SqL.of hl1, rfl, k _ _ (k0.trans k1) ⟨2, rfl, .inr (.inl rfl)⟩⟩
      · exact ⟨l, _, _, .int 3, rfl, rfl, SqL.of hl1, rfl, k _ _ (k0.trans k1) ⟨3, rfl, .inr (.inr rfl)⟩⟩
    subst ez
    dsimp only
    have hwd : ((m : Int) * z).natAbs = m * z.natAbs := by rw [Int.natAbs_mul, Int.natAbs_natCast]
    have hz3 : 1 ≤ z ∧ z ≤ 3 := by rcases hz with rfl | rfl | rfl <;> decide
    have hmz0 : 0 ≤ (m : Int) * z := Int.mul_nonneg (by omega) (by omega)
    have hmz1 : (m : Int) * z ≤ 12 := by
      rcases hz with rfl | rfl | rfl <;> omega
    have e2 : (2 : Int) * (m : Int) * z = 2 * ((m : Int) * z) := Int.mul_assoc ..
    refine st_retD (d := d) (c := c) (R := fun u H' => ∃ q, iQ K H' u q ∧ Gr 6 (6 * m) q) (vd_callS (vda2l (vd_subR (vd_pick (m := 2 * (m : Int) * z + 1) k1.src (val_var rfl) (vadd (v_mulS (v_mulS val_c (val_var rfl) (.inl ⟨by decide, by decide⟩)) (val_var rfl) (cmulR (by omega) (by omega))) val_c) (by omega)) fun H2 => v_mulS (val_var rfl) (val_var rfl) (cmulR (by omega) (by omega))) fun H2 => val_var rfl) ?_) fun u H2 k2 ⟨x, hx, hg⟩ => q u x H2 (k1.trans k2) hx hg
    rintro vs H2 k2 ⟨r, rfl, s, rfl, s0, s1⟩ Q' k
    refine ⟨_, _, rfl, by omega, by unfold Bd; exact Nat.lt_of_lt_of_le (by omega : z.natAbs < 2 ^ 2) (Nat.pow_le_pow_right (by decide) (by decide)), fun u H3 s3 hu => k u H3 (.of k2.src s3) ⟨_, hu, gr_draw hz ?_⟩⟩
    rw [← hwd]; omega
def spDrawRow (K : PySem.W.Frag) : Sp := fun vs H Q _ => ∃ d c, ∃ n m : Nat, vs = [.ref d, .int (n : Int), .int (m : Int)] ∧ Src H d c ∧ n ≤ 1000 ∧ m ≤ 4 ∧ ∀ u xs H', Kp d c H H' → iRow K H' u xs → xs.length = n → (∀ x ∈ xs, Gr 6 (6 * m) x) → Q u H'
theorem sc_w_draw_row : FnScope ["_law_source", "_law_many", "_law_wide", "_law_k"] ["_law_source", "_law_many", "_law_wide"] (defScope s_w_draw_row) := ⟨rfl, rfl, rfl, by decide +kernel, rfl, by decide +kernel, by decide +kernel⟩
theorem ok_w_draw_row (T : Txt K mg) : FnOk P w K mg base CX0 4 T.w_draw_row.f T.w_draw_row.fd ["_law_source", "_law_many", "_law_wide"] (spDrawRow K) := by
  refine T.w_draw_row.F.ok sc_w_draw_row (fun vs H Q E h => ?_) (fun cdv A outer s H vs Q E hr h => ?_)
  · obtain ⟨_, _, _, _, rfl, _⟩ := h; rfl
  · obtain ⟨d, c, n, m, rfl, src, hn, hm, q⟩ := h
    refine ⟨_, (PSs.nox (pss_one (ps_ret (pe_callTy (k_tuple K) rfl T.b_tuple (by decide +kernel) (pa_cons (pe_lc (own := [("_law_k", 3)]) (g := (gName 3)) (tt := tYes) rfl sc_w_draw_row.nd (pi_range1 rfl T.b_range (pa_cons (pv 1) pa_nil)) (blkOk_by (N := ["_law_source", "_law_many", "_law_wide", "_law_k"]) (sc := defScope s_w_draw_row) (by decide +kernel)) (fun _ _ _ _ _ => (pg_name (i := 3) sc_w_draw_row.nd rfl (.inl rfl))) (fun _ _ _ _ _ => pts_nil) (fun _ _ _ _ _ => (pcall T.w_draw_fraction (ok_w_draw_fraction T) (hr.mono (by decide)) (pa_cons (pv 0) (pa_cons (pv 2) pa_nil))))) pa_nil))))), ?_⟩
    refine st_retD (d := d) (c := c) (vd_tuple (Z := iQ K) mQ (vd_lcR (Pz := Gr 6 (6 * m)) (A := fun k => k = n) robQ kQ src (fun Q' k => val_var (i := 1) (v := .int (n : Int)) rfl _ (k _ _ (.refl src) ⟨n, rfl, rfl⟩)) (fun k hk => by omega) (fun _ => rfl) fun v H1 k1 => ?_)) fun u H1 k1 ⟨zs, hu, hl, hz⟩ => q u zs H1 k1 hu hl hz
    exact vd_call (va2 (val_var (i := 0) rfl) (val_var (i := 2) rfl)) fun Q' k => ⟨d, c, m, rfl, k1.src, hm, fun u x H2 k2 hx hg => k u H2 k2 ⟨x, hx, hg⟩⟩
end
end K19
namespace K19
open PySem PySem.Spec L2
/-- rows as they are drawn -/
structure DR (m : Nat) (rows : List (List Rat)) : Prop where
  pos : 1 ≤ rows.length
  few : rows.length ≤ 5
  lens : ∀ r ∈ rows, r.length = m
  gr : ∀ r ∈ rows, ∀ x ∈ r, Gr 6 144 x
section
variable {K : PySem.W.Frag} {α : Type} {R : Rp α} {σ : L2.St} {H : Hp} {ta tb te : TE}
theorem st_appendR {D : Ends} {a : Addr} {xs : List α} {Px : α → Prop} (rb : Rob noNE R) (mR : Mon R) (h : Val ta σ H (.ref a)) (hn : nL R H a xs) (g : VS tb σ H (fun v H' => ∃ x, R H' v x ∧ Px x)) (hl : xs.length < 1000)
    (q : ∀ H' vs' x, Same H H' → Px x → nL R (upd H' a (.lst vs')) a (xs ++ [x]) → D.nx σ (upd H' a (.lst vs'))) : tDrop (tBM K "list" rAppend ta (tCons tb tNil)) D σ H := by
  obtain ⟨vs, h1, h2⟩ := hn
  refine h _ ⟨.inl ⟨rfl, _, SqL.of h1⟩, g _ fun v H1 s1 ⟨x, hv, hx⟩ => ?_⟩
  have h3 := s1 _ _ h1
  refine ⟨a, vs, v, rfl, rfl, h3, Nat.lt_of_lt_of_le (show vs.length < 1000 by rw [plen h2]; exact hl) (sizeLine_ge (Nat.le_refl _)), q H1 (vs ++ [v]) x s1 hx ⟨_, upd_same, ?_⟩⟩
  exact papp (Paired.mapP (paired_mono mR s1 h2) fun _ _ r => rb.to h3 trivial r) (.cons (rb.to h3 trivial hv) .nil)
/-- an item set at a drawn place -/
theorem st_putD {d c : Addr} {to ti : TE} {D : L2.Ends} {a : Addr} {xs : List α} {x : α} (rb : Rob noNE R) (mR : Mon R) (kR : KM R) (src : Src H d c) (ac : a ≠ c) (h : VS te σ H (fun v H' => R H' v x)) (ho : ∀ H', Same H H' → Val to σ H' (.ref a))
    (hi : ∀ H', Same H H' → VD d c ti σ H' (DI fun r => 0 ≤ r ∧ (r < (xs.length : Int) ∨ r = 0))) (hn : nL R H a xs) (h0 : 0 < xs.length)
    (q : ∀ H' vs' (i : Nat), Kp d c H H' → nL R (upd H' a (.lst vs')) a (xs.set i x) → D.nx σ (upd H' a (.lst vs'))) : tAsg te (gSub to ti rSetL) D σ H := by
  refine h _ fun v H1 s1 hv => ho H1 s1 _ (hi H1 s1 _ fun u H2 k2 ⟨r, er, r0, r1⟩ => ?_)
  obtain ⟨vs, h1, h2⟩ := hn
  obtain ⟨rn, rfl⟩ := Int.eq_ofNat_of_zero_le r0
  have k := (Kp.of src s1).trans k2
  have h3 := k.lst ac h1
  refine ⟨a, vs, (rn : Int), rn, rfl, er, h3, ixN_at (by rw [plen h2]; omega), q H2 (vs.set rn v) rn k ⟨_, upd_same, ?_⟩⟩
  exact pset (rb.to h3 trivial (kR.to k2 hv)) rn (Paired.mapP (paired_km kR k h2) fun _ _ r => rb.to h3 trivial r)
theorem vs_ixLast {v : V} {xs : List α} {x : α} (h : Val ta σ H v) (hv : iL K R H v xs) (hx : xs[xs.length - 1]? = some x) (h0 : xs ≠ []) : VS (tOp (rIxL K) ta (tUn (rU fun i => V.int (-i)) (tC (V.int 1)))) σ H (fun u H' => R H' u x) := fun Q k => by
  obtain ⟨a, vs, rfl, q, p⟩ := hv
  obtain ⟨u, hu, hr⟩ := pgetR p hx
  have hne : vs ≠ [] := fun e => by
    have := plen p
    rw [e] at this
    exact h0 (List.eq_nil_of_length_eq_zero this.symm)
  have e := (List.dropLast_concat_getLast hne).symm
  have e2 : vs[vs.length - 1]? = some (vs.getLast hne) := by rw [List.getLast_eq_getElem]; exact List.getElem?_eq_getElem _
  rw [plen p, hu] at e2
  injection e2 with e2
  refine h _ (val_neg1 _ ⟨a, vs, -1, u, rfl, rfl, q, ?_, k _ _ (Same.refl _) hr⟩)
  rw [e, e2]
  exact atI_last _ _
end
section
variable {P : Program} {w : World} {K : PySem.W.Frag} {mg : Str → Option Value} {base : Heap}
def spDrawRows (K : PySem.W.Frag) : Sp := fun vs H Q _ => ∃ d c, ∃ m : Nat, vs = [.ref d, .int (m : Int), .int 5, .int 3] ∧ Src H d c ∧ m ≤ 100 ∧
  ∀ p H' rows, Kp d c H H' → H p = none → nL (iRow K) H' p rows → DR m rows → Q (.ref p) H'
theorem vs_zeroRow {σ : L2.St} {H : Hp} {tb : TE} {m : Nat} (g : ∀ H', Same H H' → Val tb σ H' (.int (m : Int))) (hm : m ≤ 1000) : VS (tCB (rTupK K) (tCons (tOp rRep (tLst (tCons (tTup (tCons (tC (.int 0)) (tCons (tC (.int 1)) tNil))) tNil)) tb) tNil)) σ H (fun u H' => iRow K H' u (List.replicate m 0)) :=
  vs_tuple mQ (vs_rep (x := (0 : Rat)) (n := m) mQ (vs_lit (K := K) (q := 0) rfl rfl) g hm)
theorem sc_w_draw_rows : FnScope ["_law_source", "_law_many", "_law_most", "_law_wide", "_law_rows", "_law_lap", "_law_road", "_law_some", "_law_one"] ["_law_source", "_law_many", "_law_most", "_law_wide"] (defScope s_w_draw_rows) := ⟨rfl, rfl, rfl, by decide +kernel, rfl, by decide +kernel, by decide +kernel⟩
theorem ok_w_draw_rows (T : Txt K mg) : FnOk P w K mg base CX0 6 T.w_draw_rows.f T.w_draw_rows.fd ["_law_source", "_law_many", "_law_most", "_law_wide"] (spDrawRows K) := by
  refine T.w_draw_rows.F.ok sc_w_draw_rows (fun vs H Q E h => ?_) (fun cdv A outer s H vs Q E hr h => ?_)
  · obtain ⟨_, _, _, rfl, _⟩ := h; rfl
  · obtain ⟨d, c, m, rfl, src, hm, q⟩ := h
    refine ⟨_, (PSs.nox (pss_cons (ps_setLc (i := 4) (own := [("_law_lap", 5)]) (g := (gName 5)) (tt := tYes) rfl sc_w_draw_rows.nd rfl rfl (sw_true rfl rfl rfl (by decide +kernel)) (pi_range1 rfl T.b_range (pa_cons (pe_op op_add pe_int (pcall T.w_pick (ok_w_pick T) (hr.mono (by decide)) (pa_cons (pv 0) (pa_cons (pv 2) pa_nil)))) pa_nil)) (blkOk_by (N := ["_law_source", "_law_many", "_law_most", "_law_wide", "_law_rows", "_law_lap", "_law_road", "_law_some", "_law_one"]) (sc := defScope s_w_draw_rows) (by decide +kernel)) (fun _ _ _ _ _ => (pg_name (i := 5) sc_w_draw_rows.nd rfl (.inl rfl))) (fun _ _ _ _ _ => pts_nil) (fun _ _ _ _ _ => (pcall T.w_draw_row (ok_w_draw_row T) (hr.mono (by decide)) (pa_cons (pv 0) (pa_cons (pv 1) (pa_cons (pv 3) pa_nil)))))) (pss_cons (ps_set (i := 6) sc_w_draw_rows.nd rfl (.inl rfl) (pcall T.w_pick (ok_w_pick T) (hr.mono (by decide)) (pa_cons (pv 0) (pa_cons pe_int pa_nil)))) (pss_cons (ps_if (PW.pt (pw_and (pt_cmpR op_lt (pv 6) pe_int (nomark _)) (pw_and1 (pt_cmpR op_lt (pe_callB (k_len K) rfl T.b_len (by decide +kernel) (pa_cons (pv 4) pa_nil)) (pv 2) (nomark _))))) (pss_cons (ps_setLc (i := 7) (own := [("_law_one", 8)]) (g := (gName 8)) (tt := tYes) rfl sc_w_draw_rows.nd rfl rfl (sw_true rfl rfl rfl (by decide +kernel)) (pi_listK K (pv 4)) (blkOk_by (N := ["_law_source", "_law_many", "_law_most", "_law_wide", "_law_rows", "_law_lap", "_law_road", "_law_some", "_law_one"]) (sc := defScope s_w_draw_rows) (by decide +kernel)) (fun _ _ _ _ _ => (pg_name (i := 8) sc_w_draw_rows.nd rfl (.inl rfl))) (fun _ _ _ _ _ => pts_nil) (fun _ _ _ _ _ => (pe_tup (pa_cons (pe_op op_add pe_int (pcall T.w_pick (ok_w_pick T) (hr.mono (by decide)) (pa_cons (pv 0) (pa_cons pe_int pa_nil)))) (pa_cons pe_int pa_nil))))) (pss_one (ps_expr (pe_bmK K PySem.F.plainAttrs_list PySem.F.slot_list_append PySem.F.type_list_append mt_append (pv 4) (pa_cons (pcall T.w_row_times (ok_w_row_times T) (hr.mono (by decide)) (pa_cons (pcall T.w_reached (ok_w_reached T) (hr.mono (by decide)) (pa_cons (pv 4) (pa_cons (pv 7) (pa_cons (pv 1) pa_nil)))) (pa_cons (pe_tup (pa_cons (pe_op op_sub pe_int pe_int) (pa_cons pe_int pa_nil))) pa_nil))) pa_nil))))) (pss_one (ps_if (pt_cmpR op_eq (pv 6) pe_int (nomark _)) (pss_one (ps_asg (pe_ix (ix_listK K) (pv 4) (pe_un un_neg pe_int) (fun _ _ => rfl)) (pg_sub (pv 4) pe_int set_list))) (pss_one (ps_if (pt_cmpR op_eq (pv 6) pe_int (nomark _)) (pss_one (ps_asg (pe_callTy (k_tuple K) rfl T.b_tuple (by decide +kernel) (pa_cons (pe_op op_rep (pe_lst (pa_cons (pe_tup (pa_cons pe_int (pa_cons pe_int pa_nil))) pa_nil)) (pv 1)) pa_nil)) (pg_sub (pv 4) (pcall T.w_pick (ok_w_pick T) (hr.mono (by decide)) (pa_cons (pv 0) (pa_cons (pe_callB (k_len K) rfl T.b_len (by decide +kernel) (pa_cons (pv 4) pa_nil)) pa_nil))) set_list))) pss_nil))))) (pss_one (ps_ret (pcall T.w_any_order (ok_w_any_order T) (hr.mono (by decide)) (pa_cons (pv 0) (pa_cons (pv 4) pa_nil))))))))), ?_⟩
    refine st_seq (st_setD (d := d) (c := c) (R := NewD (iRow K) H fun rows => (1 ≤ rows.length ∧ rows.length ≤ 5) ∧ ∀ r ∈ rows, r.length = m ∧ ∀ x ∈ r, Gr 6 18 x) (vd_lcR (Pz := fun r => r.length = m ∧ ∀ x ∈ r, Gr 6 18 x) (A := fun k => 1 ≤ k ∧ k ≤ 5) robRow kRow src (fun Q' k => ?_) (fun k hk => by omega) (fun _ => rfl) fun v H1 k1 => ?_) fun u H1 k1 hu => ?_)
    · refine vda1 (vd_addL (fun _ => val_c) (vd_pick (d := d) (c := c) src (val_var (i := 0) rfl) (val_var (i := 2) rfl) (by decide))) _ fun vs H1 k1 ⟨y, ey, r, er, s, es, s0, s1⟩ => ?_
      subst ey er es
      obtain ⟨sn, rfl⟩ := Int.eq_ofNat_of_zero_le s0
      exact k _ _ k1 ⟨1 + sn, by rw [Int.natCast_add]; rfl, by omega, by omega⟩
    · exact vd_call (va_cons (val_var (i := 0) rfl) (va2 (val_var (i := 1) rfl) (val_var (i := 3) rfl))) fun Q' k => ⟨d, c, m, 3, rfl, k1.src, by omega, by decide, fun u xs H2 k2 hx hl hg => k u H2 k2 ⟨xs, hx, hl, hg⟩⟩
    obtain ⟨p, rows, rfl, hp, hn, ⟨hr1, hr5⟩, hr⟩ := hu
    have pc : p ≠ c := (src.nd hp).2
    have hdr : DR m rows := ⟨hr1, hr5, fun r h => (hr r h).1, fun r h x hx => ((hr r h).2 x hx).mono (by decide)⟩
    dsimp only
    refine st_seq (st_setD (d := d) (c := c) (vd_pick k1.src (val_var rfl) val_c (by decide)) fun v H2 k2 ⟨road, er, r0, r1⟩ => ?_)
    subst er
    dsimp only
    have k12 := k1.trans k2
    have hn2 := k2.nl kRow pc hn
    refine st_seq ?_
    have done : ∀ {σ' : L2.St} {H' : Hp} {rows' : List (List Rat)} {D : Ends}, Kp d c H H' → σ'[0]? = some (some (.ref d)) → σ'[4]? = some (some (.ref p)) → nL (iRow K) H' p rows' → DR m rows' → D.rt = Q → tRet (tCall (spAnyOrder K) [] E0 (tCons (tVar 0) (tCons (tVar 4) tNil))) D σ' H' := fun {σ' H' rows' D} k' e0 e4 hn' hd' eD => by
      refine sret_call (va2 (val_var e0) (val_var e4)) ⟨d, c, .ref p, rows', rfl, k'.src, hn'.iL, by have := hd'.few; omega, fun p2 H3 ys k3 hp2 hy hl hm => ?_⟩
      rw [eD]
      exact q p2 H3 ys (k'.trans k3) (k'.free hp2) hy ⟨by have := hd'.pos; omega, by have := hd'.few; omega, fun r h => hd'.lens r (hm r h), fun r h => hd'.gr r (hm r h)⟩
    have hlen2 : ∀ {H' : Hp} {σ' : L2.St}, Same H2 H' → σ'[4]? = some (some (.ref p)) → Val (tCB (rLenK K) (tCons (tVar 4) tNil)) σ' H' (.int (rows.length : Int)) := fun s e => v_len (k1 := false) (R := iRow K) (val_var e) ((mL mRow).to s hn2.iL)
    by_cases b1 : road < 2 ∧ rows.length < 5
    · refine st_yes' (as_of (ans_and (ans_lt (val_var (i := 6) (v := .int road) rfl) val_c (decide_eq_true b1.1)) (ans_lt (hlen2 (Same.refl _) rfl) (val_var (i := 2) (v := .int 5) rfl) (decide_eq_true (by omega))))) fun H3 s3 => ?_
      have hn3 : nL (iRow K) H3 p rows := let ⟨vs, g1, g2⟩ := hn2; ⟨vs, s3 _ _ g1, paired_mono mRow s3 g2⟩
      have k3 := k12.same s3
      refine st_seq (st_setD (d := d) (c := c) (vd_lcL (Z := iQ K) (Pz := Gr 1 2) robQ kQ k3.src (val_var rfl) pc hn3 (by omega) (fun _ => rfl) fun v H4 k4 => ?_) fun u H4 k4 hu => ?_)
      · intro Q' k
        refine vd_addL (fun _ => val_c) (vd_pick (d := d) (c := c) k4.src (val_var (i := 0) rfl) val_c (by decide)) _ fun v H5 k5 ⟨z, ez, s, es, s0, s1⟩ => ?_
        subst ez es
        refine val_c _ ⟨by show 2 ≤ sizeLine; decide, fun a ha => k _ _ (k5.same (same_new ha)) ⟨((1 + s : Int) : Rat), newQ (q := ((1 + s : Int) : Rat)) rfl rfl, 1 + s, ?_, by omega⟩⟩
        show ((1 + s : Int) : Rat) * 1 = _
        grind
      obtain ⟨pa, xs, rfl, hpa, hxs, hxl, hxg⟩ := hu
      have hn4 := k4.nl kRow pc hn3
      have k04 := k3.trans k4
      dsimp only
      have hcg : ∀ r ∈ rows, r.length = m ∧ ∀ x ∈ r, Gr 6 18 x := hr
      have hcg : ∀ r ∈ rows, r.length = m ∧ ∀ x ∈ r, Gr 6 18 x := hr
      refine st_appendR (Px := fun r => r.length = m ∧ ∀ x ∈ r, Gr 6 144 x) robRow mRow (val_var rfl) hn4 (vs_callS (vsaTT (R := fun y H' => ∃ zs, iRow K H' y zs ∧ zs.length = m ∧ ∀ z ∈ zs, Gr 6 144 z) (S := fun y H' => iQ K H' y (-1)) (vs_call (va_cons (val_var rfl) (va2 (val_var rfl) (val_var rfl))) fun Q' k => ⟨.ref p, .ref pa, rows, xs, m, 6, 18, 1, 2, rfl, hn4.iL, hxs.iL, hr, hxg, hr5, hxl, hm, by decide, by decide, by decide, by decide, by decide, by decide, fun y H' zs s hy hl hz => k y H' s ⟨zs, hy, hl, fun z hz' => (hz z hz').mono ?_⟩⟩) (fun H5 s5 => vs_m1 (K := K)) fun _ _ _ s ⟨zs, a1, a2⟩ => ⟨zs, mRow.to s a1, a2⟩) ?_) (by omega) fun H5 vs' x s5 hx hn5 => ?_
      · have : rows.length * (18 * 2) ≤ 4 * (18 * 2) := Nat.mul_le_mul_right _ (by omega)
        omega
      · rintro vs H5 s5 ⟨y, z, rfl, ⟨zs, hy, hyl, hyg⟩, hz⟩ Q' k
        refine ⟨y, z, zs, -1, rfl, hy, hz, fun x hx => ((hyg x hx).sz (k := 20) (by decide) (by decide) (by decide) (by decide)).mono (by decide), limG.sz.mono (by decide), by omega, fun r H6 s6 hr6 => k r H6 s6 ⟨_, hr6, by rw [List.length_map]; exact hyl, fun x hx => ?_⟩⟩
        obtain ⟨x', hx', rfl⟩ := List.mem_map.mp hx
        obtain ⟨i, e1, e2⟩ := hyg x' hx'
        refine ⟨-i, ?_, by rw [Int.natAbs_neg]; exact e2⟩
        rw [Rat.intCast_neg, ← e1]; grind
      · refine done ((k04.same s5).put hp) rfl rfl hn5 ⟨by rw [List.length_append]; omega, by rw [List.length_append]; show _ + 1 ≤ 5; omega, fun r h => ?_, fun r h => ?_⟩ rfl
        · rcases List.mem_append.mp h with h | h
          · exact hdr.lens r h
          · rw [List.mem_singleton] at h; subst h; exact hx.1
        · rcases List.mem_append.mp h with h | h
          · exact hdr.gr r h
          · rw [List.mem_singleton] at h; subst h; exact hx.2
    · refine st_no (D := _) ?_ ?_
      · by_cases b2 : road < 2
        · exact ans_and (ans_lt (val_var (i := 6) (v := .int road) rfl) val_c (decide_eq_true b2)) (ans_lt (hlen2 (Same.refl _) rfl) (val_var (i := 2) (v := .int 5) rfl) (decide_eq_false (fun z => b1 ⟨b2, by omega⟩)))
        · exact ans_and0 (ans_lt (val_var (i := 6) (v := .int road) rfl) val_c (decide_eq_false b2))
      have drset : ∀ {i : Nat} {x : List Rat}, x.length = m → (∀ q ∈ x, Gr 6 144 q) → DR m (rows.set i x) := fun {i x} x1 x2 => ⟨by rw [List.length_set]; exact hr1, by rw [List.length_set]; exact hr5, fun r h => by
        rcases List.mem_or_eq_of_mem_set h with h | h
        · exact hdr.lens r h
        · subst h; exact x1, fun r h => by
        rcases List.mem_or_eq_of_mem_set h with h | h
        · exact hdr.gr r h
        · subst h; exact x2⟩
      by_cases b2 : road = 2
      · refine st_yes' (as_test (vsv (v_eq (val_var (v := .int road) rfl) val_c rfl) (by rw [b2]; rfl))) fun H3 s3 => ?_
        have hn3 : nL (iRow K) H3 p rows := let ⟨vs, g1, g2⟩ := hn2; ⟨vs, s3 _ _ g1, paired_mono mRow s3 g2⟩
        have hlt : rows.length - 1 < rows.length := by omega
        refine st_put (i := 0) robRow mRow (vs_ixLast (val_var rfl) hn3.iL (List.getElem?_eq_getElem hlt) (fun e => by rw [e] at hr1; exact absurd hr1 (by decide))) (fun _ _ => val_var rfl) (fun _ _ => val_c) hn3 (by omega) fun H4 vs' s4 hn4 => ?_
        exact done (((k12.same s3).same s4).put hp) rfl rfl hn4 (drset (hdr.lens _ (List.getElem_mem hlt)) (hdr.gr _ (List.getElem_mem hlt))) rfl
      · refine st_no (ans_eqI (val_var (i := 6) (v := .int road) rfl) val_c (decide_eq_false b2)) ?_
        by_cases b3 : road = 3
        · refine st_yes' (as_test (vsv (v_eq (val_var (v := .int road) rfl) val_c rfl) (by rw [b3]; rfl))) fun H3 s3 => ?_
          have hn3 : nL (iRow K) H3 p rows := let ⟨vs, g1, g2⟩ := hn2; ⟨vs, s3 _ _ g1, paired_mono mRow s3 g2⟩
          have k3 := k12.same s3
          refine st_putD (d := d) (c := c) robRow mRow kRow k3.src pc (vs_zeroRow (m := m) (fun _ _ => val_var rfl) (by omega)) (fun _ _ => val_var rfl) (fun H4 s4 => vd_pick (k3.src.same s4) (val_var rfl) (v_len (k1 := false) (R := iRow K) (val_var rfl) ((mL mRow).to s4 hn3.iL)) (by omega)) hn3 (by omega) fun H4 vs' i k4 hn4 => ?_
          exact done ((k3.trans k4).put hp) rfl rfl hn4 (drset List.length_replicate fun x hx => by rw [List.eq_of_mem_replicate hx]; exact Gr.zero) rfl
        · refine st_no (ans_eqI (val_var (i := 6) (v := .int road) rfl) val_c (decide_eq_false b3)) (st_next ?_)
          exact done k12 rfl rfl hn2 hdr rfl
end
end K19
namespace K19
open PySem PySem.Spec L2
theorem lim_abs {q : Rat} (h : Lim q) : ∃ r : Rat, Lim r ∧ r.num = ((q.num.natAbs : Nat) : Int) ∧ r.den = q.den := by
  by_cases z : q.num < 0
  · exact ⟨-q, lim_neg h, by show -q.num = _; omega, rfl⟩
  · exact ⟨q, h, by omega, rfl⟩
theorem gr_frac {n d : Int} (h0 : 0 ≤ n) (hn : n ≤ 2) (hd : d = 1 ∨ d = 2) : Gr 2 4 (Rat.divInt n d) := by
  rcases hd with rfl | rfl
  · refine ⟨n * 2, ?_, by omega⟩
    rw [Rat.divInt_eq_div, Rat.intCast_mul]
    show (n : Rat) / 1 * 2 = n * 2
    grind
  · refine ⟨n, ?_, by omega⟩
    rw [Rat.divInt_eq_div]
    show (n : Rat) / 2 * 2 = n
    grind
section
variable {P : Program} {w : World} {K : PySem.W.Frag} {mg : Str → Option Value} {base : Heap}
theorem vda3m {d c : Addr} {σ : L2.St} {H : Hp} {ta tb tc : TE} {x y : V} {R : V → Hp → Prop} (h : Val ta σ H x) (g : VD d c tb σ H R) (l : ∀ H', Val tc σ H' y) : VDA d c (tCons ta (tCons tb (tCons tc tNil))) σ H (fun vs H' => ∃ u, vs = [x, u, y] ∧ R u H') := fun Q k =>
  h _ (g _ fun u H' s r => l H' _ (k _ _ s ⟨u, rfl, r⟩))
def spDrawSum (K : PySem.W.Frag) : Sp := fun vs H Q _ => ∃ d c, vs = [.ref d] ∧ Src H d c ∧
  ∀ a x y z cols cs ts H', Kp d c H H' → SqT K H' a [x, y, z] → iCols K H' x cols → iL K (iQ K) H' y cs → iRow K H' z ts → LP cols cs ts → cols.length ≤ 5 → ts.length ≤ 3 → Q (.ref a) H'
/-- the costs, below 0 none -/
theorem vs_sizes {σ : L2.St} {H : Hp} {tl : TE} {vs : List Nat} {i : Nat} {cs : List Rat} (h : VS tl σ H (fun v H' => iL K (iQ K) H' v cs)) (hl : cs.length ≤ 1000) (hL : ∀ q ∈ cs, Lim q) (hwp : ∀ a, wipe ((wipe σ vs).set i a) vs = wipe σ vs) (hi : ∀ v : V, ((wipe σ vs).set i (some v))[i]? = some (some v)) :
    VS (tLc (iList K tl) (gName i) tYes (tTup (tCons (tCB (fun xs H Q => ∃ i, xs = [V.int i] ∧ Q (.int (if i < 0 then -i else i)) H) (tCons (tOp (rIxT K) (tVar i) (tC (.int 0))) tNil)) (tCons (tOp (rIxT K) (tVar i) (tC (.int 1))) tNil))) vs) σ H (fun u H' => ∃ p zs, u = .ref p ∧ H p = none ∧ nL (iQ K) H' p zs ∧ zs.length = cs.length ∧ ∀ z ∈ zs, Lim z) := by
  have hc : ∀ q : Rat, ∃ r : Rat, q ∈ cs → Lim r ∧ r.num = ((q.num.natAbs : Nat) : Int) ∧ r.den = q.den := fun q => by
    by_cases m : q ∈ cs
    · obtain ⟨r, hr⟩ := lim_abs (hL q m)
      exact ⟨r, fun _ => hr⟩
    · exact ⟨0, fun z => absurd z m⟩
  refine VS.imp (vs_lcN (R := iQ K) (Z := iQ K) robQ mQ (fun q => (hc q).choose) (ws_list mQ h) (sizeLine_ge hl) hwp fun q vq H1 hm s1 hq => VS.el (fun Q k => ?_)) fun u H' s ⟨p, e, hp, hn⟩ => ⟨p, _, e, hp, hn, List.length_map _, fun z hz => ?_⟩
  · have hr := (hc q).choose_spec hm
    refine va2 (v_abs (vnum (hi _) hq)) (vden (hi _) hq) _ ⟨by show 2 ≤ sizeLine; decide, fun a ha => k _ _ (same_new ha) (newQ hr.2.1.symm (by rw [hr.2.2]))⟩
  · obtain ⟨q, hq, rfl⟩ := List.mem_map.mp hz
    exact ((hc q).choose_spec hq).1
theorem sc_w_draw_sum : FnScope ["_law_source", "_law_many", "_law_columns", "_law_costs", "_law_one", "_law_road", "_law_target", "_law_x"] ["_law_source"] (defScope s_w_draw_sum) := ⟨rfl, rfl, rfl, by decide +kernel, rfl, by decide +kernel, by decide +kernel⟩
theorem ok_w_draw_sum (T : Txt K mg) : FnOk P w K mg base CX0 7 T.w_draw_sum.f T.w_draw_sum.fd ["_law_source"] (spDrawSum K) := by
  refine T.w_draw_sum.F.ok sc_w_draw_sum (fun vs H Q E h => ?_) (fun cdv A outer s H vs Q E hr h => ?_)
  · obtain ⟨_, _, rfl, _⟩ := h; rfl
  · obtain ⟨d, c, rfl, src, q⟩ := h
    refine ⟨_, (PSs.nox (pss_cons (ps_set (i := 1) sc_w_draw_sum.nd rfl (.inl rfl) (pe_op op_add pe_int (pcall T.w_pick (ok_w_pick T) (hr.mono (by decide)) (pa_cons (pv 0) (pa_cons pe_int pa_nil))))) (pss_cons (ps_set (i := 2) sc_w_draw_sum.nd rfl (.inl rfl) (pcall T.w_draw_rows (ok_w_draw_rows T) (hr.mono (by decide)) (pa_cons (pv 0) (pa_cons (pv 1) (pa_cons pe_int (pa_cons pe_int pa_nil)))))) (pss_cons (ps_setLc (i := 3) (own := [("_law_one", 4)]) (g := (gName 4)) (tt := tYes) rfl sc_w_draw_sum.nd rfl rfl (sw_true rfl rfl rfl (by decide +kernel)) (pi_listK K (pv 2)) (blkOk_by (N := ["_law_source", "_law_many", "_law_columns", "_law_costs", "_law_one", "_law_road", "_law_target", "_law_x"]) (sc := defScope s_w_draw_sum) (by decide +kernel)) (fun _ _ _ _ _ => (pg_name (i := 4) sc_w_draw_sum.nd rfl (.inl rfl))) (fun _ _ _ _ _ => pts_nil) (fun _ _ _ _ _ => (pcall T.w_draw_fraction (ok_w_draw_fraction T) (hr.mono (by decide)) (pa_cons (pv 0) (pa_cons pe_int pa_nil))))) (pss_cons (ps_set (i := 5) sc_w_draw_sum.nd rfl (.inl rfl) (pcall T.w_pick (ok_w_pick T) (hr.mono (by decide)) (pa_cons (pv 0) (pa_cons pe_int pa_nil)))) (pss_cons (ps_if (pt_cmpR op_lt (pv 5) pe_int (nomark _)) (pss_one (ps_set (i := 6) sc_w_draw_sum.nd rfl (.inl rfl) (pcall T.w_reached (ok_w_reached T) (hr.mono (by decide)) (pa_cons (pv 2) (pa_cons (pe_lc (own := [("_law_one", 4)]) (g := (gName 4)) (tt := tYes) rfl sc_w_draw_sum.nd (pi_listK K (pv 2)) (blkOk_by (N := ["_law_source", "_law_many", "_law_columns", "_law_costs", "_law_one", "_law_road", "_law_target", "_law_x"]) (sc := defScope s_w_draw_sum) (by decide +kernel)) (fun _ _ _ _ _ => (pg_name (i := 4) sc_w_draw_sum.nd rfl (.inl rfl))) (fun _ _ _ _ _ => pts_nil) (fun _ _ _ _ _ => (pcall T.w_fraction (ok_w_fraction T) (hr.mono (by decide)) (pa_cons (pcall T.w_pick (ok_w_pick T) (hr.mono (by decide)) (pa_cons (pv 0) (pa_cons pe_int pa_nil))) (pa_cons (pe_op op_add pe_int (pcall T.w_pick (ok_w_pick T) (hr.mono (by decide)) (pa_cons (pv 0) (pa_cons pe_int pa_nil)))) pa_nil))))) (pa_cons (pv 1) pa_nil)))))) (pss_one (ps_if (pt_cmpR op_eq (pv 5) pe_int (nomark _)) (pss_one (ps_set (i := 6) sc_w_draw_sum.nd rfl (.inl rfl) (pe_callTy (k_tuple K) rfl T.b_tuple (by decide +kernel) (pa_cons (pe_op op_rep (pe_lst (pa_cons (pe_tup (pa_cons pe_int (pa_cons pe_int pa_nil))) pa_nil)) (pv 1)) pa_nil)))) (pss_one (ps_set (i := 6) sc_w_draw_sum.nd rfl (.inl rfl) (pe_ifExp (pt_cmpR op_eq (pv 5) pe_int (nomark _)) (pe_ix (ix_listK K) (pv 2) pe_int (fun _ _ => rfl)) (pcall T.w_draw_row (ok_w_draw_row T) (hr.mono (by decide)) (pa_cons (pv 0) (pa_cons (pv 1) (pa_cons pe_int pa_nil)))))))))) (pss_cons (ps_if (pt_cmpR op_eq (pcall T.w_pick (ok_w_pick T) (hr.mono (by decide)) (pa_cons (pv 0) (pa_cons pe_int pa_nil))) pe_int (nomark _)) (pss_one (ps_setLc (i := 3) (own := [("_law_x", 7)]) (g := (gName 7)) (tt := tYes) rfl sc_w_draw_sum.nd rfl rfl (sw_true rfl rfl rfl (by decide +kernel)) (pi_listK K (pv 3)) (blkOk_by (N := ["_law_source", "_law_many", "_law_columns", "_law_costs", "_law_one", "_law_road", "_law_target", "_law_x"]) (sc := defScope s_w_draw_sum) (by decide +kernel)) (fun _ _ _ _ _ => (pg_name (i := 7) sc_w_draw_sum.nd rfl (.inl rfl))) (fun _ _ _ _ _ => pts_nil) (fun _ _ _ _ _ => (pe_tup (pa_cons (pe_callB call_abs rfl T.b_abs (by decide +kernel) (pa_cons (pe_ix (ix_tupK K) (pv 7) pe_int (fun _ _ => rfl)) pa_nil)) (pa_cons (pe_ix (ix_tupK K) (pv 7) pe_int (fun _ _ => rfl)) pa_nil)))))) pss_nil) (pss_one (ps_ret (pe_tup (pa_cons (pv 2) (pa_cons (pv 3) (pa_cons (pv 6) pa_nil))))))))))))), ?_⟩
    refine st_seq (st_setD (d := d) (c := c) (vd_addL (fun _ => val_c) (vd_pick src (val_var rfl) val_c (by decide))) fun v H1 k1 ⟨z, ez, r, er, r0, r1⟩ => ?_)
    subst ez
    obtain ⟨rn, rfl⟩ := Int.eq_ofNat_of_zero_le r0
    obtain ⟨m, hm⟩ : ∃ m : Nat, m = 1 + rn := ⟨_, rfl⟩
    have em : z = (m : Int) := by omega
    subst em
    have m1 : 1 ≤ m := by omega
    have m3 : m ≤ 3 := by omega
    clear er r1 r0 hm
    dsimp only
    refine st_seq (st_setD (d := d) (c := c) (R := NewD (iRow K) H1 (DR m)) (vd_call (va_cons (val_var (i := 0) rfl) (va_cons (val_var (i := 1) rfl) (va2 val_c val_c))) fun Q' k => ⟨d, c, m, rfl, k1.src, by omega, fun p H2 rows k2 hp hn hd => k _ _ k2 ⟨p, rows, rfl, hp, hn, hd⟩⟩) fun u H2 k2 hu => ?_)
    obtain ⟨p, cols, rfl, hp, hn, hd⟩ := hu
    have pc : p ≠ c := (k1.src.nd hp).2
    have h5 := hd.few
    have k12 := k1.trans k2
    dsimp only
    refine st_seq (st_setD (d := d) (c := c) (R := NewD (iQ K) H2 fun zs => zs.length = cols.length ∧ ∀ z ∈ zs, Lim z) (vd_lcL (Pz := Lim) robQ kQ k2.src (val_var rfl) pc hn (by omega) (fun _ => rfl) fun v H3 k3 => ?_) fun u H3 k3 hu => ?_)
    · exact vd_call (va2 (val_var (i := 0) rfl) val_c) fun Q' k => ⟨d, c, 3, rfl, k3.src, by decide, fun u x H4 k4 hx hg => k u H4 k4 ⟨x, hx, hg.lim6 (by decide)⟩⟩
    obtain ⟨p2, cs, rfl, hp2, hn2, hcl, hcL⟩ := hu
    have p2c : p2 ≠ c := (k2.src.nd hp2).2
    have k13 := k12.trans k3
    have hn3 := k3.nl kRow pc hn
    dsimp only
    refine st_seq (st_setD (d := d) (c := c) (vd_pick k3.src (val_var rfl) val_c (by decide)) fun v H4 k4 ⟨road, er, r0, r1⟩ => ?_)
    subst er
    dsimp only
    have k14 := k13.trans k4
    have hn4 := k4.nl kRow pc hn3
    have hn24 := k4.nl kQ p2c hn2
    have hcl6 : ∀ r ∈ cols, ∀ x ∈ r, Lim x := fun r hr x hx => (hd.gr r hr x hx).lim6 (by decide)
    -- what follows the target
    have fin : ∀ {σ' : L2.St} {H' : Hp} {D : Ends} {x y z : V} {cs' ts : List Rat}, Kp d c H H' → σ'[2]? = some (some x) → σ'[3]? = some (some y) → σ'[6]? = some (some z) → iCols K H' x cols → iL K (iQ K) H' y cs' → cs'.length = cols.length → (∀ z ∈ cs', Lim z) → iRow K H' z ts → ts.length = m → (∀ x ∈ ts, Lim x) → D.rt = Q →
        tRet (tTup (tCons (tVar 2) (tCons (tVar 3) (tCons (tVar 6) tNil)))) D σ' H' := fun {σ' H' D x y z cs' ts} k' e2 e3 e6 hx hy hyl hyL hz hzl hzL eD => by
      refine st_rt2 (t_tup (ValA.vsa (R := fun vs H2 => vs = [x, y, z] ∧ H2 = H') (va_cons (val_var e2) (va2 (val_var e3) (val_var e6))) ⟨rfl, rfl⟩) fun vs H5 s5 ⟨e, eH⟩ => ?_)
      subst e eH
      refine ⟨by show 3 ≤ sizeLine; decide, fun a ha => ?_⟩
      rw [eD]
      have sn := same_new (o := .tup [x, y, z]) ha
      refine q a x y z cols cs' ts _ (k'.same sn) (SqT.of upd_same) (mCols.to sn hx) ((mL mQ).to sn hy) (mRow.to sn hz) ⟨by have := hd.pos; omega, by omega, by omega, hyl, fun r hr => by rw [hd.lens r hr, hzl], hcl6, hyL, hzL⟩ h5 (by omega)
    refine st_seq (st_tail (A := fun σ' H' => ∃ z ts, σ' = [some (.ref d), some (.int (m : Int)), some (.ref p), some (.ref p2), none, some (.int road), some z, none] ∧ Kp d c H4 H' ∧ iRow K H' z ts ∧ ts.length = m ∧ ∀ x ∈ ts, Lim x) ?_ fun N hN => ?_)
    · rintro σ' H5 ⟨z, ts, rfl, k5, hz, hzl, hzL⟩
      dsimp only
      have k15 := k14.trans k5
      refine st_seq (st_ifD (d := d) (c := c) (A := fun _ _ => True) (fun Q' k => vd_pick (d := d) (c := c) k15.src (val_var rfl) val_c (by decide) _ fun v H6 k6 ⟨r, er, _⟩ => ?_) (fun H6 k6 _ => ?_) fun H6 k6 _ => ?_)
      · subst er
        exact val_c _ ⟨rfl, _, rfl, k _ _ k6 trivial⟩
      · have hn6 := (k5.trans k6).nl kQ p2c hn24
        refine st_set' (vs_sizes (vsv (val_var rfl) hn6.iL) (by omega) hcL (fun _ => rfl) (fun _ => rfl)) fun u H7 s7 ⟨p3, zs, e, _, hn7, hzsl, hzsL⟩ => ?_
        subst e
        dsimp only
        have k47 := (k5.trans k6).same s7
        exact fin ((k15.trans k6).same s7) rfl rfl rfl (k47.nl kRow pc hn4).iL hn7.iL (by rw [hzsl, hcl]) hzsL (kRow.to (k6.same s7) hz) hzl hzL rfl
      · refine st_next ?_
        have k46 := k5.trans k6
        exact fin (k15.trans k6) rfl rfl rfl (k46.nl kRow pc hn4).iL (k46.nl kQ p2c hn24).iL hcl hcL (kRow.to k6 hz) hzl hzL rfl
    by_cases b1 : road < 2
    · refine st_yes' (as_of (ans_lt (val_var (i := 5) (v := .int road) rfl) val_c (decide_eq_true b1))) fun H5 s5 => ?_
      have k5 : Kp d c H4 H5 := .of k4.src s5
      have hn5 := k5.nl kRow pc hn4
      refine st_setD (d := d) (c := c) (R := fun u H' => ∃ ts, iRow K H' u ts ∧ ts.length = m ∧ ∀ x ∈ ts, Lim x) (vd_callS (vda3m (val_var (i := 2) (v := .ref p) rfl) (vd_lcL (d := d) (c := c) (Z := iQ K) (Pz := Gr 2 4) robQ kQ k5.src (val_var rfl) pc hn5 (by omega) (fun _ => rfl) (fun v H6 k6 => ?_)) fun H6 => val_var (i := 1) (v := .int (m : Int)) rfl) ?_) fun u H6 k6 ⟨ts, hu, hl, hL⟩ => hN _ _ ⟨u, ts, rfl, k5.trans k6, hu, hl, hL⟩
      · refine vd_callS (vda2b (vd_pick k6.src (val_var (i := 0) rfl) val_c (by decide)) fun H7 k7 => vd_addL (fun _ => val_c) (vd_pick k7.src (val_var (i := 0) rfl) val_c (by decide))) ?_
        rintro vs H7 k7 ⟨r, s, rfl, ⟨r0, r1⟩, t, rfl, t0, t1⟩ Q2 k2
        exact ⟨_, _, rfl, by omega, by unfold Bd; exact Nat.lt_of_lt_of_le (by omega : (1 + t).natAbs < 2 ^ 2) (Nat.pow_le_pow_right (by decide) (by decide)), fun v H8 s8 hv => k2 v H8 (.of k7.src s8) ⟨_, hv, gr_frac r0 (by omega) (by omega)⟩⟩
      · rintro vs H6 k6 ⟨u, rfl, pa, xs, rfl, _, hxs, hxl, hxg⟩ Q' k
        refine ⟨.ref p, .ref pa, cols, xs, m, 6, 144, 2, 4, rfl, (k6.nl kRow pc hn5).iL, hxs.iL, fun r hr => ⟨hd.lens r hr, hd.gr r hr⟩, hxg, h5, hxl, by omega, by decide, by decide, by decide, by decide, by decide, by decide, fun y H7 zs s7 hy hl hz => k y H7 (.of k6.src s7) ⟨zs, hy, hl, fun x hx => (hz x hx).lim ?_⟩⟩
        have : cols.length * (144 * 4) ≤ 5 * (144 * 4) := Nat.mul_le_mul_right _ h5
        omega
    · refine st_no (ans_lt (val_var (i := 5) (v := .int road) rfl) val_c (decide_eq_false b1)) ?_
      by_cases b2 : road = 2
      · refine st_yes' (as_test (vsv (v_eq (val_var (v := .int road) rfl) val_c rfl) (by rw [b2]; rfl))) fun H5 s5 => ?_
        refine st_set' (vs_zeroRow (K := K) (m := m) (fun _ _ => val_var rfl) (by omega)) fun u H6 s6 hu => hN _ _ ⟨u, _, rfl, (Kp.of k4.src s5).same s6, hu, List.length_replicate, fun x hx => by rw [List.eq_of_mem_replicate hx]; exact lim0⟩
      · refine st_no (ans_eqI (val_var (i := 5) (v := .int road) rfl) val_c (decide_eq_false b2)) ?_
        refine st_setD (d := d) (c := c) (R := fun u H' => ∃ ts, iRow K H' u ts ∧ ts.length = m ∧ ∀ x ∈ ts, Lim x) (fun Q' k => ?_) fun u H6 k6 ⟨ts, hu, hl, hL⟩ => hN _ _ ⟨u, ts, rfl, k6, hu, hl, hL⟩
        refine v_eq (ta := tVar 5) (tb := tC (.int 3)) (x := .int road) (y := .int 3) (val_var rfl) val_c rfl _ ⟨decide (V.int road = V.int 3), rfl, ?_⟩
        by_cases b3 : road = 3
        · subst b3
          refine iteT ?_
          have h0 : 0 < cols.length := by have := hd.pos; omega
          exact vs_ix0 (val_var (i := 2) rfl) hn4.iL (List.getElem?_eq_getElem h0) _ fun u H6 s6 hu => k u H6 (.of k4.src s6) ⟨_, hu, hd.lens _ (List.getElem_mem h0), hcl6 _ (List.getElem_mem h0)⟩
        · rw [decide_eq_false (fun z => b3 (by injection z))]
          refine iteF ?_
          exact vd_call (d := d) (c := c) (va_cons (val_var (i := 0) rfl) (va2 (val_var (i := 1) rfl) val_c)) (fun Q2 k2 => ⟨d, c, m, 4, rfl, k4.src, by omega, by decide, fun u xs H6 k6 hx hl hg => k2 u H6 k6 ⟨xs, hx, hl, fun x hx' => (hg x hx').lim6 (by decide)⟩⟩) _ k
end
end K19
namespace K19
open Mx (LRes Right Nn Rc Pr IsLeast IsNone IsEndless sm)
/-! ### the sum and the sum turned about: their answers together -/
section
variable {n m : Nat} {a a' : Nat → Nat → Rat} {c c' t : Nat → Rat}
theorem Rc.cg {t x : Nat → Rat} (ea : ∀ j, j < n → ∀ i, i < m → a j i = a' j i) (h : Rc n m a t x) : Rc n m a' t x := fun i hi => by
  rw [← h i hi]; exact Mx.sm_congr fun j hj => by rw [ea j hj i hi]
theorem Pr.cg {y : Nat → Rat} (ea : ∀ j, j < n → ∀ i, i < m → a j i = a' j i) (ec : ∀ j, j < n → c j = c' j) (h : Pr n m a c y) : Pr n m a' c' y := fun j hj => by
  rw [← ec j hj]
  have e : sm m (fun i => y i * a' j i) = sm m (fun i => y i * a j i) := Mx.sm_congr fun i hi => by rw [ea j hj i hi]
  rw [e]; exact h j hj
theorem cost_cg {x : Nat → Rat} (ec : ∀ j, j < n → c j = c' j) : sm n (fun j => c j * x j) = sm n (fun j => c' j * x j) := Mx.sm_congr fun j hj => by rw [ec j hj]
theorem IsLeast.cg {x y : Nat → Rat} (ea : ∀ j, j < n → ∀ i, i < m → a j i = a' j i) (ec : ∀ j, j < n → c j = c' j) (h : IsLeast n m a c t x y) : IsLeast n m a' c' t x y := ⟨h.nn, Rc.cg ea h.rc, Pr.cg ea ec h.pr, by rw [h.eq, cost_cg ec]⟩
theorem IsNone.cg {s : Nat → Rat} (ea : ∀ j, j < n → ∀ i, i < m → a j i = a' j i) (h : IsNone n m a t s) : IsNone n m a' t s := ⟨fun j hj => by
  have e : sm m (fun i => s i * a' j i) = sm m (fun i => s i * a j i) := Mx.sm_congr fun i hi => by rw [ea j hj i hi]
  rw [e]; exact h.up j hj, h.dn⟩
theorem IsEndless.cg {x z : Nat → Rat} (ea : ∀ j, j < n → ∀ i, i < m → a j i = a' j i) (ec : ∀ j, j < n → c j = c' j) (h : IsEndless n m a c t x z) : IsEndless n m a' c' t x z := ⟨h.nn, Rc.cg ea h.rc, h.nz, Rc.cg ea h.rz, by rw [← cost_cg ec]; exact h.lt⟩
end
theorem law_turn {cols : List (List Rat)} {cs ts : List Rat} {r r' : LRes} (lp : LP cols cs ts) (h : Right cols cs ts r) (o : Right (turnCols cols ts.length) (turnCosts ts cols.length) cs r') :
    match r with
    | .least x _ => ∃ w u, r' = .least w u ∧ dotL (turnCosts ts cols.length) w = dotL cs x * (-1)
    | .none _ => ∀ w u, r' ≠ .least w u
    | .endless _ _ => ∃ s, r' = .none s := by
  have hl : cs.length = cols.length := lp.cl
  have tl := turn_len (cols := cols) (m := ts.length)
  have ea : ∀ j, j < ts.length + ts.length + cols.length → ∀ i, i < cols.length → Mx.colF (turnCols cols ts.length) j i = Mx.ta ts.length (Mx.colF cols) j i := fun j hj i hi => turn_at hj hi
  have ec : ∀ j, j < ts.length + ts.length + cols.length → Mx.vF (turnCosts ts cols.length) j = Mx.tc ts.length (Mx.vF ts) j := fun j hj => tcost_at hj
  cases r with
  | least x y =>
    obtain ⟨e1, e2, hL⟩ := h
    cases r' with
    | least w u =>
      obtain ⟨o1, o2, oL⟩ := o
      rw [tl, hl] at oL
      have z := Mx.turned_least hL (K19.IsLeast.cg ea ec oL)
      refine ⟨w, u, rfl, ?_⟩
      rw [dot_sm (tcost_len (n := cols.length) (ts := ts)) (by rw [o1, tl]), dot_sm hl e1, cost_cg ec, z]
      grind
    | none s =>
      obtain ⟨o1, oL⟩ := o
      rw [tl, hl] at oL
      exact (Mx.turned_not_none hL (K19.IsNone.cg ea oL)).elim
    | endless w z =>
      obtain ⟨o1, o2, oL⟩ := o
      rw [tl, hl] at oL
      exact (Mx.turned_not_endless hL (K19.IsEndless.cg ea ec oL)).elim
  | none s =>
    obtain ⟨e1, hL⟩ := h
    rintro w u rfl
    obtain ⟨o1, o2, oL⟩ := o
    rw [tl, hl] at oL
    exact Mx.none_turned hL (K19.IsLeast.cg ea ec oL)
  | endless x z =>
    obtain ⟨e1, e2, hL⟩ := h
    cases r' with
    | least w u =>
      obtain ⟨o1, o2, oL⟩ := o
      rw [tl, hl] at oL
      exact (Mx.endless_turned hL oL.nn (Rc.cg ea oL.rc)).elim
    | none s => exact ⟨s, rfl⟩
    | endless w u =>
      obtain ⟨o1, o2, oL⟩ := o
      rw [tl, hl] at oL
      exact (Mx.endless_turned hL oL.nn (Rc.cg ea oL.rc)).elim
end K19
namespace K19
open PySem PySem.Spec L2
open Mx (LRes Right longer tgt Mix URes UOk ysOf avg colSum Corners)
section
variable {P : Program} {w : World} {K : PySem.W.Frag} {mg : Str → Option Value} {base : Heap}
theorem st_parS {i j : Nat} {ta : TA} {D : Ends} {σ : L2.St} {H : Hp} {A : List V → Hp → Prop} (h : VSA ta σ H A) (q : ∀ vs H', Same H H' → A vs H' → ∃ x y, vs = [x, y] ∧ D.nx ((σ.set i (some x)).set j (some y)) H') : tPar i j ta D σ H := h _ q
theorem st_unp {i j : Nat} {ta : TA} {D : Ends} {σ : L2.St} {H : Hp} {A : List V → Hp → Prop} (h : VSA ta σ H A) (q : ∀ vs H' H2, Same H H' → Same H' H2 → A vs H' → ∃ x y, vs = [x, y] ∧ D.nx ((σ.set i (some x)).set j (some y)) H2) : tAsg (tTup ta) (gTup K 2 (gCons (gName i) (gCons (gName j) gNil))) D σ H :=
  h _ fun vs H' s a => by
    obtain ⟨x, y, e, _⟩ := q vs H' H' s (Same.refl _) a
    subst e
    refine ⟨by show 2 ≤ sizeLine; decide, fun p hp => ⟨p, [x, y], rfl, SqT.of upd_same, rfl, x, [y], rfl, y, [], rfl, rfl, ?_⟩⟩
    obtain ⟨x', y', e, k⟩ := q [x, y] H' _ s (same_new (o := .tup [x, y]) hp) a
    cases e
    exact k
/-- two arguments, both made -/
theorem vsaSS {ta tb : TE} {σ : L2.St} {H : Hp} {R S : V → Hp → Prop} (h : VS ta σ H R) (g : ∀ H', Same H H' → VS tb σ H' S) (mR : ∀ v H' H2, Same H' H2 → R v H' → R v H2) : VSA (tCons ta (tCons tb tNil)) σ H (fun vs H' => ∃ x y, vs = [x, y] ∧ R x H' ∧ S y H') := fun Q k =>
  h _ fun v H1 s1 r => g H1 s1 _ fun u H2 s2 r2 => k _ _ (s1.trans s2) ⟨v, u, rfl, mR v H1 H2 s2 r, r2⟩
theorem vs_eqNil {ta : TE} {σ : L2.St} {H : Hp} {v : V} {xs : List (List Rat)} (h : Val ta σ H v) (hv : iCols K H v xs) : VS (tOp (rEqD K) ta (tLst tNil)) σ H (fun u _ => u = .bl (decide (xs = []))) := fun Q k =>
  h _ ⟨by decide, fun p hp => r_eqD (dat_L dat_Row) (dat_L dat_Row) (by decide) (by decide) (mCols.to (same_new hp) hv) (show iL K (iRow K) (upd H p (.lst [])) (.ref p) [] from ⟨p, [], rfl, SqL.of upd_same, .nil⟩) (k _ _ (same_new hp) (by rw [eqv_L eqv_Row]))⟩
theorem vs_neB {ta tb : TE} {σ : L2.St} {H : Hp} {a b : Bool} (h : VS ta σ H (fun u _ => u = .bl a)) (g : ∀ H', Same H H' → VS tb σ H' (fun u _ => u = .bl b)) : VS (tOp rNe ta tb) σ H (fun u _ => u = .bl (a != b)) := fun Q k =>
  h _ fun u H1 s1 e => g H1 s1 _ fun u2 H2 s2 e2 => by
    subst e e2
    refine ⟨rfl, k _ _ (s1.trans s2) ?_⟩
    congr 1
    cases a <;> cases b <;> decide
def isU : URes → Bool
  | .used _ => true
  | .barred _ => false
def uTag : URes → Str
  | .used _ => "used"
  | .barred _ => "barred"
theorem filt_ys : ∀ {us : List URes}, us.filter isU = (ysOf us).map URes.used
  | [] => rfl
  | .used y :: r => by rw [List.filter_cons_of_pos (by rfl)]; show _ = URes.used y :: _; rw [filt_ys]
  | .barred y :: r => by rw [List.filter_cons_of_neg (by simp [isU])]; exact filt_ys
theorem u_tag {H : Hp} {v : V} {r : URes} {ta : TE} {σ : L2.St} (h : Val ta σ H v) (hv : iU K H v r) : Val (tOp (rIxT K) ta (tC (.int 0))) σ H (.str (uTag r)) := by
  cases r with
  | used y => obtain ⟨a, u, rfl, h2, _⟩ := hv; exact ixAt (i := 0) h val_c h2 rfl
  | barred s => obtain ⟨a, u, rfl, h2, _⟩ := hv; exact ixAt (i := 0) h val_c h2 rfl
theorem vs_lcBind {tl te : TE} {g : TG} {tt : TT} {ws : List Nat} {σ : L2.St} {H : Hp} {A R : V → Hp → Prop} (h : VS tl σ H A) (q : ∀ w H1, Same H H1 → A w H1 → VS (tLc (iList K (tC w)) g tt te ws) σ H1 R) : VS (tLc (iList K tl) g tt te ws) σ H R := fun Q k =>
  h _ fun w H1 s a => q w H1 s a Q fun v H2 s2 r => k v H2 (s.trans s2) r
theorem as_callNon {ta : TE} {σ : L2.St} {H : Hp} (h : VS ta σ H (fun v _ => v = .non)) : AS (tTest (tOp rNotN ta (tC .non))) σ H false := fun Q k => h _ fun v H' s e => by
  subst e; exact val_c _ ⟨rfl, false, rfl, k H' s⟩
theorem vsaL {ta tb : TE} {σ : L2.St} {H : Hp} {y : V} {R : V → Hp → Prop} (h : VS ta σ H R) (g : ∀ H', Same H H' → Val tb σ H' y) : VSA (tCons ta (tCons tb tNil)) σ H (fun vs H' => ∃ x, vs = [x, y] ∧ R x H') := fun Q k =>
  h _ fun v H1 s1 r => g H1 s1 _ (k _ _ s1 ⟨v, rfl, r⟩)
theorem vs_eqQ {ta tb : TE} {σ : L2.St} {H : Hp} {x y : Rat} (h : VS ta σ H (fun v H' => iQ K H' v x)) (g : ∀ H', Same H H' → VS tb σ H' (fun v H2 => iQ K H2 v y)) : VS (tOp (rEqD K) ta tb) σ H (fun u _ => u = .bl (decide (x = y))) := fun Q k =>
  h _ fun v H1 s1 hv => g H1 s1 _ fun w H2 s2 hw => r_eqD dat_Q dat_Q (by decide) (by decide) (mQ.to s2 hv) hw (k _ _ (s1.trans s2) (by rw [eqv_Q]))
theorem vs_neQ {ta tb : TE} {σ : L2.St} {H : Hp} {x y : Rat} (h : VS ta σ H (fun v H' => iQ K H' v x)) (g : ∀ H', Same H H' → VS tb σ H' (fun v H2 => iQ K H2 v y)) : VS (tOp (rNeD K) ta tb) σ H (fun u _ => u = .bl (!decide (x = y))) := fun Q k =>
  h _ fun v H1 s1 hv => g H1 s1 _ fun w H2 s2 hw => r_neD dat_Q dat_Q (by decide) (by decide) (mQ.to s2 hv) hw (k _ _ (s1.trans s2) (by rw [eqv_Q]))
theorem eqv_I (a b : Int) : PyData.eqv (.int a) (.int b) = decide (a = b) := by
  by_cases h : a = b <;> simp [PyData.eqv, h]
theorem vs_eqLI {ta tb : TE} {σ : L2.St} {H : Hp} {zs ys : List Int} (h : VS ta σ H (NewL iI H zs)) (g : ∀ H', Same H H' → VS tb σ H' (NewL iI H' ys)) : VS (tOp (rEqD K) ta tb) σ H (fun u _ => u = .bl (decide (zs = ys))) := fun Q k =>
  h _ fun v H1 s1 ⟨p, e, _, hp⟩ => g H1 s1 _ fun w H2 s2 ⟨p2, e2, _, hp2⟩ => by
    subst e e2
    exact r_eqD (R := iL K iI) (S := iL K iI) (dat_L dat_I) (dat_L dat_I) (by decide) (by decide) ((mL mI).to s2 hp.iL) hp2.iL (k _ _ (s1.trans s2) (by rw [eqv_L eqv_I]))
theorem enum_list {n : Nat} {f : Nat → Rat} : ((numd (rowQ n f)).filter (fun p => !decide (p.2 = 0))).map (fun p => p.1) = (ups 0 n).filter (fun k => !decide (f k.toNat = 0)) := by
  have e : numd (rowQ n f) = (List.range n).map (fun i => ((0 : Int) + ((i : Nat) : Int), f i)) := by
    unfold numd
    rw [rowQ_len]
    unfold ups rowQ
    exact List.zip_map'
  rw [e]
  unfold ups
  rw [List.filter_map, List.map_map, List.filter_map]
  have e2 : (List.range n).filter ((fun p : Int × Rat => !decide (p.2 = 0)) ∘ fun i => ((0 : Int) + ((i : Nat) : Int), f i)) = (List.range n).filter ((fun k : Int => !decide (f k.toNat = 0)) ∘ fun i : Nat => (0 : Int) + (i : Int)) := List.filter_congr fun i _ => by
    show (!decide (f i = 0)) = !decide (f ((0 : Int) + (i : Int)).toNat = 0)
    rw [show ((0 : Int) + (i : Int)).toNat = i by omega]
  rw [e2]
  rfl
def uAt (k : Nat) : URes → Rat
  | .used y => Mx.vF y k
  | .barred _ => 0
theorem sum_ys {ys : List (List Rat)} {k : Nat} : sumQ ((ys.map URes.used).map (uAt k)) = colSum ys k := by
  unfold Mx.colSum
  rw [sumQ_sm (n := ys.length) (by rw [List.length_map, List.length_map])]
  refine Mx.sm_congr fun p hp => ?_
  unfold Mx.vF
  rw [Mx.getD_map (e := URes.barred []) (by rw [List.length_map]; exact hp), Mx.getD_map (e := []) hp]
  rfl
theorem v_lenE {α : Type} {R : Rp α} {σ : L2.St} {H : Hp} {te : TE} {k1 : Bool} {v : V} {xs : List α} {n : Nat} (h : Val te σ H v) (hv : iSq K k1 R H v xs) (e : xs.length = n) : Val (tCB (rLenK K) (tCons te tNil)) σ H (.int (n : Int)) := e ▸ v_len h hv
def usedBy (fs : List (List Rat)) (k : Int) : Bool := (fs.map fun c => !decide (Mx.vF c k.toNat = 0)).any id
def avgU (ys : List (List Rat)) (k : Int) : Bool := !decide (avg ys k.toNat = 0)
def sndNe (p : Int × Rat) : Bool := !decide (p.2 = 0)
theorem any_false {α : Type} {xs : List α} {f : α → Bool} (h : ∀ x ∈ xs, f x = false) : (xs.map f).any id = false := by
  rw [List.any_eq_false]
  intro b hb
  obtain ⟨x, hx, rfl⟩ := List.mem_map.mp hb
  rw [h x hx]; decide
theorem any_true {α : Type} {xs : List α} {f : α → Bool} {x : α} (hx : x ∈ xs) (h : f x = true) : (xs.map f).any id = true := by
  rw [List.any_eq_true]
  exact ⟨_, List.mem_map.mpr ⟨x, hx, rfl⟩, h⟩
def spMixR (K : PySem.W.Frag) : Sp := fun vs H Q _ => ∃ v u L rows cs, vs = [v, u] ∧ iCols K H v rows ∧ iL K (iQ K) H u cs ∧ RO L rows ∧ cs.length = rows.length ∧ (∀ x ∈ cs, Lim x) ∧ ∀ H', Same H H' → Q (.bl true) H'
theorem sc_w_mixing_right : FnScope ["_law_rows", "_law_costs", "_law_longer_here", "_law_target", "_law_x", "_law_told", "_law_found", "_law_cost_here", "_law_uses", "_law_one", "_law_shares", "_law_k"] ["_law_rows", "_law_costs"] (defScope s_w_mixing_right) := ⟨rfl, rfl, rfl, by decide +kernel, rfl, by decide +kernel, by decide +kernel⟩
theorem ok_w_mixing_right (T : Txt K mg) : FnOk P w K mg base CX0 9 T.w_mixing_right.f T.w_mixing_right.fd ["_law_rows", "_law_costs"] (spMixR K) := by
  refine T.w_mixing_right.F.ok sc_w_mixing_right (fun vs H Q E h => ?_) (fun cdv A outer s H vs Q E hr h => ?_)
  · obtain ⟨_, _, _, _, _, rfl, _⟩ := h; rfl
  · obtain ⟨v, u, L, rows, cs, rfl, h1, h2, ro, hcl, hcL, q⟩ := h
    have hf := ro.few
    have hlow := ro.low
    have hpos := ro.pos
    obtain ⟨c0, hc0, l0⟩ := ro.first
    refine ⟨_, (PSs.nox (pss_cons (ps_par (i := 2) (j := 3) rfl sc_w_mixing_right.nd rfl rfl (by decide) rfl rfl (pa_cons (pcall T.w_longer (ok_w_longer T) (hr.mono (by decide)) (pa_cons (pv 0) pa_nil)) (pa_cons (pe_op (op_catAK K) (pe_callTy (k_tuple K) rfl T.b_tuple (by decide +kernel) (pa_cons (pe_lc (own := [("_law_x", 4)]) (g := (gName 4)) (tt := tYes) rfl sc_w_mixing_right.nd (pi_tupK K (pe_ix (ix_listK K) (pv 0) pe_int (fun _ _ => rfl))) (blkOk_by (N := ["_law_rows", "_law_costs", "_law_longer_here", "_law_target", "_law_x", "_law_told", "_law_found", "_law_cost_here", "_law_uses", "_law_one", "_law_shares", "_law_k"]) (sc := defScope s_w_mixing_right) (by decide +kernel)) (fun _ _ _ _ _ => (pg_name (i := 4) sc_w_mixing_right.nd rfl (.inl rfl))) (fun _ _ _ _ _ => pts_nil) (fun _ _ _ _ _ => (pe_tup (pa_cons pe_int (pa_cons pe_int pa_nil))))) pa_nil)) (pe_tup (pa_cons (pe_tup (pa_cons pe_int (pa_cons pe_int pa_nil))) pa_nil))) pa_nil)) rfl) (pss_cons (ps_asg (pe_tup (pa_cons (pcall T.least (ok_least T) (hr.mono (by decide)) (pa_cons (pv 2) (pa_cons (pv 1) (pa_cons (pv 3) pa_nil)))) (pa_cons (pcall T.corners (ok_corners T) (hr.mono (by decide)) (pa_cons (pv 0) pa_nil)) pa_nil))) (pg_tup rfl (pgs_cons (pg_name (i := 5) sc_w_mixing_right.nd rfl (.inl rfl)) (pgs_cons (pg_name (i := 6) sc_w_mixing_right.nd rfl (.inr rfl)) pgs_nil)))) (pss_cons (ps_if (PW.pt (pw_or (pt_cmpR op_ne (pe_cmpR op_eq (pe_ix (ix_tupK K) (pv 5) pe_int (fun _ _ => rfl)) pe_str (nomark _)) (pe_cmpR (op_eqDK K hr.units) (pv 6) (pe_lst pa_nil) (nomark _)) (nomark _)) (pw_or1 (pt_cmpR op_ne (pe_cmpR op_eq (pe_ix (ix_tupK K) (pcall T.mixed (ok_mixed T) (hr.mono (by decide)) (pa_cons (pv 0) pa_nil)) pe_int (fun _ _ => rfl)) pe_str (nomark _)) (pe_cmpR (op_eqDK K hr.units) (pv 6) (pe_lst pa_nil) (nomark _)) (nomark _))))) (pss_one (ps_ret pe_bl)) pss_nil) (pss_cons (ps_if (pt_cmpR (op_eqDK K hr.units) (pv 6) (pe_lst pa_nil) (nomark _)) (pss_one (ps_ret (pe_cmpR op_isN (pcall T.usable (ok_usable T) (hr.mono (by decide)) (pa_cons (pv 2) (pa_cons (pv 3) pa_nil))) pe_non (nomark _)))) pss_nil) (pss_cons (ps_asg (pe_tup (pa_cons (pcall T.w_cost (ok_w_cost T) (hr.mono (by decide)) (pa_cons (pv 1) (pa_cons (pe_ix (ix_tupK K) (pv 5) pe_int (fun _ _ => rfl)) pa_nil))) (pa_cons (pe_lc (own := [("_law_one", 9)]) (g := (gName 9)) rfl sc_w_mixing_right.nd (pi_listK K (pcall T.usable (ok_usable T) (hr.mono (by decide)) (pa_cons (pv 2) (pa_cons (pv 3) pa_nil)))) (blkOk_by (N := ["_law_rows", "_law_costs", "_law_longer_here", "_law_target", "_law_x", "_law_told", "_law_found", "_law_cost_here", "_law_uses", "_law_one", "_law_shares", "_law_k"]) (sc := defScope s_w_mixing_right) (by decide +kernel)) (fun _ _ _ _ _ => (pg_name (i := 9) sc_w_mixing_right.nd rfl (.inl rfl))) (fun _ _ _ _ _ => pts_one (pt_cmpR op_eq (pe_ix (ix_tupK K) (pv 9) pe_int (fun _ _ => rfl)) pe_str (nomark _))) (fun _ _ _ _ _ => (pv 9))) pa_nil))) (pg_tup rfl (pgs_cons (pg_name (i := 7) sc_w_mixing_right.nd rfl (.inr rfl)) (pgs_cons (pg_name (i := 8) sc_w_mixing_right.nd rfl (.inr rfl)) pgs_nil)))) (pss_cons (ps_if (PW.pt (pw_or (pt_cmpR op_ne (pe_ix (ix_tupK K) (pv 5) pe_int (fun _ _ => rfl)) pe_str (nomark _)) (pw_or1 (pt_val (pe_callB (k_any K rfl) rfl T.b_any (by decide +kernel) (pa_cons (pe_lc (own := [("_law_one", 9)]) (g := (gName 9)) (tt := tYes) rfl sc_w_mixing_right.nd (pi_listK K (pv 6)) (blkOk_by (N := ["_law_rows", "_law_costs", "_law_longer_here", "_law_target", "_law_x", "_law_told", "_law_found", "_law_cost_here", "_law_uses", "_law_one", "_law_shares", "_law_k"]) (sc := defScope s_w_mixing_right) (by decide +kernel)) (fun _ _ _ _ _ => (pg_name (i := 9) sc_w_mixing_right.nd rfl (.inl rfl))) (fun _ _ _ _ _ => pts_nil) (fun _ _ _ _ _ => (pcall T.w_below (ok_w_below T) (hr.mono (by decide)) (pa_cons (pcall T.w_cost (ok_w_cost T) (hr.mono (by decide)) (pa_cons (pv 1) (pa_cons (pv 9) pa_nil))) (pa_cons (pv 7) pa_nil))))) pa_nil)))))) (pss_one (ps_ret pe_bl)) pss_nil) (pss_cons (ps_if (pt_not (pt_val (pe_callB (k_any K rfl) rfl T.b_any (by decide +kernel) (pa_cons (pe_lc (own := [("_law_one", 9)]) (g := (gName 9)) (tt := tYes) rfl sc_w_mixing_right.nd (pi_listK K (pv 6)) (blkOk_by (N := ["_law_rows", "_law_costs", "_law_longer_here", "_law_target", "_law_x", "_law_told", "_law_found", "_law_cost_here", "_law_uses", "_law_one", "_law_shares", "_law_k"]) (sc := defScope s_w_mixing_right) (by decide +kernel)) (fun _ _ _ _ _ => (pg_name (i := 9) sc_w_mixing_right.nd rfl (.inl rfl))) (fun _ _ _ _ _ => pts_nil) (fun _ _ _ _ _ => (pe_cmpR (op_eqDK K (by exact hr.units)) (pcall T.w_cost (ok_w_cost T) (hr.mono (by decide)) (pa_cons (pv 1) (pa_cons (pv 9) pa_nil))) (pv 7) (nomark _)))) pa_nil)))) (pss_one (ps_ret pe_bl)) pss_nil) (pss_cons (ps_set (i := 10) sc_w_mixing_right.nd rfl (.inl rfl) (pe_callTy (k_tuple K) rfl T.b_tuple (by decide +kernel) (pa_cons (pe_lc (own := [("_law_k", 11)]) (g := (gName 11)) (tt := tYes) rfl sc_w_mixing_right.nd (pi_range1 rfl T.b_range (pa_cons (pe_callB (k_len K) rfl T.b_len (by decide +kernel) (pa_cons (pv 0) pa_nil)) pa_nil)) (blkOk_by (N := ["_law_rows", "_law_costs", "_law_longer_here", "_law_target", "_law_x", "_law_told", "_law_found", "_law_cost_here", "_law_uses", "_law_one", "_law_shares", "_law_k"]) (sc := defScope s_w_mixing_right) (by decide +kernel)) (fun _ _ _ _ _ => (pg_name (i := 11) sc_w_mixing_right.nd rfl (.inr rfl))) (fun _ _ _ _ _ => pts_nil) (fun _ _ _ _ _ => (pcall T.w_over (ok_w_over T) (hr.mono (by decide)) (pa_cons (pcall T.w_all (ok_w_all T) (hr.mono (by decide)) (pa_cons (pe_lc (own := [("_law_one", 9)]) (g := (gName 9)) (tt := tYes) rfl sc_w_mixing_right.nd (pi_listK K (pv 8)) (blkOk_by (by kernel_rfl)) (fun _ _ _ _ _ => (pg_name (i := 9) sc_w_mixing_right.nd rfl (.inl rfl))) (fun _ _ _ _ _ => pts_nil) (fun _ _ _ _ _ => (pe_ix (ix_tupK K) (pe_ix (ix_tupK K) (pv 9) pe_int (fun _ _ => rfl)) (pv 11) (fun _ _ => rfl)))) pa_nil)) (pa_cons (pe_tup (pa_cons (pe_callB (k_len K) rfl T.b_len (by decide +kernel) (pa_cons (pv 8) pa_nil)) (pa_cons pe_int pa_nil))) pa_nil))))) pa_nil))) (pss_cons (ps_if (pt_cmpR op_notN (pcall T.judge_mixed (ok_judge_mixed T) (hr.mono (by decide)) (pa_cons (pv 0) (pa_cons (pe_tup (pa_cons pe_str (pa_cons (pv 10) pa_nil))) pa_nil))) pe_non (nomark _)) (pss_one (ps_ret pe_bl)) pss_nil) (pss_one (ps_ret (pe_cmpR (op_eqDK K hr.units) (pe_lc (own := [("_law_k", 11), ("_law_x", 4)]) (g := (gTup K 2 (gCons (gName 11) (gCons (gName 4) gNil)))) rfl sc_w_mixing_right.nd (pi_enumK K true rfl T.b_enumerate (pa_cons (pv 10) pa_nil)) (blkOk_by (N := ["_law_rows", "_law_costs", "_law_longer_here", "_law_target", "_law_x", "_law_told", "_law_found", "_law_cost_here", "_law_uses", "_law_one", "_law_shares", "_law_k"]) (sc := defScope s_w_mixing_right) (by decide +kernel)) (fun _ _ _ _ _ => (pg_tup rfl (pgs_cons (pg_name (i := 11) sc_w_mixing_right.nd rfl (.inl rfl)) (pgs_cons (pg_name (i := 4) sc_w_mixing_right.nd rfl (.inl rfl)) pgs_nil)))) (fun _ _ _ _ _ => pts_one (pt_cmpR (op_neDK K (by exact hr.units)) (pv 4) (pe_tup (pa_cons pe_int (pa_cons pe_int pa_nil))) (nomark _))) (fun _ _ _ _ _ => (pv 11))) (pe_lc (own := [("_law_k", 11)]) (g := (gName 11)) rfl sc_w_mixing_right.nd (pi_range1 rfl T.b_range (pa_cons (pe_callB (k_len K) rfl T.b_len (by decide +kernel) (pa_cons (pv 0) pa_nil)) pa_nil)) (blkOk_by (N := ["_law_rows", "_law_costs", "_law_longer_here", "_law_target", "_law_x", "_law_told", "_law_found", "_law_cost_here", "_law_uses", "_law_one", "_law_shares", "_law_k"]) (sc := defScope s_w_mixing_right) (by decide +kernel)) (fun _ _ _ _ _ => (pg_name (i := 11) sc_w_mixing_right.nd rfl (.inr rfl))) (fun _ _ _ _ _ => pts_one (pt_val (pe_callB (k_any K rfl) rfl T.b_any (by decide +kernel) (pa_cons (pe_lc (own := [("_law_one", 9)]) (g := (gName 9)) (tt := tYes) rfl sc_w_mixing_right.nd (pi_listK K (pv 6)) (blkOk_by (by kernel_rfl)) (fun _ _ _ _ _ => (pg_name (i := 9) sc_w_mixing_right.nd rfl (.inl rfl))) (fun _ _ _ _ _ => pts_nil) (fun _ _ _ _ _ => (pe_cmpR (op_neDK K (by exact hr.units)) (pe_ix (ix_tupK K) (pv 9) (pv 11) (fun _ _ => rfl)) (pe_tup (pa_cons pe_int (pa_cons pe_int pa_nil))) (nomark _)))) pa_nil)))) (fun _ _ _ _ _ => (pv 11))) (nomark _)))))))))))))), ?_⟩
    refine st_seq (st_parS (vsaSS (R := fun y H' => iCols K H' y (longer rows)) (S := fun y H' => iRow K H' y (tgt L)) (vs_call (va1 (val_var rfl)) fun Q' k => ⟨v, rows, rfl, h1, by omega, fun r hr => by rw [ro.lens r hr]; omega, fun y H1 s1 hy => k y H1 s1 hy⟩) (fun H1 s1 => VS.imp (vs_catT mQ (vs_tuple mQ (vs_lcN (R := iQ K) (Z := iQ K) robQ mQ (fun _ => (0 : Rat)) (ws_tup mQ (vs_ix0 (val_var rfl) (mCols.to s1 h1) hc0)) (sizeLine_ge (by omega)) (fun _ => rfl) fun x vx H2 hm s2 hx => VS.el (vs_lit (K := K) rfl rfl))) (fun H2 s2 => vs_tup1 mQ (vs_lit (K := K) (q := 1) rfl rfl)) (by rw [List.length_map]; exact sizeLine_ge (by show _ + 1 ≤ 1000; omega))) fun y H2 s2 hy => ?_) fun _ _ _ s h => mCols.to s h) fun vs H1 s1 ⟨x, y, e, hx, hy⟩ => ⟨x, y, e, ?_⟩)
    · have e : (c0.map fun _ => (0 : Rat)) ++ [1] = tgt L := by
        unfold Mx.tgt
        rw [List.map_const', l0]
      rw [← e]; exact hy
    clear e
    have h1' := mCols.to s1 h1
    have h2' := (mL mQ).to s1 h2
    dsimp only
    refine st_seq (st_unp (vsaSS (R := fun t H' => ∃ r, iRes K H' t r ∧ Right (longer rows) cs (tgt L) r ∧ resSmall 125 r) (S := fun f H' => ∃ fs, iCols K H' f fs ∧ Corners L rows fs ∧ (∀ c ∈ fs, Small 125 c) ∧ fs.length ≤ 1000) (vs_call (va_cons (val_var rfl) (va2 (val_var rfl) (val_var rfl))) fun Q' k => ⟨x, u, y, longer rows, cs, tgt L, rfl, hx, h2', hy, ro.lp hcl hcL, fun t H2 r s2 hr g1 g2 => k t H2 s2 ⟨r, hr, g1, g2⟩⟩) (fun H2 s2 => vs_call (va1 (val_var rfl)) fun Q' k => ⟨v, L, rows, rfl, mCols.to s2 h1', ro, fun f H3 fs s3 hf hC hS hl => k f H3 s3 ⟨fs, hf, hC, hS, hl⟩⟩) fun _ _ _ s ⟨r, a, b⟩ => ⟨r, mRes.to s a, b⟩) fun vs H2 H3 s2 s3 ⟨t, f, e, ⟨r, hr, hR, hrs⟩, fs, hf2, hC, hS, hfl⟩ => ⟨t, f, e, ?_⟩)
    clear e
    have hr3 := mRes.to s3 hr
    have hf3 := mCols.to s3 hf2
    have hx3 := mCols.to (s2.trans s3) hx
    have hy3 := mRow.to (s2.trans s3) hy
    have h13 := mCols.to (s2.trans s3) h1'
    have h23 := (mL mQ).to (s2.trans s3) h2'
    have s03 := s1.trans (s2.trans s3)
    have hne := Mx.corners_ne ro.lens hC
    dsimp only
    have hA : decide (V.str (tagOf r) = V.str "none") = decide (fs = []) := by
      cases r with
      | none sl =>
        have : fs = [] := Classical.byContradiction fun z => none_mix hR.2 (hne.mp z)
        rw [decide_eq_true this]; rfl
      | least x' y' =>
        have : fs ≠ [] := hne.mpr ⟨_, (right_mix (cs := []) hR.1 hR.2.2.nn hR.2.2.rc).2⟩
        rw [decide_eq_false this]
        exact tag_ne (by simp only [tagOf]; decide)
      | endless x' y' =>
        have : fs ≠ [] := hne.mpr ⟨_, (right_mix (cs := []) hR.1 hR.2.2.nn hR.2.2.rc).2⟩
        rw [decide_eq_false this]
        exact tag_ne (by simp only [tagOf]; decide)
    have bb : ∀ b : Bool, (b != b) = false := fun b => by cases b <;> rfl
    refine st_seq (st_no' (as_or (b1 := false) (b2 := false) (as_test (VS.imp (vs_neB (a := decide (fs = [])) (b := decide (fs = [])) (vsv (v_eq (res_tag (val_var rfl) hr3) val_c rfl) (by rw [hA])) fun H4 s4 => vs_eqNil (val_var rfl) (mCols.to s4 hf3)) fun u H4 s4 e => by rw [e, bb])) fun _ H4 s4 => as_test (VS.imp (vs_neB (a := decide (fs = [])) (b := decide (fs = [])) (fun Q' k => ?_) fun H5 s5 => vs_eqNil (val_var rfl) (mCols.to (s4.trans s5) hf3)) fun u H5 s5 e => by rw [e, bb])) fun H4 s4 => st_next ?_)
    · refine vs_call (R := fun m H' => iMixed K L rows H' m) (va1 (val_var (i := 0) (v := v) rfl)) (fun Q2 k2 => ⟨v, L, rows, rfl, mCols.to s4 h13, ro, fun m H5 s5 hm => k2 m H5 s5 hm⟩) _ fun m H5 s5 hm => ?_
      rcases hm with ⟨x', a, w', rfl, ha, _, _, hmx, _⟩ | ⟨hno, a, w', rfl, ha⟩
      · refine ⟨a, _, 0, _, rfl, rfl, ha, rfl, ?_⟩
        refine ⟨rfl, k _ _ s5 ?_⟩
        rw [decide_eq_false (hne.mpr ⟨_, hmx⟩)]
        exact congrArg V.bl (tag_ne (by decide))
      · refine ⟨a, _, 0, _, rfl, rfl, ha, rfl, ?_⟩
        refine ⟨rfl, k _ _ s5 ?_⟩
        rw [decide_eq_true (Classical.byContradiction fun z => hno (hne.mp z))]
        rfl
    dsimp only
    have hx4 := mCols.to s4 hx3
    have hy4 := mRow.to s4 hy3
    have hf4 := mCols.to s4 hf3
    by_cases hemp : fs = []
    · refine st_seq (st_yes' (as_test (VS.imp (vs_eqNil (val_var rfl) hf4) fun u H s e => by rw [e, decide_eq_true hemp])) fun H5 s5 => ?_)
      refine st_ret' (R := fun u _ => u = .bl true) (fun Q' k => ?_) fun u H6 s6 e => by
        rw [e]; exact q H6 (s03.trans (s4.trans (s5.trans s6)))
      refine vs_call (R := fun u _ => u = .non) (va2 (val_var (i := 2) (v := x) rfl) (val_var (i := 3) (v := y) rfl)) (fun Q2 k2 => ⟨x, y, L, rows, rfl, mCols.to s5 hx4, mRow.to s5 hy4, ro, fun hm => absurd hemp (hne.mpr hm), fun _ H6 s6 => k2 _ _ s6 rfl⟩) _ fun u H6 s6 e => ?_
      subst e
      exact val_c _ ⟨rfl, k _ _ s6 rfl⟩
    refine st_seq (st_no' (as_test (VS.imp (vs_eqNil (val_var rfl) hf4) fun u H s e => by rw [e, decide_eq_false hemp])) fun H5 s5 => st_next ?_)
    dsimp only
    have hmix : ∃ x, Mix L rows x := hne.mp hemp
    have hx5 := mCols.to s5 hx4
    have hy5 := mRow.to s5 hy4
    have hf5 := mCols.to s5 hf4
    have s35 := s4.trans s5
    have hr5 := mRes.to s35 hr3
    have h15 := mCols.to s35 h13
    have h25 := (mL mQ).to s35 h23
    have s05 := s03.trans s35
    cases r with
    | none sl => exact (none_mix hR.2 hmix).elim
    | endless xx zz =>
      have h3 := hR.2.2
      rw [Mx.longer_len, tgt_len] at h3
      exact (Mx.mix_bounded ro.lens h3).elim
    | least xx yy =>
    have h3 := hR.2.2
    rw [Mx.longer_len, tgt_len] at h3
    have hxl : xx.length = rows.length := by rw [← Mx.longer_len]; exact hR.1
    obtain ⟨cl1, cv, hcv, cl2⟩ := Mx.corner_least ro.lens hC h3
    have hdx : dotL cs xx = Mx.sm rows.length (fun j => Mx.vF cs j * Mx.vF xx j) := dot_sm hcl hxl
    have hdc : ∀ c ∈ fs, dotL cs c = Mx.sm rows.length (fun j => Mx.vF cs j * Mx.vF c j) := fun c hc => dot_sm hcl (hC.mix c hc).1
    have scs : Small 12 cs := fun x hx => (hcL x hx).sz
    have hcb : CB cs.length 12 125 := by unfold CB; omega
    -- the cost, the used ones
    refine st_seq (st_unp (vsaSS (R := fun y H' => iQ K H' y (dotL cs xx)) (S := fun w H' => ∃ us : List URes, us.length = rows.length ∧ (∀ k, k < rows.length → ∀ r, us[k]? = some r → UOk rows.length (L + 1) (Mx.colF (longer rows)) (Mx.vF (tgt L)) k r) ∧ (∀ r ∈ us, usmall 125 r) ∧ iL K (iU K) H' w ((ysOf us).map URes.used)) ?_ (fun H6 s6 => ?_) fun _ _ _ s h => mQ.to s h) fun vs H6 H7 s6 s7 ⟨ch, w', e, hch, us, hul, hok, hus, huv⟩ => ⟨ch, w', e, ?_⟩)
    · obtain ⟨u1, hu1, hu2⟩ := res_first (σ := [some v, some u, some x, some y, none, some t, some f, none, none, none, none, none]) (val_var (i := 5) rfl) hr5
      exact vs_call (va2 (val_var rfl) hu1) fun Q' k => ⟨u, u1, cs, xx, 12, 125, rfl, h25, hu2, scs, hrs.1, hcb, fun r' H' s hr' => k r' H' s hr'⟩
    · refine vs_lcBind (A := fun w H' => ∃ us : List URes, iL K (iU K) H' w us ∧ us.length = rows.length ∧ (∀ k, k < rows.length → ∀ r, us[k]? = some r → UOk rows.length (L + 1) (Mx.colF (longer rows)) (Mx.vF (tgt L)) k r) ∧ (∀ r ∈ us, usmall 125 r)) (vs_call (va2 (val_var rfl) (val_var rfl)) fun Q' k => ⟨x, y, L, rows, rfl, mCols.to s6 hx5, mRow.to s6 hy5, ro, fun _ w H' us s hw g1 g2 g3 => k w H' s ⟨us, hw, g1, g2, g3⟩, fun hno => absurd hmix hno⟩) fun w H7 s7 ⟨us, hw, g1, g2, g3⟩ => ?_
      refine VS.imp (vs_lcNF (R := iU K) (Z := iU K) robU mU (fun r => r) isU (ws_list mU (vsv val_c hw)) (sizeLine_ge (by omega)) (fun _ => rfl) (fun r vr H8 hm s8 hr => as_of (ans_eq (u_tag (val_var rfl) hr) val_c rfl (by cases r with
        | used _ => exact decide_eq_true rfl
        | barred _ => exact tag_ne (a := "barred") (b := "used") (by decide)))) (fun r vr H8 hm s8 hr _ => VS.el (vsv (val_var rfl) hr)) mU) fun w' H8 s8 ⟨p, e, _, hn⟩ => ⟨us, g1, g2, g3, ?_⟩
      have e3 : (us.filter isU).map (fun r => r) = (ysOf us).map URes.used := by rw [← filt_ys]; exact List.map_id' _
      rw [e3] at hn
      rw [e]; exact hn.iL
    clear e
    dsimp only
    have s57 := s6.trans s7
    have hch7 := mQ.to s7 hch
    have huv7 := (mL mU).to s7 huv
    have hr7 := mRes.to s57 hr5
    have hf7 := mCols.to s57 hf5
    have h17 := mCols.to s57 h15
    have h27 := (mL mQ).to s57 h25
    have s07 := s05.trans s57
    have hcost : ∀ {σ : L2.St} {H' : Hp} {c : List Rat} {vc : V}, Same H7 H' → σ[1]? = some (some u) → σ[9]? = some (some vc) → c ∈ fs → iRow K H' vc c → VS (tCall (spCostOf K) [] E0 (tCons (tVar 1) (tCons (tVar 9) tNil))) σ H' (fun r H2 => iQ K H2 r (dotL cs c)) := fun s e1 e9 hc hvc => vs_call (va2 (val_var e1) (val_var e9)) fun Q' k => ⟨u, _, cs, _, 12, 125, rfl, (mL mQ).to s h27, hvc, scs, hS _ hc, hcb, fun r' H' s hr' => k r' H' s hr'⟩
    have szx : Sz 4000 (dotL cs xx) := hcb.sz scs hrs.1 (by omega)
    refine st_seq (st_no' (as_or (b1 := false) (b2 := false) (as_test (vsv (v_ne (res_tag (val_var rfl) hr7) val_c rfl) rfl)) fun _ H8 s8 => as_val (VS.imp (vs_any (vs_lcN (R := iRow K) (Z := iB) robB mB (fun c => decide (dotL cs c < dotL cs xx)) (ws_list mRow (vsv (val_var rfl) (mCols.to s8 hf7))) (sizeLine_ge hfl) (fun _ => rfl) fun c vc H9 hm s9 hc => VS.el (vs_callS (vsaL (hcost (s8.trans s9) rfl rfl hm hc) fun _ _ => val_var rfl) ?_))) fun u' H9 s9 e => ?_)) fun H8 s8 => st_next ?_)
    · rintro vs H10 s10 ⟨z, rfl, hz⟩ Q' k
      exact ⟨z, ch, _, _, rfl, hz, mQ.to ((s8.trans s9).trans s10) hch7, ⟨hcb.sz scs (hS c hm) (by omega), szx⟩, k _ _ (Same.refl _) rfl⟩
    · rw [e, any_false fun c hc => ?_]
      rw [hdx, hdc c hc]
      exact decide_eq_false fun z => Rat.not_lt.mpr (cl1 c hc) z
    dsimp only
    have hf8 := mCols.to s8 hf7
    refine st_seq (st_no' (as_not (b := true) (as_val (VS.imp (vs_any (vs_lcN (R := iRow K) (Z := iB) robB mB (fun c => decide (dotL cs c = dotL cs xx)) (ws_list mRow (vsv (val_var rfl) hf8)) (sizeLine_ge hfl) (fun _ => rfl) fun c vc H9 hm s9 hc => VS.el (vs_eqQ (hcost (s8.trans s9) rfl rfl hm hc) fun H10 s10 => vsv (val_var rfl) (mQ.to ((s8.trans s9).trans s10) hch7)))) fun u' H9 s9 e => ?_))) fun H9 s9 => st_next ?_)
    · rw [e, any_true hcv (decide_eq_true (by rw [hdx, hdc cv hcv]; exact cl2))]
    dsimp only
    have s79 := s8.trans s9
    have hyne : ysOf us ≠ [] := Mx.used_some ro.lens hul hok hmix.choose_spec
    have hysl : (ysOf us).length ≤ 5 := by
      have h1 : (us.filter isU).length ≤ us.length := List.length_filter_le ..
      rw [filt_ys, List.length_map] at h1
      omega
    have hys : ∀ z ∈ ysOf us, z.length = rows.length ∧ Mix L rows (Mx.vF z) ∧ Small 125 z := fun z hz => by
      obtain ⟨p, hp, e⟩ := List.getElem_of_mem (Mx.ysOf_mem.mp hz)
      have h1 := hok p (by omega) _ (List.getElem?_eq_getElem hp)
      have h2 := hus _ (Mx.ysOf_mem.mp hz)
      rw [e] at h1
      exact ⟨h1.1, ⟨h1.2.1, h1.2.2.1⟩, h2⟩
    have hyN : ((ysOf us).length : Rat) ≠ 0 := fun z => by
      have h1 : (((ysOf us).length : Int) : Rat) = ((0 : Int) : Rat) := z
      have h2 := Rat.intCast_inj.mp h1
      exact hyne (List.eq_nil_of_length_eq_zero (by omega))
    have hcs : ∀ k, Sz 631 (colSum (ysOf us) k) := fun k => by
      rw [← sum_ys]
      refine (sz_sumQ (b := 125) (n := (ysOf us).length) (by rw [List.length_map, List.length_map]) fun z hz => ?_).mono ?_
      · obtain ⟨r, hr, rfl⟩ := List.mem_map.mp hz
        obtain ⟨c, hc, rfl⟩ := List.mem_map.mp hr
        show Sz 125 (Mx.vF c k)
        by_cases hk : k < c.length
        · exact (hys c hc).2.2 _ (List.mem_of_getElem? (get_vF hk))
        · have : Mx.vF c k = 0 := by unfold Mx.vF; rw [List.getD_eq_getElem?_getD, List.getElem?_eq_none (by omega)]; rfl
          rw [this]; exact sz_0.mono (by decide)
      · have := Nat.mul_le_mul_right (125 + 1) hysl
        omega
    have hszn : Sz 3 (((ysOf us).length : Nat) : Rat) := ⟨by unfold Bd; show (((ysOf us).length : Nat) : Int).natAbs < 2 ^ 3; omega, by unfold Bd; show (1 : Nat) < 2 ^ 3; decide⟩
    have hnat : ∀ k ∈ ups 0 ((rows.length : Int)).toNat, ∃ k' : Nat, k = (k' : Int) ∧ k' < rows.length := fun k hm => by
      unfold ups at hm
      obtain ⟨k', hk', e⟩ := List.mem_map.mp hm
      have hk' := List.mem_range.mp hk'
      exact ⟨k', by rw [← e]; omega, by omega⟩
    have huv9 := (mL mU).to s79 huv7
    have h19 := mCols.to s79 h17
    refine st_seq (st_set' (R := fun w H' => iRow K H' w (rowQ rows.length (avg (ysOf us)))) (VS.imp (vs_tuple mQ (vs_lcN (R := iI) (Z := iQ K) robQ mQ (fun k => avg (ysOf us) k.toNat) (ws_range1 (va1 (v_len (k1 := false) (R := iRow K) (val_var rfl) h19)) (by omega) (by omega)) (by rw [ups_len]; exact sizeLine_ge (by omega)) (fun _ => rfl) fun k vk H10 hm s10 hk => VS.el ?_)) fun w H10 s10 hw => ?_) fun sh H10 s10 hsh => ?_)
    · obtain ⟨k', rfl, hk'⟩ := hnat k hm
      have hk : vk = .int (k' : Int) := hk
      subst hk
      rw [Int.toNat_natCast]
      refine vs_callS (vsaSS (R := fun z H' => iQ K H' z (colSum (ysOf us) k')) (S := fun z H' => iQ K H' z (((ysOf us).length : Nat) : Rat)) (vs_callS (vsa1 (vs_lcN (R := iU K) (Z := iQ K) robQ mQ (uAt k') (ws_list mU (vsv (val_var rfl) ((mL mU).to s10 huv9))) (by rw [List.length_map]; exact sizeLine_ge (by omega)) (fun _ => rfl) fun r vr H11 hm11 s11 hr11 => VS.el ?_)) ?_) (fun H11 s11 Q' kk => ?_) fun _ _ _ s h => mQ.to s h) ?_
      · obtain ⟨c, hc, rfl⟩ := List.mem_map.mp hm11
        obtain ⟨a, u', rfl, ha, hu'⟩ := hr11
        exact vs_ixT (ixAt (i := 1) (val_var rfl) val_c ha rfl) (val_var (v := .int (k' : Int)) rfl) hu' (get_vF (by rw [(hys c hc).1]; exact hk'))
      · rintro vs H11 s11 ⟨z, rfl, p, rfl, hp, hn⟩ Q' kk
        refine ⟨_, _, 125, rfl, hn.iL, fun x hx => ?_, ?_, fun r' H' s hr' => kk r' H' s (by rw [← sum_ys]; exact hr')⟩
        · obtain ⟨r, hr, rfl⟩ := List.mem_map.mp hx
          obtain ⟨c, hc, rfl⟩ := List.mem_map.mp hr
          exact (hys c hc).2.2 _ (List.mem_of_getElem? (get_vF (by rw [(hys c hc).1]; exact hk')))
        · rw [List.length_map, List.length_map]
          have := Nat.mul_le_mul_right (125 + 1) hysl
          omega
      · refine t_tup (ValA.vsa (R := fun vs _ => vs = [.int (((ysOf us).length : Nat) : Int), .int 1]) (va2 (v_lenE (k1 := false) (R := iU K) (val_var rfl) ((mL mU).to (s10.trans s11) huv9) (List.length_map _)) val_c) rfl) fun vs H12 s12 e => ?_
        · subst e
          exact ⟨by show 2 ≤ sizeLine; decide, fun p hp => kk _ _ (s12.trans (same_new hp)) (newQ (q := (((ysOf us).length : Nat) : Rat)) rfl rfl)⟩
      · rintro vs H11 s11 ⟨a, b, rfl, ha, hb⟩ Q' kk
        exact ⟨a, b, _, _, rfl, ha, hb, ⟨hyN, (hcs k').mono (by decide), hszn.mono (by decide)⟩, fun r' H' s hr' => kk r' H' s hr'⟩
    · have e : (ups 0 ((rows.length : Int)).toNat).map (fun k => avg (ysOf us) k.toNat) = rowQ rows.length (avg (ysOf us)) := by
        rw [Int.toNat_natCast]
        unfold ups rowQ
        rw [List.map_map]
        exact List.map_congr_left fun k _ => by simp
      rw [← e]; exact hw
    dsimp only
    have hav := Mx.avg_mix ro.lens hyne fun z hz => (hys z hz).2.1
    have heq : ∀ j, j < rows.length → avg (ysOf us) j = Mx.vF (rowQ rows.length (avg (ysOf us))) j := fun j hj => (vQ hj).symm
    have hmx : Mix L rows (Mx.vF (rowQ rows.length (avg (ysOf us)))) := ⟨hav.nn.congr heq, hav.rc.congr heq⟩
    have h110 := mCols.to s10 h19
    refine st_seq (st_no' (as_callNon (vs_callS (vsa2 (R := fun w H' => ∃ a, w = .ref a ∧ SqT K H' a [.str "mixes", sh]) (val_var rfl) (fun Q' kk => ?_)) ?_)) fun H11 s11 => st_next ?_)
    · refine t_tup (ValA.vsa (R := fun vs _ => vs = [.str "mixes", sh]) (va2 val_c (val_var rfl)) rfl) fun vs H11 s11 e => ?_
      subst e
      exact ⟨by show 2 ≤ sizeLine; decide, fun p hp => kk _ _ (s11.trans (same_new hp)) ⟨p, rfl, SqT.of upd_same⟩⟩
    · rintro vs H11 s11 ⟨w, rfl, a, rfl, ha⟩ Q' kk
      refine ⟨v, a, sh, L, rows, rowQ rows.length (avg (ysOf us)), rfl, ha, mCols.to s11 h110, mRow.to s11 hsh, ro, rowQ_len, hmx, fun q hq => ?_, fun H' s => kk _ H' s rfl⟩
      unfold rowQ at hq
      obtain ⟨k', _, rfl⟩ := List.mem_map.mp hq
      exact (sz_div (hcs k') hszn hyN).mono (by decide)
    dsimp only
    have h1B := mCols.to s11 h110
    have hshB := mRow.to s11 hsh
    have hfB := mCols.to (s10.trans s11) (mCols.to s9 hf8)
    have used := fun k hk => Mx.used_corners ro.lens hC hul hok (k := k) hk
    refine st_ret' (vs_eqLI (zs := (ups 0 rows.length).filter (avgU (ysOf us))) (ys := (ups 0 ((rows.length : Int)).toNat).filter (usedBy fs)) (VS.imp (vs_lcPF (R := iI) (S := iQ K) (Z := iI) robI mI Prod.fst sndNe (ws_enum mQ (k1 := true) (va1 (val_var rfl)) hshB) (by rw [numd_len, rowQ_len]; exact sizeLine_ge (by omega)) (fun _ _ => rfl) (fun i x vi vx H12 hm s12 hi hx => ?_) (fun i x vi vx H12 hm s12 hi hx _ => VS.el (vsv (val_var rfl) hi)) mI mQ) fun w H12 s12 h => ?_) fun H12 s12 => VS.imp (vs_lcNF (R := iI) (Z := iI) robI mI id (usedBy fs) (ws_range1 (va1 (v_len (k1 := false) (R := iRow K) (val_var rfl) (mCols.to s12 h1B))) (by omega) (by omega)) (by rw [ups_len]; exact sizeLine_ge (by omega)) (fun _ => rfl) (fun k vk H13 hm s13 hk => ?_) (fun k vk H13 hm s13 hk _ => VS.el (vsv (val_var rfl) hk)) mI) fun w H13 s13 h => ?_) fun w H12 s12 e => ?_
    · exact as_test (vs_neQ (vsv (val_var rfl) hx) fun H13 s13 => vs_lit (K := K) (q := 0) rfl rfl)
    · have e3 : ((numd (rowQ rows.length (avg (ysOf us)))).filter sndNe).map Prod.fst = (ups 0 rows.length).filter (avgU (ysOf us)) := enum_list
      rw [← e3]; exact h
    · obtain ⟨k', rfl, hk'⟩ := hnat k hm
      have hk : vk = .int (k' : Int) := hk
      subst hk
      have eu : usedBy fs (k' : Int) = (fs.map fun c => !decide (Mx.vF c k' = 0)).any id := by unfold usedBy; rw [Int.toNat_natCast]
      rw [eu]
      exact as_val (vs_any (vs_lcN (R := iRow K) (Z := iB) robB mB (fun c => !decide (Mx.vF c k' = 0)) (ws_list mRow (vsv (val_var rfl) (mCols.to (s12.trans s13) hfB))) (sizeLine_ge hfl) (fun _ => rfl) fun c vc H14 hm14 s14 hc => VS.el (vs_neQ (vs_ixT (val_var rfl) (val_var (v := .int (k' : Int)) rfl) hc (get_vF (by rw [(hC.mix c hm14).1]; exact hk'))) fun H15 s15 => vs_lit (K := K) (q := 0) rfl rfl)))
    · rw [List.map_id] at h; exact h
    · have eL : (ups 0 rows.length).filter (avgU (ysOf us)) = (ups 0 ((rows.length : Int)).toNat).filter (usedBy fs) := by
        rw [Int.toNat_natCast]
        refine List.filter_congr fun k hk => ?_
        obtain ⟨k', rfl, hk'⟩ := hnat k (by rw [Int.toNat_natCast]; exact hk)
        unfold avgU usedBy
        rw [Int.toNat_natCast]
        have hu := used k' hk'
        by_cases z : avg (ysOf us) k' = 0
        · rw [decide_eq_true z, any_false fun c hc => ?_]
          · rfl
          · have : ¬ Mx.vF c k' ≠ 0 := fun y => hu.mpr ⟨c, hc, y⟩ z
            rw [decide_eq_true (Classical.byContradiction this)]; rfl
        · obtain ⟨c, hc, hne2⟩ := hu.mp z
          rw [decide_eq_false z, any_true hc (by rw [decide_eq_false hne2]; rfl)]; rfl
      rw [e, decide_eq_true eL]
      exact q H12 (s07.trans (s79.trans ((s10.trans s11).trans s12)))
end
end K19
namespace K19
open PySem PySem.Spec L2
open Mx (LRes Right)
section
variable {P : Program} {w : World} {K : PySem.W.Frag} {mg : Str → Option Value} {base : Heap}
theorem wsg_range {t : TA} {σ : L2.St} {H : Hp} {n : Nat} (h : ValA t σ H [.int (n : Int)]) (hn : n ≤ 1000) : WSG (iRng1 t) σ H iI (ups 0 n) (fun _ => True) := fun Rr k =>
  h _ ⟨(n : Int), rfl, by omega, by omega, k _ _ (Same.refl _) (by
    rw [show ((n : Int)).toNat = n from Int.toNat_natCast n, ups_len]
    exact (walk_range (lo := 0) (n := n)).mono (fun _ h => h) fun i H1 x H2 hi _ y => by
      obtain ⟨rfl, e⟩ := y
      exact ⟨Same.refl _, _, ups_get hi, e⟩)⟩
theorem st_unp3 {te : TE} {σ : L2.St} {H : Hp} {D : Ends} {i j l : Nat} {A : V → V → V → Hp → Prop} (h : ∀ Q : VK, (∀ a x y z H', SqT K H' a [x, y, z] → A x y z H' → Q (.ref a) H') → te σ H Q) (q : ∀ x y z H', A x y z H' → D.nx (((σ.set i (some x)).set j (some y)).set l (some z)) H') :
    tAsg te (gTup K 3 (gCons (gName i) (gCons (gName j) (gCons (gName l) gNil)))) D σ H :=
  h _ fun a x y z H' hs hA => ⟨a, [x, y, z], rfl, hs, rfl, x, [y, z], rfl, y, [z], rfl, z, [], rfl, rfl, q x y z H' hA⟩
theorem vs_fst {te : TE} {σ : L2.St} {H : Hp} {s0 : V} (h : VS te σ H (fun u H' => ∃ a w, u = .ref a ∧ SqT K H' a [s0, w])) : VS (tOp (rIxT K) te (tC (.int 0))) σ H (fun u _ => u = s0) := fun Q k =>
  h _ fun u H' s ⟨a, w, e, ha⟩ => by
    subst e
    exact val_c _ ⟨a, _, 0, _, rfl, rfl, ha, rfl, k _ _ s rfl⟩
theorem vs_neS {ta : TE} {σ : L2.St} {H : Hp} {a b : Str} (h : VS ta σ H (fun u _ => u = .str a)) : VS (tOp rNe ta (tC (.str b))) σ H (fun u _ => u = .bl (!decide (V.str a = V.str b))) := fun Q k =>
  h _ fun u H' s e => by
    subst e
    exact val_c _ ⟨rfl, k _ _ s rfl⟩
theorem ans_tag {H : Hp} {v : V} {r : LRes} {ta : TE} {σ : L2.St} {b : Str} {k : Bool} (h : Val ta σ H v) (hv : iRes K H v r) (e : decide (V.str (tagOf r) = V.str b) = k) : Ans (tTest (tOp rEq (tOp (rIxT K) ta (tC (.int 0))) (tC (.str b)))) σ H k := ans_eq (res_tag h hv) val_c rfl e
theorem ans_ntag {H : Hp} {v : V} {r : LRes} {ta : TE} {σ : L2.St} {b : Str} {k : Bool} (h : Val ta σ H v) (hv : iRes K H v r) (e : (!decide (V.str (tagOf r) = V.str b)) = k) : Ans (tTest (tOp rNe (tOp (rIxT K) ta (tC (.int 0))) (tC (.str b)))) σ H k := ans_ne (res_tag h hv) val_c rfl e
theorem tag_eq {a b : Str} {r : Bool} (h : (a == b) = r) : decide (V.str a = V.str b) = r := by
  by_cases e : a = b
  · subst e; rw [decide_eq_true rfl, ← h]; simp
  · rw [← h, decide_eq_false fun z => e (by injection z)]; simp [e]
def spLaw (K : PySem.W.Frag) : Sp := fun vs H Q _ => ∃ v xs, vs = [v] ∧ iL K iI H v xs ∧ xs.length ≤ 1000 ∧ ∀ H', Q (.bl true) H'
theorem sc_law : FnScope ["_law_script", "_law_source", "_law_lap", "_law_columns", "_law_costs", "_law_target", "_law_told", "_law_lines", "_law_charges", "_law_goal", "_law_other"] ["_law_script"] (defScope s_law) := ⟨rfl, rfl, rfl, by decide +kernel, rfl, by decide +kernel, by decide +kernel⟩
theorem ok_law (T : Txt K mg) : FnOk P w K mg base CX0 10 T.law.f T.law.fd ["_law_script"] (spLaw K) := by
  refine T.law.F.ok sc_law (fun vs H Q E h => ?_) (fun cdv A outer s H vs Q E hr h => ?_)
  · obtain ⟨_, _, rfl, _⟩ := h; rfl
  · obtain ⟨v, xs, rfl, hv, hl, q⟩ := h
    refine ⟨_, (PSs.nox (pss_cons (ps_set (i := 1) sc_law.nd rfl (.inl rfl) (pcall T.w_open_cells (ok_w_open_cells T) (hr.mono (by decide)) (pa_cons (pv 0) pa_nil))) (pss_cons (ps_for PassesOwn.never rfl (pi_range1 rfl T.b_range (pa_cons pe_int pa_nil)) (pg_name (i := 2) sc_law.nd rfl (.inl rfl)) (pss_cons (ps_asg (pcall T.w_draw_sum (ok_w_draw_sum T) (hr.mono (by decide)) (pa_cons (pv 1) pa_nil)) (pg_tup rfl (pgs_cons (pg_name (i := 3) sc_law.nd rfl (.inl rfl)) (pgs_cons (pg_name (i := 4) sc_law.nd rfl (.inl rfl)) (pgs_cons (pg_name (i := 5) sc_law.nd rfl (.inl rfl)) pgs_nil))))) (pss_cons (ps_set (i := 6) sc_law.nd rfl (.inl rfl) (pcall T.least (ok_least T) (hr.mono (by decide)) (pa_cons (pv 3) (pa_cons (pv 4) (pa_cons (pv 5) pa_nil))))) (pss_cons (ps_asg (pcall T.w_turned (ok_w_turned T) (hr.mono (by decide)) (pa_cons (pv 3) (pa_cons (pv 4) (pa_cons (pv 5) pa_nil)))) (pg_tup rfl (pgs_cons (pg_name (i := 7) sc_law.nd rfl (.inl rfl)) (pgs_cons (pg_name (i := 8) sc_law.nd rfl (.inl rfl)) (pgs_cons (pg_name (i := 9) sc_law.nd rfl (.inl rfl)) pgs_nil))))) (pss_cons (ps_set (i := 10) sc_law.nd rfl (.inl rfl) (pcall T.least (ok_least T) (hr.mono (by decide)) (pa_cons (pv 7) (pa_cons (pv 8) (pa_cons (pv 9) pa_nil))))) (pss_cons (ps_if (PW.pt (pw_or (pt_cmpR op_notN (pcall T.judge_least (ok_judge_least T) (hr.mono (by decide)) (pa_cons (pv 3) (pa_cons (pv 4) (pa_cons (pv 5) (pa_cons (pv 6) pa_nil))))) pe_non (nomark _)) (pw_or1 (pt_cmpR op_notN (pcall T.judge_least (ok_judge_least T) (hr.mono (by decide)) (pa_cons (pv 7) (pa_cons (pv 8) (pa_cons (pv 9) (pa_cons (pv 10) pa_nil))))) pe_non (nomark _))))) (pss_one (ps_ret pe_bl)) pss_nil) (pss_cons (ps_if (pt_cmpR op_eq (pe_ix (ix_tupK K) (pv 6) pe_int (fun _ _ => rfl)) pe_str (nomark _)) (pss_one (ps_if (PW.pt (pw_or (pt_cmpR op_ne (pe_ix (ix_tupK K) (pv 10) pe_int (fun _ _ => rfl)) pe_str (nomark _)) (pw_or1 (pt_cmpR (op_neDK K hr.units) (pcall T.w_cost (ok_w_cost T) (hr.mono (by decide)) (pa_cons (pv 8) (pa_cons (pe_ix (ix_tupK K) (pv 10) pe_int (fun _ _ => rfl)) pa_nil))) (pcall T.w_times (ok_w_times T) (hr.mono (by decide)) (pa_cons (pcall T.w_cost (ok_w_cost T) (hr.mono (by decide)) (pa_cons (pv 4) (pa_cons (pe_ix (ix_tupK K) (pv 6) pe_int (fun _ _ => rfl)) pa_nil))) (pa_cons (pe_tup (pa_cons (pe_op op_sub pe_int pe_int) (pa_cons pe_int pa_nil))) pa_nil))) (nomark _))))) (pss_one (ps_ret pe_bl)) pss_nil)) (pss_one (ps_if (PW.pt (pw_or (pt_cmpR op_eq (pe_ix (ix_tupK K) (pv 10) pe_int (fun _ _ => rfl)) pe_str (nomark _)) (pw_or1 (PW.pt (pw_and (pt_cmpR op_eq (pe_ix (ix_tupK K) (pv 6) pe_int (fun _ _ => rfl)) pe_str (nomark _)) (pw_and1 (pt_cmpR op_ne (pe_ix (ix_tupK K) (pv 10) pe_int (fun _ _ => rfl)) pe_str (nomark _)))))))) (pss_one (ps_ret pe_bl)) pss_nil))) (pss_cons (ps_if (PW.pt (pw_and (pt_cmpR op_ne (pe_ix (ix_tupK K) (pv 6) pe_int (fun _ _ => rfl)) pe_str (nomark _)) (pw_and1 (pt_cmpR op_ne (pe_ix (ix_tupK K) (pcall T.solved (ok_solved T) (hr.mono (by decide)) (pa_cons (pv 3) (pa_cons (pv 5) pa_nil))) pe_int (fun _ _ => rfl)) pe_str (nomark _))))) (pss_one (ps_ret pe_bl)) pss_nil) (pss_one (ps_if (pt_not (pt_val (pcall T.w_mixing_right (ok_w_mixing_right T) (hr.mono (by decide)) (pa_cons (pv 3) (pa_cons (pv 4) pa_nil))))) (pss_one (ps_ret pe_bl)) pss_nil)))))))))) (pss_one (ps_ret pe_bl))))), ?_⟩
    refine st_seq (st_set' (R := fun u H' => ∃ d c, u = .ref d ∧ Src H' d c) (vs_call (va1 (val_var rfl)) fun Q' k => ⟨v, xs, rfl, hv, hl, fun d c H' s hs => k _ H' s ⟨d, c, rfl, hs⟩⟩) fun u H1 s1 ⟨d, c, eu, src⟩ => ?_)
    subst eu
    dsimp only
    refine st_seq (st_forG (R := iI) (xs := ups 0 2) (G := fun _ => True) (fun i σ H' => Src H' d c ∧ ∃ z2 z3 z4 z5 z6 z7 z8 z9 z10 : Option V, σ = [some v, some (.ref d), z2, z3, z4, z5, z6, z7, z8, z9, z10]) (wsg_range (n := 2) (va1 val_c) (by decide)) (fun H2 s2 => ⟨src.same s2, none, none, none, none, none, none, none, none, none, rfl⟩) (fun _ _ _ _ => trivial) ?_ ?_)
    · rintro i x vlap σ1 H2 H3 hx ⟨src2, z2, z3, z4, z5, z6, z7, z8, z9, z10, rfl⟩ s3 hr
      have src3 := src2.same s3
      clear hx hr
      refine st_seq (st_unp3 (A := fun x y z H' => Src H' d c ∧ ∃ cols cs ts, iCols K H' x cols ∧ iL K (iQ K) H' y cs ∧ iRow K H' z ts ∧ LP cols cs ts ∧ cols.length ≤ 5 ∧ ts.length ≤ 3) (fun Q' k => vd_call (d := d) (c := c) (R := fun u H' => ∃ a x y z, u = .ref a ∧ SqT K H' a [x, y, z] ∧ ∃ cols cs ts, iCols K H' x cols ∧ iL K (iQ K) H' y cs ∧ iRow K H' z ts ∧ LP cols cs ts ∧ cols.length ≤ 5 ∧ ts.length ≤ 3) (va1 (val_var rfl)) (fun Q2 k2 => ⟨d, c, rfl, src3, fun a x y z cols cs ts H' kp ha hx hy hz lp l5 l3 => k2 _ H' kp ⟨a, x, y, z, rfl, ha, cols, cs, ts, hx, hy, hz, lp, l5, l3⟩⟩) _ fun u H4 k4 ⟨a, x, y, z, e, ha, hall⟩ => by
        subst e; exact k a x y z H4 ha ⟨k4.src, hall⟩) fun vx vy vz H4 ⟨src4, cols, cs, ts, hx, hy, hz, lp, l5, l3⟩ => ?_)
      dsimp only
      have lcl := lp.cl
      refine st_seq (st_set' (R := fun t H' => ∃ r, iRes K H' t r ∧ Right cols cs ts r ∧ resSmall 125 r) (vs_call (va_cons (val_var rfl) (va2 (val_var rfl) (val_var rfl))) fun Q' k => ⟨vx, vy, vz, cols, cs, ts, rfl, hx, hy, hz, lp, fun t H5 r s5 hr g1 g2 => k t H5 s5 ⟨r, hr, g1, g2⟩⟩) fun vt H5 s5 ⟨r, hr, hR, hrs⟩ => ?_)
      dsimp only
      refine st_seq (st_unp3 (A := fun x y z H' => Same H5 H' ∧ iCols K H' x (turnCols cols ts.length) ∧ iL K (iQ K) H' y (turnCosts ts cols.length) ∧ iRow K H' z cs) (fun Q' k => vs_call (R := fun u H' => ∃ a x y z, u = .ref a ∧ SqT K H' a [x, y, z] ∧ iCols K H' x (turnCols cols ts.length) ∧ iL K (iQ K) H' y (turnCosts ts cols.length) ∧ iRow K H' z cs) (va_cons (val_var rfl) (va2 (val_var rfl) (val_var rfl))) (fun Q2 k2 => ⟨vx, vy, vz, cols, cs, ts, rfl, mCols.to s5 hx, (mL mQ).to s5 hy, mRow.to s5 hz, lp, l5, l3, fun a x y z H' s ha h1 h2 h3 => k2 _ H' s ⟨a, x, y, z, rfl, ha, h1, h2, h3⟩⟩) _ fun u H6 s6 ⟨a, x, y, z, e, ha, hall⟩ => by
        subst e; exact k a x y z H6 ha ⟨s6, hall⟩) fun wx wy wz H6 ⟨s6, gx, gy, gz⟩ => ?_)
      dsimp only
      have lp2 := turn_lp lp l5 l3
      refine st_seq (st_set' (R := fun t H' => ∃ r, iRes K H' t r ∧ Right (turnCols cols ts.length) (turnCosts ts cols.length) cs r ∧ resSmall 125 r) (vs_call (va_cons (val_var rfl) (va2 (val_var rfl) (val_var rfl))) fun Q' k => ⟨wx, wy, wz, _, _, _, rfl, gx, gy, gz, lp2, fun t H7 r s7 hr g1 g2 => k t H7 s7 ⟨r, hr, g1, g2⟩⟩) fun wt H7 s7 ⟨r', hr', hR', hrs'⟩ => ?_)
      dsimp only
      have s57 := s6.trans s7
      have s47 := s5.trans s57
      have hT := law_turn lp hR hR'
      -- both judged right
      refine st_seq (st_no' (as_or (b1 := false) (b2 := false) (as_callNon (vs_call (va_cons (val_var rfl) (va_cons (val_var rfl) (va2 (val_var rfl) (val_var rfl)))) fun Q' k => ⟨vx, vy, vz, vt, cols, cs, ts, r, rfl, mCols.to s47 hx, (mL mQ).to s47 hy, mRow.to s47 hz, mRes.to s57 hr, lp, hrs.mono (by decide), hR, fun H' s => k _ H' s rfl⟩))
        fun _ H8 s8 => as_callNon (vs_call (va_cons (val_var rfl) (va_cons (val_var rfl) (va2 (val_var rfl) (val_var rfl)))) fun Q' k => ⟨wx, wy, wz, wt, _, _, _, r', rfl, mCols.to (s7.trans s8) gx, (mL mQ).to (s7.trans s8) gy, mRow.to (s7.trans s8) gz, mRes.to s8 hr', lp2, hrs'.mono (by decide), hR', fun H' s => k _ H' s rfl⟩)) fun H8 s8 => st_next ?_)
      dsimp only
      have s48 := s47.trans s8
      have hx8 := mCols.to s48 hx
      have hy8 := (mL mQ).to s48 hy
      have hz8 := mRow.to s48 hz
      have hr8 := mRes.to (s57.trans s8) hr
      have hr8' := mRes.to s8 hr'
      have gy8 := (mL mQ).to (s7.trans s8) gy
      have src8 := src4.same s48
      have ro : RO ts.length cols := ⟨lp.pos, l5, l3, lp.rl, lp.la⟩
      refine st_seq (st_tail (A := fun σ' H' => σ' = [some v, some (.ref d), some vlap, some vx, some vy, some vz, some vt, some wx, some wy, some wz, some wt] ∧ Same H8 H') ?_ fun N hN => ?_)
      · rintro σ' H9 ⟨rfl, s9⟩
        dsimp only
        have hx9 := mCols.to s9 hx8
        have hy9 := (mL mQ).to s9 hy8
        have hz9 := mRow.to s9 hz8
        have hr9 := mRes.to s9 hr8
        refine st_seq (st_no' ?_ fun H10 s10 => st_next ?_)
        · have sol : (∃ x, Mx.Nn cols.length x ∧ Mx.Rc cols.length ts.length (Mx.colF cols) (Mx.vF ts) x) → ∀ {H' : Hp}, Same H9 H' → VS (tOp rNe (tOp (rIxT K) (tCall (spSolved K) [] E0 (tCons (tVar 3) (tCons (tVar 5) tNil))) (tC (.int 0))) (tC (.str "solved"))) [some v, some (.ref d), some vlap, some vx, some vy, some vz, some vt, some wx, some wy, some wz, some wt] H' (fun u _ => u = .bl false) := fun hsome {H'} s => VS.imp (vs_neS (a := "solved") (vs_fst (vs_call (va2 (val_var rfl) (val_var rfl)) fun Q' k => ⟨vx, vz, cols, cs, ts, rfl, mCols.to s hx9, mRow.to s hz9, lp, l5, hsome, fun a w H2 s2 ha => k _ H2 s2 ⟨a, w, rfl, ha⟩⟩))) fun u H2 s2 e => by rw [e]; rfl
          cases r with
          | none sl => exact (as_and (b1 := false) (b2 := false) (as_of (ans_ntag (val_var rfl) hr9 rfl)) fun e => absurd e (by decide)).to rfl
          | least xx yy => exact (as_and (b1 := true) (b2 := false) (as_of (ans_ntag (val_var rfl) hr9 (by rw [show tagOf (LRes.least xx yy) = "least" from rfl, tag_ne (a := "least") (b := "none") (by decide)]; rfl))) fun _ H10 s10 => as_test (sol ⟨_, hR.2.2.nn, hR.2.2.rc⟩ s10)).to rfl
          | endless xx zz => exact (as_and (b1 := true) (b2 := false) (as_of (ans_ntag (val_var rfl) hr9 (by rw [show tagOf (LRes.endless xx zz) = "endless" from rfl, tag_ne (a := "endless") (b := "none") (by decide)]; rfl))) fun _ H10 s10 => as_test (sol ⟨_, hR.2.2.nn, hR.2.2.rc⟩ s10)).to rfl
        · refine st_no' (as_not (b := true) (as_val (vs_call (va2 (val_var rfl) (val_var rfl)) fun Q' k => ⟨vx, vy, ts.length, cols, cs, rfl, mCols.to s10 hx9, (mL mQ).to s10 hy9, ro, lcl, lp.lc, fun H' s => k _ H' s rfl⟩))) fun H11 s11 => st_next ?_
          exact ⟨((src8.same s9).same s10).same s11, _, _, _, _, _, _, _, _, _, rfl⟩
      cases r with
      | none sl =>
        refine st_no (ans_tag (val_var rfl) hr8 (tag_ne (a := "none") (b := "least") (by decide))) ?_
        have ht : decide (V.str (tagOf r') = V.str "least") = false := by
          cases r' with
          | least w u => exact (hT w u rfl).elim
          | none s => exact tag_ne (a := "none") (b := "least") (by decide)
          | endless w u => exact tag_ne (a := "endless") (b := "least") (by decide)
        refine st_no (ans_or (ans_tag (val_var rfl) hr8' ht) (ans_and0 (ans_tag (val_var rfl) hr8 (tag_ne (a := "none") (b := "endless") (by decide))))) (st_next ?_)
        exact hN _ _ ⟨rfl, Same.refl _⟩
      | endless xx zz =>
        obtain ⟨sl, e⟩ := hT
        subst e
        refine st_no (ans_tag (val_var rfl) hr8 (tag_ne (a := "endless") (b := "least") (by decide))) ?_
        refine st_no (ans_or (ans_tag (val_var rfl) hr8' (tag_ne (a := "none") (b := "least") (by decide))) (ans_and (ans_tag (val_var rfl) hr8 (decide_eq_true rfl)) (ans_ntag (val_var rfl) hr8' rfl))) (st_next ?_)
        exact hN _ _ ⟨rfl, Same.refl _⟩
      | least xx yy =>
        obtain ⟨w, u, e, hd⟩ := hT
        subst e
        refine st_yes' (as_of (ans_tag (val_var rfl) hr8 (decide_eq_true rfl))) fun H9 s9 => ?_
        have hr9 := mRes.to s9 hr8
        have hr9' := mRes.to s9 hr8'
        have tl := turn_len (cols := cols) (m := ts.length)
        have tcl := tcost_len (ts := ts) (n := cols.length)
        have cb1 : CB cs.length 12 125 := by unfold CB; omega
        have cb2 : CB (turnCosts ts cols.length).length 12 125 := by unfold CB; omega
        refine st_no' (as_or (b1 := false) (b2 := false) (as_of (ans_ntag (val_var rfl) hr9' rfl)) fun _ H10 s10 => as_test (VS.imp (vs_neQ (x := dotL (turnCosts ts cols.length) w) (y := dotL cs xx * (-1)) ?_ fun H11 s11 => ?_) fun u' H11 s11 e => ?_)) fun H10 s10 => st_next (hN _ _ ⟨rfl, s9.trans s10⟩)
        · obtain ⟨u1, hu1, hu2⟩ := res_first (σ := [some v, some (.ref d), some vlap, some vx, some vy, some vz, some vt, some wx, some wy, some wz, some wt]) (val_var (i := 10) rfl) (mRes.to s10 hr9')
          exact vs_call (va2 (val_var rfl) hu1) fun Q' k => ⟨wy, u1, _, w, 12, 125, rfl, (mL mQ).to (s9.trans s10) gy8, hu2, lp2.sc, hrs'.1, cb2, fun r2 H' s hr2 => k r2 H' s hr2⟩
        · refine vs_callS (vsaSS (R := fun z H' => iQ K H' z (dotL cs xx)) (S := fun z H' => iQ K H' z (-1)) ?_ (fun H12 s12 => vs_m1 (K := K)) fun _ _ _ s h => mQ.to s h) ?_
          · obtain ⟨u1, hu1, hu2⟩ := res_first (σ := [some v, some (.ref d), some vlap, some vx, some vy, some vz, some vt, some wx, some wy, some wz, some wt]) (val_var (i := 6) rfl) (mRes.to (s10.trans s11) hr9)
            exact vs_call (va2 (val_var rfl) hu1) fun Q' k => ⟨vy, u1, cs, xx, 12, 125, rfl, (mL mQ).to (s9.trans (s10.trans s11)) hy8, hu2, lp.sc, hrs.1, cb1, fun r2 H' s hr2 => k r2 H' s hr2⟩
          · rintro vs H12 s12 ⟨a, b, rfl, ha, hb⟩ Q' k
            exact ⟨a, b, _, _, rfl, ha, hb, ⟨cb1.sz lp.sc hrs.1 (Nat.le_refl _), limG.sz.mono (by decide)⟩, fun r2 H' s hr2 => k r2 H' s hr2⟩
        · rw [e, decide_eq_true hd]; rfl
    · rintro σ1 H2 ⟨_, z2, z3, z4, z5, z6, z7, z8, z9, z10, rfl⟩
      dsimp only
      exact st_ret val_c (q H2)
end
end K19
namespace K19
open PySem PySem.Spec PyProof.Rows L2
/-! ### the head: facts by names, the run -/
abbrev R : PySem.W.OpenRow := PySem.W.OpenLaw.row PySem.Challenge.rw_ledlevels_k19_whole_sums_and_prices
def dd0 (n : PySem.Str) (st : Stmt) : He.DefD := ⟨(n, none), n, n, defArgs st, defBody st, defScope st, [], []⟩
def dm0 (n q : PySem.Str) (st : Stmt) : He.DefD := ⟨("Table", some n), n, q, defArgs st, defBody st, defScope st, [], []⟩
def fn0 : List He.DefD := [dd0 "is_number" s_is_number, dd0 "in_form" s_in_form, dd0 "fraction" s_fraction, dd0 "is_fraction" s_is_fraction, dd0 "plus" s_plus, dd0 "minus" s_minus, dd0 "times_of" s_times_of, dd0 "divided" s_divided, dd0 "is_less" s_is_less, dd0 "summed" s_summed, dd0 "common_of" s_common_of, dd0 "back" s_back, dd0 "product" s_product, dd0 "is_long_row" s_is_long_row, dd0 "least" s_least, dd0 "cost_of" s_cost_of, dd0 "first_below" s_first_below, dd0 "sum_at" s_sum_at, dd0 "first_apart" s_first_apart, dd0 "amounts_fault" s_amounts_fault, dd0 "prices_fault" s_prices_fault, dd0 "slope_fault" s_slope_fault, dd0 "more_fault" s_more_fault, dd0 "has_form" s_has_form, dd0 "judge_least" s_judge_least, dd0 "without" s_without, dd0 "rank" s_rank, dd0 "solved" s_solved, dd0 "lengthened" s_lengthened, dd0 "mixed" s_mixed]
def fn1 : List He.DefD := [dd0 "judge_mixed" s_judge_mixed, dd0 "shares_fault" s_shares_fault, dd0 "lots" s_lots, dd0 "only_mixing" s_only_mixing, dd0 "comes_ahead" s_comes_ahead, dd0 "corners" s_corners, dd0 "use_of" s_use_of, dd0 "usable" s_usable, dd0 "_law_open_cells" s_w_open_cells, dd0 "_law_pick" s_w_pick, dd0 "_law_any_order" s_w_any_order, dd0 "_law_common" s_w_common, dd0 "_law_fraction" s_w_fraction, dd0 "_law_sum" s_w_sum, dd0 "_law_times" s_w_times, dd0 "_law_over" s_w_over, dd0 "_law_below" s_w_below, dd0 "_law_all" s_w_all, dd0 "_law_row_sum" s_w_row_sum, dd0 "_law_row_times" s_w_row_times, dd0 "_law_reached" s_w_reached, dd0 "_law_longer" s_w_longer, dd0 "_law_draw_fraction" s_w_draw_fraction, dd0 "_law_draw_row" s_w_draw_row, dd0 "_law_draw_rows" s_w_draw_rows, dd0 "_law_draw_sum" s_w_draw_sum, dd0 "_law_cost" s_w_cost, dd0 "_law_turned" s_w_turned, dd0 "_law_mixing_right" s_w_mixing_right, dd0 "law" s_law]
def fn2 : List He.DefD := [dm0 "__init__" "Table.__init__" s_T_init, dm0 "exchange" "Table.exchange" s_T_exchange, dm0 "less" "Table.less" s_T_less, dm0 "leaving" "Table.leaving" s_T_leaving, dm0 "is_sooner" "Table.is_sooner" s_T_is_sooner, dm0 "helping" "Table.helping" s_T_helping, dm0 "reach" "Table.reach" s_T_reach, dm0 "is_reached" "Table.is_reached" s_T_is_reached, dm0 "improve" "Table.improve" s_T_improve, dm0 "amounts" "Table.amounts" s_T_amounts, dm0 "more" "Table.more" s_T_more, dm0 "prices" "Table.prices" s_T_prices, dm0 "slope" "Table.slope" s_T_slope]
def fn : List He.DefD := fn0 ++ (fn1 ++ (fn2))
def fa0 : List He.Fa := [.glo "is_number", .glo "in_form", .glo "fraction", .glo "is_fraction", .glo "plus", .glo "minus", .glo "times_of", .glo "divided", .glo "is_less", .glo "summed", .glo "common_of", .glo "back", .glo "product", .glo "is_long_row", .glo "least", .glo "cost_of", .glo "first_below", .glo "sum_at", .glo "first_apart", .glo "amounts_fault", .glo "prices_fault", .glo "slope_fault", .glo "more_fault", .glo "has_form", .glo "judge_least", .glo "without", .glo "rank", .glo "solved", .glo "lengthened", .glo "mixed"]
def fa1 : List He.Fa := [.glo "judge_mixed", .glo "shares_fault", .glo "lots", .glo "only_mixing", .glo "comes_ahead", .glo "corners", .glo "use_of", .glo "usable", .glo "_law_open_cells", .glo "_law_pick", .glo "_law_any_order", .glo "_law_common", .glo "_law_fraction", .glo "_law_sum", .glo "_law_times", .glo "_law_over", .glo "_law_below", .glo "_law_all", .glo "_law_row_sum", .glo "_law_row_times", .glo "_law_reached", .glo "_law_longer", .glo "_law_draw_fraction", .glo "_law_draw_row", .glo "_law_draw_rows", .glo "_law_draw_sum", .glo "_law_cost", .glo "_law_turned", .glo "_law_mixing_right", .glo "law"]
def fa2 : List He.Fa := [.glo "Table", .cls "Table", .meth "Table" "__init__", .meth "Table" "exchange", .meth "Table" "less", .meth "Table" "leaving", .meth "Table" "is_sooner", .meth "Table" "helping", .meth "Table" "reach", .meth "Table" "is_reached", .meth "Table" "improve", .meth "Table" "amounts", .meth "Table" "more", .meth "Table" "prices", .meth "Table" "slope", .mkr "Table", .noat "Table" "many", .noat "Table" "levels", .noat "Table" "over", .noat "Table" "scales", .noat "Table" "rows", .noat "Table" "cost_scale", .noat "Table" "costs", .noat "Table" "gaps", .noat "Table" "basis", .free "isinstance", .free "int", .free "bool", .free "tuple", .free "len"]
def fa3 : List He.Fa := [.free "all", .free "any", .free "abs", .free "zip", .free "enumerate", .free "range", .free "sum", .free "list", .free "min", .free "dict", .glo "ZERO", .glo "ONE", .glo "GAIN"]
def fa : List He.Fa := fa0 ++ (fa1 ++ (fa2 ++ (fa3)))
def exF (K : PySem.W.Frag) : Bool := He.tupB K "ZERO" [.int 0, .int 1] && (He.tupB K "ONE" [.int 1, .int 1] && (He.tupB K "GAIN" [.int (-1), .int 1] && He.eqO (PySem.W.nsIn K mainGlobals "gcd") (some (some (.builtin "math.gcd")))))
def obsX (g : Addr → Option Obj) : He.AlD × Bool := (He.obsDG 4 fa fn g, exF (He.frG g (He.asD g 4)))
def hkX : PySem.W.Hook where
  α := He.AlD × Bool
  obs := fun s => obsX s.heap.get?
  val := fun _ => (He.valD fn, true)
  says := fun _ h => ∃ K : PySem.W.Frag, K.In h ∧ He.SaysD fa fn K ∧ exF K = true
  of := fun _ _ e => ⟨_, He.frG_in, congrArg Prod.fst e, congrArg Prod.snd e⟩
  keeps := fun _ _ _ ⟨K, hK, c, e⟩ k => ⟨K, PySem.W.Frag.In.keeps hK k, c, e⟩
def obX (s : PySem.W.SharedT) : He.AlD × Bool := obsX (HandSHeadRun.getT s)
theorem obX_eq (s : PySem.W.SharedT) : obX s = hkX.obs s.abs := by
  have e : HandSHeadRun.getT s = s.abs.heap.get? := funext (HandSHeadRun.getT_eq s)
  show obsX (HandSHeadRun.getT s) = obsX s.abs.heap.get?
  rw [e]
def ln0 : List PySem.Str := ["LevelError", "BadFraction", "ZERO", "ONE", "is_number", "in_form", "fraction", "is_fraction", "plus", "minus", "times_of", "divided", "is_less", "summed", "common_of", "back", "product", "is_long_row", "Table", "least", "cost_of", "first_below", "sum_at", "first_apart", "amounts_fault", "prices_fault", "slope_fault", "more_fault", "has_form", "judge_least"]
def ln1 : List PySem.Str := ["without", "rank", "solved", "lengthened", "mixed", "judge_mixed", "shares_fault", "lots", "only_mixing", "comes_ahead", "corners", "GAIN", "use_of", "usable", "_law_open_cells", "_law_pick", "_law_any_order", "_law_common", "_law_fraction", "_law_sum", "_law_times", "_law_over", "_law_below", "_law_all", "_law_row_sum", "_law_row_times", "_law_reached", "_law_longer", "_law_draw_fraction", "_law_draw_row"]
def ln2 : List PySem.Str := ["_law_draw_rows", "_law_draw_sum", "_law_cost", "_law_turned", "_law_mixing_right"]
def loose : List PySem.Str := ln0 ++ ln1 ++ ln2
theorem run (w : World) : HandSHeadRun.RunEqI R (PySem.W.view R.prog [0, 74]) hkX obX 6000 loose w := by
  unfold HandSHeadRun.RunEqI
  kernel_rfl
end K19
namespace K19
open PySem PySem.Spec PyProof.Rows L2
/-! ### what the top leaves -/
section
variable {K : PySem.W.Frag} {h : Heap} {mg : PySem.Str → Option Value}
theorem mkD (X : K.In h) (G : h.Ns mainGlobals mg) (c : He.SaysD fa fn K) {name : PySem.Str} {st : Stmt} {ps : List PySem.Str} (i j : Nat) (hi : fn[i]? = some (dd0 name st)) (hj : fa[j]? = some (.glo name))
    (hb : ∀ (kV doc pm : Value) (an : Option Addr) (cdv ct : Value) (us : List Value), us.length = ps.length → bindArgs (PySem.W.fnOf name name (defArgs st) (defBody st) (defScope st) .none kV doc pm an cdv ct) ⟨us, []⟩ = pure (ps.zip us)) : Nonempty (Def0 K mg name st ps) := by
  obtain ⟨fd, F⟩ := c.def_ i hi
  exact ⟨⟨_, fd, F, He.glo_ok X G (c.fact j hj), FunD.bindsN (F := F) hb⟩⟩
theorem mkM (c : He.SaysD fa fn K) {name qual : PySem.Str} {st : Stmt} {ps : List PySem.Str} (i j : Nat) (hi : fn[i]? = some (dm0 name qual st)) (hj : fa[j]? = some (.meth "Table" name))
    (hb : ∀ (kV doc pm : Value) (an : Option Addr) (cdv ct : Value) (us : List Value), us.length = ps.length → bindArgs (PySem.W.fnOf name qual (defArgs st) (defBody st) (defScope st) .none kV doc pm an cdv ct) ⟨us, []⟩ = pure (ps.zip us)) : Nonempty { M : Met0 K (He.ga K "Table") name qual st ps // M.f = He.ma K (He.ga K "Table") name } := by
  obtain ⟨fd, F⟩ := c.def_ i hi
  exact ⟨⟨⟨_, fd, F, He.meth_ok (c.fact j hj), FunD.bindsN (F := F) hb⟩, rfl⟩⟩
theorem txt (X : K.In h) (G : h.Ns mainGlobals mg) (c : He.SaysD fa fn K) (e : exF K = true) : Nonempty (Txt K mg) := by
  obtain ⟨d0⟩ := mkD (name := "is_number") (st := s_is_number) (ps := ["value"]) X G c 0 0 rfl rfl (fun _ _ _ _ _ _ us hl => match us, hl with | [_], _ => rfl)
  obtain ⟨d1⟩ := mkD (name := "in_form") (st := s_in_form) (ps := ["n", "d"]) X G c 1 1 rfl rfl (fun _ _ _ _ _ _ us hl => match us, hl with | [_, _], _ => rfl)
  obtain ⟨d2⟩ := mkD (name := "fraction") (st := s_fraction) (ps := ["n", "d"]) X G c 2 2 rfl rfl (fun _ _ _ _ _ _ us hl => match us, hl with | [_, _], _ => rfl)
  obtain ⟨d3⟩ := mkD (name := "is_fraction") (st := s_is_fraction) (ps := ["value"]) X G c 3 3 rfl rfl (fun _ _ _ _ _ _ us hl => match us, hl with | [_], _ => rfl)
  obtain ⟨d4⟩ := mkD (name := "plus") (st := s_plus) (ps := ["x", "y"]) X G c 4 4 rfl rfl (fun _ _ _ _ _ _ us hl => match us, hl with | [_, _], _ => rfl)
  obtain ⟨d5⟩ := mkD (name := "minus") (st := s_minus) (ps := ["x", "y"]) X G c 5 5 rfl rfl (fun _ _ _ _ _ _ us hl => match us, hl with | [_, _], _ => rfl)
  obtain ⟨d6⟩ := mkD (name := "times_of") (st := s_times_of) (ps := ["x", "y"]) X G c 6 6 rfl rfl (fun _ _ _ _ _ _ us hl => match us, hl with | [_, _], _ => rfl)
  obtain ⟨d7⟩ := mkD (name := "divided") (st := s_divided) (ps := ["x", "y"]) X G c 7 7 rfl rfl (fun _ _ _ _ _ _ us hl => match us, hl with | [_, _], _ => rfl)
  obtain ⟨d8⟩ := mkD (name := "is_less") (st := s_is_less) (ps := ["x", "y"]) X G c 8 8 rfl rfl (fun _ _ _ _ _ _ us hl => match us, hl with | [_, _], _ => rfl)
  obtain ⟨d9⟩ := mkD (name := "summed") (st := s_summed) (ps := ["fractions"]) X G c 9 9 rfl rfl (fun _ _ _ _ _ _ us hl => match us, hl with | [_], _ => rfl)
  obtain ⟨d10⟩ := mkD (name := "common_of") (st := s_common_of) (ps := ["numbers"]) X G c 10 10 rfl rfl (fun _ _ _ _ _ _ us hl => match us, hl with | [_], _ => rfl)
  obtain ⟨d11⟩ := mkD (name := "back") (st := s_back) (ps := ["row"]) X G c 11 11 rfl rfl (fun _ _ _ _ _ _ us hl => match us, hl with | [_], _ => rfl)
  obtain ⟨d12⟩ := mkD (name := "product") (st := s_product) (ps := ["one", "other"]) X G c 12 12 rfl rfl (fun _ _ _ _ _ _ us hl => match us, hl with | [_, _], _ => rfl)
  obtain ⟨d13⟩ := mkD (name := "is_long_row") (st := s_is_long_row) (ps := ["value", "many"]) X G c 13 13 rfl rfl (fun _ _ _ _ _ _ us hl => match us, hl with | [_, _], _ => rfl)
  obtain ⟨d14⟩ := mkD (name := "least") (st := s_least) (ps := ["columns", "costs", "target"]) X G c 14 14 rfl rfl (fun _ _ _ _ _ _ us hl => match us, hl with | [_, _, _], _ => rfl)
  obtain ⟨d15⟩ := mkD (name := "cost_of") (st := s_cost_of) (ps := ["costs", "amounts"]) X G c 15 15 rfl rfl (fun _ _ _ _ _ _ us hl => match us, hl with | [_, _], _ => rfl)
  obtain ⟨d16⟩ := mkD (name := "first_below") (st := s_first_below) (ps := ["amounts"]) X G c 16 16 rfl rfl (fun _ _ _ _ _ _ us hl => match us, hl with | [_], _ => rfl)
  obtain ⟨d17⟩ := mkD (name := "sum_at") (st := s_sum_at) (ps := ["columns", "amounts", "i"]) X G c 17 17 rfl rfl (fun _ _ _ _ _ _ us hl => match us, hl with | [_, _, _], _ => rfl)
  obtain ⟨d18⟩ := mkD (name := "first_apart") (st := s_first_apart) (ps := ["columns", "amounts", "target"]) X G c 18 18 rfl rfl (fun _ _ _ _ _ _ us hl => match us, hl with | [_, _, _], _ => rfl)
  obtain ⟨d19⟩ := mkD (name := "amounts_fault") (st := s_amounts_fault) (ps := ["columns", "amounts", "target"]) X G c 19 19 rfl rfl (fun _ _ _ _ _ _ us hl => match us, hl with | [_, _, _], _ => rfl)
  obtain ⟨d20⟩ := mkD (name := "prices_fault") (st := s_prices_fault) (ps := ["columns", "costs", "target", "amounts", "prices"]) X G c 20 20 rfl rfl (fun _ _ _ _ _ _ us hl => match us, hl with | [_, _, _, _, _], _ => rfl)
  obtain ⟨d21⟩ := mkD (name := "slope_fault") (st := s_slope_fault) (ps := ["columns", "slope", "target"]) X G c 21 21 rfl rfl (fun _ _ _ _ _ _ us hl => match us, hl with | [_, _, _], _ => rfl)
  obtain ⟨d22⟩ := mkD (name := "more_fault") (st := s_more_fault) (ps := ["columns", "costs", "more"]) X G c 22 22 rfl rfl (fun _ _ _ _ _ _ us hl => match us, hl with | [_, _, _], _ => rfl)
  obtain ⟨d23⟩ := mkD (name := "has_form") (st := s_has_form) (ps := ["value", "many", "levels"]) X G c 23 23 rfl rfl (fun _ _ _ _ _ _ us hl => match us, hl with | [_, _, _], _ => rfl)
  obtain ⟨d24⟩ := mkD (name := "judge_least") (st := s_judge_least) (ps := ["columns", "costs", "target", "value"]) X G c 24 24 rfl rfl (fun _ _ _ _ _ _ us hl => match us, hl with | [_, _, _, _], _ => rfl)
  obtain ⟨d25⟩ := mkD (name := "without") (st := s_without) (ps := ["row", "lead", "k"]) X G c 25 25 rfl rfl (fun _ _ _ _ _ _ us hl => match us, hl with | [_, _, _], _ => rfl)
  obtain ⟨d26⟩ := mkD (name := "rank") (st := s_rank) (ps := ["rows"]) X G c 26 26 rfl rfl (fun _ _ _ _ _ _ us hl => match us, hl with | [_], _ => rfl)
  obtain ⟨d27⟩ := mkD (name := "solved") (st := s_solved) (ps := ["columns", "target"]) X G c 27 27 rfl rfl (fun _ _ _ _ _ _ us hl => match us, hl with | [_, _], _ => rfl)
  obtain ⟨d28⟩ := mkD (name := "lengthened") (st := s_lengthened) (ps := ["rows"]) X G c 28 28 rfl rfl (fun _ _ _ _ _ _ us hl => match us, hl with | [_], _ => rfl)
  obtain ⟨d29⟩ := mkD (name := "mixed") (st := s_mixed) (ps := ["rows"]) X G c 29 29 rfl rfl (fun _ _ _ _ _ _ us hl => match us, hl with | [_], _ => rfl)
  obtain ⟨d30⟩ := mkD (name := "judge_mixed") (st := s_judge_mixed) (ps := ["rows", "value"]) X G c 30 30 rfl rfl (fun _ _ _ _ _ _ us hl => match us, hl with | [_, _], _ => rfl)
  obtain ⟨d31⟩ := mkD (name := "shares_fault") (st := s_shares_fault) (ps := ["rows", "shares"]) X G c 31 31 rfl rfl (fun _ _ _ _ _ _ us hl => match us, hl with | [_, _], _ => rfl)
  obtain ⟨d32⟩ := mkD (name := "lots") (st := s_lots) (ps := ["many", "most"]) X G c 32 32 rfl rfl (fun _ _ _ _ _ _ us hl => match us, hl with | [_, _], _ => rfl)
  obtain ⟨d33⟩ := mkD (name := "only_mixing") (st := s_only_mixing) (ps := ["rows", "lot"]) X G c 33 33 rfl rfl (fun _ _ _ _ _ _ us hl => match us, hl with | [_, _], _ => rfl)
  obtain ⟨d34⟩ := mkD (name := "comes_ahead") (st := s_comes_ahead) (ps := ["one", "other"]) X G c 34 34 rfl rfl (fun _ _ _ _ _ _ us hl => match us, hl with | [_, _], _ => rfl)
  obtain ⟨d35⟩ := mkD (name := "corners") (st := s_corners) (ps := ["rows"]) X G c 35 35 rfl rfl (fun _ _ _ _ _ _ us hl => match us, hl with | [_], _ => rfl)
  obtain ⟨d36⟩ := mkD (name := "use_of") (st := s_use_of) (ps := ["columns", "target", "k"]) X G c 36 36 rfl rfl (fun _ _ _ _ _ _ us hl => match us, hl with | [_, _, _], _ => rfl)
  obtain ⟨d37⟩ := mkD (name := "usable") (st := s_usable) (ps := ["columns", "target"]) X G c 37 37 rfl rfl (fun _ _ _ _ _ _ us hl => match us, hl with | [_, _], _ => rfl)
  obtain ⟨d38⟩ := mkD (name := "_law_open_cells") (st := s_w_open_cells) (ps := ["_law_script"]) X G c 38 38 rfl rfl (fun _ _ _ _ _ _ us hl => match us, hl with | [_], _ => rfl)
  obtain ⟨d39⟩ := mkD (name := "_law_pick") (st := s_w_pick) (ps := ["_law_source", "_law_most"]) X G c 39 39 rfl rfl (fun _ _ _ _ _ _ us hl => match us, hl with | [_, _], _ => rfl)
  obtain ⟨d40⟩ := mkD (name := "_law_any_order") (st := s_w_any_order) (ps := ["_law_source", "_law_things"]) X G c 40 40 rfl rfl (fun _ _ _ _ _ _ us hl => match us, hl with | [_, _], _ => rfl)
  obtain ⟨d41⟩ := mkD (name := "_law_common") (st := s_w_common) (ps := ["_law_a", "_law_b"]) X G c 41 41 rfl rfl (fun _ _ _ _ _ _ us hl => match us, hl with | [_, _], _ => rfl)
  obtain ⟨d42⟩ := mkD (name := "_law_fraction") (st := s_w_fraction) (ps := ["_law_n", "_law_d"]) X G c 42 42 rfl rfl (fun _ _ _ _ _ _ us hl => match us, hl with | [_, _], _ => rfl)
  obtain ⟨d43⟩ := mkD (name := "_law_sum") (st := s_w_sum) (ps := ["_law_x", "_law_y"]) X G c 43 43 rfl rfl (fun _ _ _ _ _ _ us hl => match us, hl with | [_, _], _ => rfl)
  obtain ⟨d44⟩ := mkD (name := "_law_times") (st := s_w_times) (ps := ["_law_x", "_law_y"]) X G c 44 44 rfl rfl (fun _ _ _ _ _ _ us hl => match us, hl with | [_, _], _ => rfl)
  obtain ⟨d45⟩ := mkD (name := "_law_over") (st := s_w_over) (ps := ["_law_x", "_law_y"]) X G c 45 45 rfl rfl (fun _ _ _ _ _ _ us hl => match us, hl with | [_, _], _ => rfl)
  obtain ⟨d46⟩ := mkD (name := "_law_below") (st := s_w_below) (ps := ["_law_x", "_law_y"]) X G c 46 46 rfl rfl (fun _ _ _ _ _ _ us hl => match us, hl with | [_, _], _ => rfl)
  obtain ⟨d47⟩ := mkD (name := "_law_all") (st := s_w_all) (ps := ["_law_fractions"]) X G c 47 47 rfl rfl (fun _ _ _ _ _ _ us hl => match us, hl with | [_], _ => rfl)
  obtain ⟨d48⟩ := mkD (name := "_law_row_sum") (st := s_w_row_sum) (ps := ["_law_one", "_law_other"]) X G c 48 48 rfl rfl (fun _ _ _ _ _ _ us hl => match us, hl with | [_, _], _ => rfl)
  obtain ⟨d49⟩ := mkD (name := "_law_row_times") (st := s_w_row_times) (ps := ["_law_one", "_law_x"]) X G c 49 49 rfl rfl (fun _ _ _ _ _ _ us hl => match us, hl with | [_, _], _ => rfl)
  obtain ⟨d50⟩ := mkD (name := "_law_reached") (st := s_w_reached) (ps := ["_law_columns", "_law_amounts", "_law_many"]) X G c 50 50 rfl rfl (fun _ _ _ _ _ _ us hl => match us, hl with | [_, _, _], _ => rfl)
  obtain ⟨d51⟩ := mkD (name := "_law_longer") (st := s_w_longer) (ps := ["_law_rows"]) X G c 51 51 rfl rfl (fun _ _ _ _ _ _ us hl => match us, hl with | [_], _ => rfl)
  obtain ⟨d52⟩ := mkD (name := "_law_draw_fraction") (st := s_w_draw_fraction) (ps := ["_law_source", "_law_wide"]) X G c 52 52 rfl rfl (fun _ _ _ _ _ _ us hl => match us, hl with | [_, _], _ => rfl)
  obtain ⟨d53⟩ := mkD (name := "_law_draw_row") (st := s_w_draw_row) (ps := ["_law_source", "_law_many", "_law_wide"]) X G c 53 53 rfl rfl (fun _ _ _ _ _ _ us hl => match us, hl with | [_, _, _], _ => rfl)
  obtain ⟨d54⟩ := mkD (name := "_law_draw_rows") (st := s_w_draw_rows) (ps := ["_law_source", "_law_many", "_law_most", "_law_wide"]) X G c 54 54 rfl rfl (fun _ _ _ _ _ _ us hl => match us, hl with | [_, _, _, _], _ => rfl)
  obtain ⟨d55⟩ := mkD (name := "_law_draw_sum") (st := s_w_draw_sum) (ps := ["_law_source"]) X G c 55 55 rfl rfl (fun _ _ _ _ _ _ us hl => match us, hl with | [_], _ => rfl)
  obtain ⟨d56⟩ := mkD (name := "_law_cost") (st := s_w_cost) (ps := ["_law_costs", "_law_amounts"]) X G c 56 56 rfl rfl (fun _ _ _ _ _ _ us hl => match us, hl with | [_, _], _ => rfl)
  obtain ⟨d57⟩ := mkD (name := "_law_turned") (st := s_w_turned) (ps := ["_law_columns", "_law_costs", "_law_target"]) X G c 57 57 rfl rfl (fun _ _ _ _ _ _ us hl => match us, hl with | [_, _, _], _ => rfl)
  obtain ⟨d58⟩ := mkD (name := "_law_mixing_right") (st := s_w_mixing_right) (ps := ["_law_rows", "_law_costs"]) X G c 58 58 rfl rfl (fun _ _ _ _ _ _ us hl => match us, hl with | [_, _], _ => rfl)
  obtain ⟨d59⟩ := mkD (name := "law") (st := s_law) (ps := ["_law_script"]) X G c 59 59 rfl rfl (fun _ _ _ _ _ _ us hl => match us, hl with | [_], _ => rfl)
  obtain ⟨m0, em0⟩ := mkM (name := "__init__") (qual := "Table.__init__") (st := s_T_init) (ps := ["self", "columns", "costs", "target"]) c 60 62 rfl rfl (fun _ _ _ _ _ _ us hl => match us, hl with | [_, _, _, _], _ => rfl)
  obtain ⟨m1, em1⟩ := mkM (name := "exchange") (qual := "Table.exchange") (st := s_T_exchange) (ps := ["self", "r", "c"]) c 61 63 rfl rfl (fun _ _ _ _ _ _ us hl => match us, hl with | [_, _, _], _ => rfl)
  obtain ⟨m2, em2⟩ := mkM (name := "less") (qual := "Table.less") (st := s_T_less) (ps := ["self", "row", "lead", "pivot", "c"]) c 62 64 rfl rfl (fun _ _ _ _ _ _ us hl => match us, hl with | [_, _, _, _, _], _ => rfl)
  obtain ⟨m3, em3⟩ := mkM (name := "leaving") (qual := "Table.leaving") (st := s_T_leaving) (ps := ["self", "c"]) c 63 65 rfl rfl (fun _ _ _ _ _ _ us hl => match us, hl with | [_, _], _ => rfl)
  obtain ⟨m4, em4⟩ := mkM (name := "is_sooner") (qual := "Table.is_sooner") (st := s_T_is_sooner) (ps := ["self", "k", "other", "c"]) c 64 66 rfl rfl (fun _ _ _ _ _ _ us hl => match us, hl with | [_, _, _, _], _ => rfl)
  obtain ⟨m5, em5⟩ := mkM (name := "helping") (qual := "Table.helping") (st := s_T_helping) (ps := ["self", "numbers"]) c 65 67 rfl rfl (fun _ _ _ _ _ _ us hl => match us, hl with | [_, _], _ => rfl)
  obtain ⟨m6, em6⟩ := mkM (name := "reach") (qual := "Table.reach") (st := s_T_reach) (ps := ["self"]) c 66 68 rfl rfl (fun _ _ _ _ _ _ us hl => match us, hl with | [_], _ => rfl)
  obtain ⟨m7, em7⟩ := mkM (name := "is_reached") (qual := "Table.is_reached") (st := s_T_is_reached) (ps := ["self"]) c 67 69 rfl rfl (fun _ _ _ _ _ _ us hl => match us, hl with | [_], _ => rfl)
  obtain ⟨m8, em8⟩ := mkM (name := "improve") (qual := "Table.improve") (st := s_T_improve) (ps := ["self"]) c 68 70 rfl rfl (fun _ _ _ _ _ _ us hl => match us, hl with | [_], _ => rfl)
  obtain ⟨m9, em9⟩ := mkM (name := "amounts") (qual := "Table.amounts") (st := s_T_amounts) (ps := ["self"]) c 69 71 rfl rfl (fun _ _ _ _ _ _ us hl => match us, hl with | [_], _ => rfl)
  obtain ⟨m10, em10⟩ := mkM (name := "more") (qual := "Table.more") (st := s_T_more) (ps := ["self", "c"]) c 70 72 rfl rfl (fun _ _ _ _ _ _ us hl => match us, hl with | [_, _], _ => rfl)
  obtain ⟨m11, em11⟩ := mkM (name := "prices") (qual := "Table.prices") (st := s_T_prices) (ps := ["self"]) c 71 73 rfl rfl (fun _ _ _ _ _ _ us hl => match us, hl with | [_], _ => rfl)
  obtain ⟨m12, em12⟩ := mkM (name := "slope") (qual := "Table.slope") (st := s_T_slope) (ps := ["self"]) c 72 74 rfl rfl (fun _ _ _ _ _ _ us hl => match us, hl with | [_], _ => rfl)
  obtain ⟨e1, e⟩ := He.ba e
  obtain ⟨e2, e⟩ := He.ba e
  obtain ⟨e3, e4⟩ := He.ba e
  exact ⟨{
    C := He.ga K "Table"
    gC := He.glo_ok X G (c.fact 60 (f := .glo "Table") rfl)
    cl := He.cls_ok (c.fact 61 (f := .cls "Table") rfl)
    is_number := d0
    in_form := d1
    fraction := d2
    is_fraction := d3
    plus := d4
    minus := d5
    times_of := d6
    divided := d7
    is_less := d8
    summed := d9
    common_of := d10
    back := d11
    product := d12
    is_long_row := d13
    least := d14
    cost_of := d15
    first_below := d16
    sum_at := d17
    first_apart := d18
    amounts_fault := d19
    prices_fault := d20
    slope_fault := d21
    more_fault := d22
    has_form := d23
    judge_least := d24
    without := d25
    rank := d26
    solved := d27
    lengthened := d28
    mixed := d29
    judge_mixed := d30
    shares_fault := d31
    lots := d32
    only_mixing := d33
    comes_ahead := d34
    corners := d35
    use_of := d36
    usable := d37
    w_open_cells := d38
    w_pick := d39
    w_any_order := d40
    w_common := d41
    w_fraction := d42
    w_sum := d43
    w_times := d44
    w_over := d45
    w_below := d46
    w_all := d47
    w_row_sum := d48
    w_row_times := d49
    w_reached := d50
    w_longer := d51
    w_draw_fraction := d52
    w_draw_row := d53
    w_draw_rows := d54
    w_draw_sum := d55
    w_cost := d56
    w_turned := d57
    w_mixing_right := d58
    law := d59
    T_init := m0
    T_exchange := m1
    T_less := m2
    T_leaving := m3
    T_is_sooner := m4
    T_helping := m5
    T_reach := m6
    T_is_reached := m7
    T_improve := m8
    T_amounts := m9
    T_more := m10
    T_prices := m11
    T_slope := m12
    mkT := em0.symm ▸ He.mkr_ok (c.fact 75 (f := .mkr "Table") rfl)
    n_many := He.noat_ok (c.fact 76 (f := .noat "Table" "many") rfl)
    n_levels := He.noat_ok (c.fact 77 (f := .noat "Table" "levels") rfl)
    n_over := He.noat_ok (c.fact 78 (f := .noat "Table" "over") rfl)
    n_scales := He.noat_ok (c.fact 79 (f := .noat "Table" "scales") rfl)
    n_rows := He.noat_ok (c.fact 80 (f := .noat "Table" "rows") rfl)
    n_cost_scale := He.noat_ok (c.fact 81 (f := .noat "Table" "cost_scale") rfl)
    n_costs := He.noat_ok (c.fact 82 (f := .noat "Table" "costs") rfl)
    n_gaps := He.noat_ok (c.fact 83 (f := .noat "Table" "gaps") rfl)
    n_basis := He.noat_ok (c.fact 84 (f := .noat "Table" "basis") rfl)
    b_isinstance := He.free_ok X G (c.fact 85 (f := .free "isinstance") rfl)
    b_int := He.free_ok X G (c.fact 86 (f := .free "int") rfl)
    b_bool := He.free_ok X G (c.fact 87 (f := .free "bool") rfl)
    b_tuple := He.free_ok X G (c.fact 88 (f := .free "tuple") rfl)
    b_len := He.free_ok X G (c.fact 89 (f := .free "len") rfl)
    b_all := He.free_ok X G (c.fact 90 (f := .free "all") rfl)
    b_any := He.free_ok X G (c.fact 91 (f := .free "any") rfl)
    b_abs := He.free_ok X G (c.fact 92 (f := .free "abs") rfl)
    b_zip := He.free_ok X G (c.fact 93 (f := .free "zip") rfl)
    b_enumerate := He.free_ok X G (c.fact 94 (f := .free "enumerate") rfl)
    b_range := He.free_ok X G (c.fact 95 (f := .free "range") rfl)
    b_sum := He.free_ok X G (c.fact 96 (f := .free "sum") rfl)
    b_list := He.free_ok X G (c.fact 97 (f := .free "list") rfl)
    b_min := He.free_ok X G (c.fact 98 (f := .free "min") rfl)
    b_dict := He.free_ok X G (c.fact 99 (f := .free "dict") rfl)
    gcd := PySem.W.mg_of X G (He.eqO_ok e4)
    aZERO := He.ga K "ZERO"
    gZERO := He.glo_ok X G (c.fact 100 (f := .glo "ZERO") rfl)
    tZERO := He.tupB_ok e1
    aONE := He.ga K "ONE"
    gONE := He.glo_ok X G (c.fact 101 (f := .glo "ONE") rfl)
    tONE := He.tupB_ok e2
    aGAIN := He.ga K "GAIN"
    gGAIN := He.glo_ok X G (c.fact 102 (f := .glo "GAIN") rfl)
    tGAIN := He.tupB_ok e3
  }⟩
theorem facts {P : Program} {w : World} {f : Addr} (X : K.In h) (G : h.Ns mainGlobals mg) (hfa : mg ("law" : PySem.Str) = some (.ref f)) (c : He.SaysD fa fn K) (e : exF K = true) :
    ∃ fd : FuncData, (∀ (s : Shared) (v : Value), BindsTo s fd ⟨[v], []⟩ [("_law_script", v)]) ∧ ∀ base : Heap, K.In base → base.Ns mainGlobals mg → FnOk P w K mg base CX0 10 f fd ["_law_script"] (spLaw K) := by
  obtain ⟨T⟩ := txt X G c e
  have e := hfa.symm.trans T.law.g
  have e : f = T.law.f := by injection e with e; injection e
  subst e
  have b := FunD.bindsA (ps := ["_law_script"]) T.law.F fun _ _ _ _ _ _ us hl => match us, hl with | [_], _ => rfl
  exact ⟨T.law.fd, fun s v => b s [v] rfl, fun base _ _ => ok_law T⟩
end
end K19
open PySem PySem.W PySem.Calls PyProof.Rows
theorem PySem.Challenge.cw_ledlevels_k19_whole_sums_and_prices_holds : PySem.Challenge.rw_ledlevels_k19_whole_sums_and_prices.Holds := by
  w_on; o_law
  refine HandSHeadRun.head_imp (r := OpenLaw.row PySem.Challenge.rw_ledlevels_k19_whole_sums_and_prices) (q := view (OpenLaw.row PySem.Challenge.rw_ledlevels_k19_whole_sums_and_prices).prog [0, 74]) (H := K19.hkX) (ob := K19.obX) (M := 6000) (loose := K19.loose) (d := HandSHeadRun.topDef (OpenLaw.row PySem.Challenge.rw_ledlevels_k19_whole_sums_and_prices).prog 74) (kwd := []) K19.obX_eq
    K19.run (by kernel_rfl) (by kernel_rfl) (by kernel_rfl) (by rfl) (by first | assumption | decide +kernel) (by decide +kernel) ⟨rfl, rfl, rfl, rfl, rfl, by decide +kernel⟩ ?hw ?hc
  case hw => w_witness2
  case hc =>
    refine L2.walk_ofE (l := PySem.Challenge.rw_ledlevels_k19_whole_sums_and_prices) (n := 63) (k := 10) (x := "_law_script") (CX := L2.CX0) rfl (by decide) (by kernel_rfl) ⟨rfl, by decide, by decide⟩ ?F (fun _ _ _ _ z => z)
    intro w mg fa h Y G hmg0
    obtain ⟨K, KX, c, e⟩ := Y
    have hmg : mg ("law" : PySem.Str) = some (.ref fa) := by
      have e : (HandSHeadRun.topDef (OpenLaw.row PySem.Challenge.rw_ledlevels_k19_whole_sums_and_prices).prog 74).name = ("law" : PySem.Str) := by kernel_rfl
      rw [← e]
      exact hmg0
    obtain ⟨fd, hb, hF⟩ := K19.facts (P := (PySem.Challenge.rw_ledlevels_k19_whole_sums_and_prices).prog) (w := w) KX G hmg c e
    exact ⟨K, fd, K19.spLaw K, KX, hb, fun H a ns hl _ hS => ⟨.ref a, ns, rfl, ⟨a, _, rfl, hS, K19.pintR ns⟩, by omega, fun _ => rfl⟩, hF⟩
