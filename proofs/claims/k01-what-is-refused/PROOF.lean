import PyProof.Rows.All
import Wide.All
import OpenK.AllK
import Wide.FinOn
import KE.KStateDown
import HandS.ForMost
import HandS.IsInst
import HandS.Defaults
import HandS.Wide
import HandS.More
import HandS.WordsExc
import HandS.Head0
import HandS.Head1
import HandS.Head2
import HandS.HeadEnd
import HandS.HeadHook1
import HandS.HeadHook2
import HandS.SortKw
import HandS.IterVal
import KE.KMinKey
import HandS.ForExc
import HandS.ExcIs
import HandS.SetFor
import PySem.Challenge.RW_rootladder_k01_what_is_refused
set_option Elab.async false
set_option linter.all false
set_option maxRecDepth 100000
set_option maxHeartbeats 4000000
namespace RL
/-! whole roots -/
def rtN : Nat → Nat
  | 0 => 0
  | n + 1 => if (rtN n + 1) * (rtN n + 1) ≤ n + 1 then rtN n + 1 else rtN n
def rt (n : Int) : Int := (rtN n.toNat : Int)
theorem rtN_spec : ∀ n : Nat, rtN n * rtN n ≤ n ∧ n < (rtN n + 1) * (rtN n + 1)
  | 0 => ⟨Nat.le_refl 0, by decide⟩
  | n + 1 => by
    have ih := rtN_spec n
    unfold rtN
    split
    · rename_i h
      refine ⟨h, ?_⟩
      have : (rtN n + 1 + 1) * (rtN n + 1 + 1) = (rtN n + 1) * (rtN n + 1) + 2 * (rtN n + 1) + 1 := by grind
      omega
    · rename_i h
      omega
theorem rt_spec {n : Int} (h : 0 ≤ n) : 0 ≤ rt n ∧ rt n * rt n ≤ n ∧ n < (rt n + 1) * (rt n + 1) := by
  have s := rtN_spec n.toNat
  have e : ((n.toNat : Nat) : Int) = n := Int.toNat_of_nonneg h
  unfold rt
  refine ⟨Int.natCast_nonneg _, ?_, ?_⟩
  · have := s.1
    rw [← e]
    have z : ((rtN n.toNat * rtN n.toNat : Nat) : Int) ≤ (n.toNat : Int) := Int.ofNat_le.mpr this
    rw [Int.natCast_mul] at z
    rw [e] at z ⊢
    exact z
  · have := s.2
    have z : ((n.toNat : Nat) : Int) < (((rtN n.toNat + 1) * (rtN n.toNat + 1) : Nat) : Int) := Int.ofNat_lt.mpr this
    rw [Int.natCast_mul, Int.natCast_add, e] at z
    exact z
theorem sq_lt {a b : Int} (h : 0 ≤ a) (hb : a < b) : a * a < b * b := by
  have h1 : a * a ≤ a * b := Int.mul_le_mul_of_nonneg_left (by omega) h
  have h2 : a * b < b * b := Int.mul_lt_mul_of_pos_right hb (by omega)
  omega
theorem sq_le {a b : Int} (h : 0 ≤ a) (hb : a ≤ b) : a * a ≤ b * b := by
  by_cases e : a = b
  · rw [e]; exact Int.le_refl _
  · exact Int.le_of_lt (sq_lt h (by omega))
theorem lt_of_sq {a b : Int} (hb : 0 ≤ b) (h : a * a < b * b) : a < b := by
  by_cases e : a < b
  · exact e
  · have := sq_le hb (show b ≤ a by omega)
    omega
theorem le_of_sq {a b : Int} (hb : 0 ≤ b) (h : a * a ≤ b * b) : a ≤ b := by
  by_cases e : a ≤ b
  · exact e
  · have := sq_lt hb (show b < a by omega)
    omega
theorem rt_uniq {n a : Int} (ha : 0 ≤ a) (h1 : a * a ≤ n) (h2 : n < (a + 1) * (a + 1)) : rt n = a := by
  have hn : 0 ≤ n := by
    have := Int.mul_nonneg ha ha
    omega
  obtain ⟨r0, r1, r2⟩ := rt_spec hn
  have x : rt n < a + 1 := lt_of_sq (by omega) (by omega)
  have y : a < rt n + 1 := lt_of_sq (by omega) (by omega)
  omega
theorem sq_iff {n : Int} (hn : 0 ≤ n) : rt n * rt n = n ↔ ∃ a : Int, a * a = n := by
  refine ⟨fun h => ⟨_, h⟩, fun ⟨a, h⟩ => ?_⟩
  have key : ∀ b : Int, 0 ≤ b → b * b = n → rt n * rt n = n := fun b hb e => by
    have : rt n = b := rt_uniq hb (by omega) (by
      have : (b + 1) * (b + 1) = b * b + 2 * b + 1 := by grind
      omega)
    rw [this, e]
  by_cases ha : 0 ≤ a
  · exact key a ha h
  · exact key (-a) (by omega) (by rw [← h]; grind)
/-- a number between two squares -/
structure Good (n r : Int) : Prop where
  r1 : 1 ≤ r
  lo : r * r < n
  hi : n < (r + 1) * (r + 1)
theorem good_of {n : Int} (h : 2 ≤ n) (hs : rt n * rt n ≠ n) : Good n (rt n) := by
  obtain ⟨r0, r1, r2⟩ := rt_spec (show 0 ≤ n by omega)
  refine ⟨?_, by omega, r2⟩
  by_cases e : rt n = 0
  · rw [e] at r2
    omega
  · omega
structure Red (n r P Q : Int) : Prop where
  p0 : 0 < P
  pr : P ≤ r
  q0 : 0 < Q
  lo : r < P + Q
  hi : Q ≤ r + P
  dv : Q ∣ n - P * P
/-- one step of the ladder: the quotient a, what is taken, what is over -/
structure Step (n r P Q a P' Q' : Int) : Prop where
  a1 : 1 ≤ a
  al : a * Q ≤ r + P
  ah : r + P < a * Q + Q
  pe : P' = a * Q - P
  qe : Q * Q' = n - P' * P'
theorem red_step {n r P Q a P' Q' : Int} (G : Good n r) (R : Red n r P Q) (S : Step n r P Q a P' Q') : Red n r P' Q' := by
  obtain ⟨a1, al, ah, pe, qe⟩ := S
  have hq0 := R.q0
  have haq : Q ≤ a * Q := by
    have := Int.mul_le_mul_of_nonneg_right a1 (show 0 ≤ Q by omega)
    omega
  have h1 : P' ≤ r := by omega
  have h2 : r < P' + Q := by omega
  have h3 : Q ≤ r + P' := by
    have := R.pr
    omega
  have h0 : 0 < P' := by
    by_cases e : Q ≤ r
    · omega
    · have := R.pr
      omega
  have e1 : (r - P') * (r + P') = r * r - P' * P' := by grind
  have e2 : (r + 1 - P') * (r + 1 + P') = (r + 1) * (r + 1) - P' * P' := by grind
  have b1 : (r - P') * Q ≤ (r - P') * (r + P') := Int.mul_le_mul_of_nonneg_left h3 (by omega)
  have glo := G.lo
  have ghi := G.hi
  have q1 : (r - P') * Q < Q * Q' := by omega
  have q2 : r - P' < Q' := by
    rw [Int.mul_comm Q Q'] at q1
    exact Int.lt_of_mul_lt_mul_right q1 (by omega)
  have b2 : Q * (r + 1 + P') ≥ (r + 1 - P') * (r + 1 + P') := Int.mul_le_mul_of_nonneg_right (by omega) (by omega)
  have q3 : Q * Q' < Q * (r + 1 + P') := by omega
  have q4 : Q' < r + 1 + P' := Int.lt_of_mul_lt_mul_left q3 (by omega)
  exact ⟨h0, h1, by omega, by omega, by omega, ⟨Q, qe.symm.trans (Int.mul_comm _ _)⟩⟩
def nxt (n r : Int) (s : Int × Int) : Int × Int :=
  ((r + s.1) / s.2 * s.2 - s.1, (n - ((r + s.1) / s.2 * s.2 - s.1) * ((r + s.1) / s.2 * s.2 - s.1)) / s.2)
def st (n r : Int) : Nat → Int × Int
  | 0 => (r, n - r * r)
  | i + 1 => nxt n r (st n r i)
abbrev sP (n r : Int) (i : Nat) : Int := (st n r i).1
abbrev sQ (n r : Int) (i : Nat) : Int := (st n r i).2
def aq (n r : Int) (i : Nat) : Int := (r + sP n r i) / sQ n r i
theorem red_zero {n r : Int} (G : Good n r) : Red n r r (n - r * r) := by
  have := G.r1
  have := G.lo
  have := G.hi
  have e : (r + 1) * (r + 1) = r * r + 2 * r + 1 := by grind
  exact ⟨by omega, by omega, by omega, by omega, by omega, ⟨1, by omega⟩⟩
theorem step_of {n r P Q : Int} (G : Good n r) (R : Red n r P Q) : Step n r P Q ((r + P) / Q) ((r + P) / Q * Q - P) ((n - ((r + P) / Q * Q - P) * ((r + P) / Q * Q - P)) / Q) := by
  have q0 := R.q0
  have h1 : (r + P) / Q * Q ≤ r + P := Int.ediv_mul_le _ (by omega)
  have h2 : r + P < (r + P) / Q * Q + Q := by
    have := Int.lt_ediv_add_one_mul_self (r + P) q0
    have e : ((r + P) / Q + 1) * Q = (r + P) / Q * Q + Q := by grind
    omega
  have ha : 1 ≤ (r + P) / Q := by
    have := R.hi
    exact (Int.le_ediv_iff_mul_le q0).mpr (by omega)
  refine ⟨ha, h1, h2, rfl, ?_⟩
  refine Int.mul_ediv_cancel' ?_
  obtain ⟨k, hk⟩ := R.dv
  generalize (r + P) / Q = a
  refine ⟨k + 2 * a * P - a * a * Q, ?_⟩
  grind
theorem st_red {n r : Int} (G : Good n r) : ∀ i, Red n r (sP n r i) (sQ n r i)
  | 0 => red_zero G
  | i + 1 => red_step G (st_red G i) (step_of G (st_red G i))
theorem st_step {n r : Int} (G : Good n r) (i : Nat) : Step n r (sP n r i) (sQ n r i) (aq n r i) (sP n r (i + 1)) (sQ n r (i + 1)) :=
  step_of G (st_red G i)
/-- the step is one to one -/
theorem step_inj {n r P Q a P1 Q1 b T U : Int} (R : Red n r P Q) (R2 : Red n r P1 Q1) (S : Step n r P Q a T U) (S2 : Step n r P1 Q1 b T U) (hU : 0 < U) : P = P1 ∧ Q = Q1 := by
  obtain ⟨a1, al, ah, pe, qe⟩ := S
  obtain ⟨b1, bl, bh, pe2, qe2⟩ := S2
  have eQ : Q = Q1 := by
    have : Q * U = Q1 * U := by omega
    exact Int.eq_of_mul_eq_mul_right (by omega) this
  subst eQ
  refine ⟨?_, rfl⟩
  have h1 := R.pr
  have h2 := R.lo
  have h3 := R2.pr
  have h4 := R2.lo
  have e : P - P1 = (a - b) * Q := by grind
  have l1 : (a - b) * Q < 1 * Q := by omega
  have l2 : (-1) * Q < (a - b) * Q := by omega
  have m1 := Int.lt_of_mul_lt_mul_right l1 (by have := R.q0; omega)
  have m2 := Int.lt_of_mul_lt_mul_right l2 (by have := R.q0; omega)
  have : a - b = 0 := by omega
  rw [this] at e
  omega
/-! the round -/
theorem pigeon : ∀ (N : Nat) (f : Nat → Nat), (∀ i, i ≤ N → f i < N) → ∃ i j, i < j ∧ j ≤ N ∧ f i = f j
  | 0, f, h => absurd (h 0 (Nat.le_refl 0)) (Nat.not_lt_zero _)
  | N + 1, f, h => by
    by_cases hx : ∃ i, i ≤ N ∧ f i = f (N + 1)
    · obtain ⟨i, hi, e⟩ := hx
      exact ⟨i, N + 1, by omega, by omega, e⟩
    · let g : Nat → Nat := fun i => if f i < f (N + 1) then f i else f i - 1
      have hg : ∀ i, i ≤ N → g i < N := fun i hi => by
        have h1 := h i (by omega)
        have h2 := h (N + 1) (by omega)
        have h3 : f i ≠ f (N + 1) := fun e => hx ⟨i, hi, e⟩
        show (if f i < f (N + 1) then f i else f i - 1) < N
        split <;> omega
      obtain ⟨i, j, hij, hj, e⟩ := pigeon N g hg
      refine ⟨i, j, hij, by omega, ?_⟩
      have h3 : f i ≠ f (N + 1) := fun e => hx ⟨i, by omega, e⟩
      have h4 : f j ≠ f (N + 1) := fun e => hx ⟨j, by omega, e⟩
      have e' : (if f i < f (N + 1) then f i else f i - 1) = (if f j < f (N + 1) then f j else f j - 1) := e
      split at e' <;> split at e' <;> omega
theorem st_back {n r : Int} (G : Good n r) : ∀ i d, st n r i = st n r (i + d) → st n r 0 = st n r d
  | 0, d, h => by rw [Nat.zero_add] at h; exact h
  | i + 1, d, h => by
    have e1 : i + 1 + d = (i + d) + 1 := by omega
    rw [e1] at h
    have s1 := st_step G i
    have s2 := st_step G (i + d)
    unfold sP sQ at s1 s2
    rw [← h] at s2
    obtain ⟨x, y⟩ := step_inj (st_red G i) (st_red G (i + d)) s1 s2 (st_red G (i + 1)).q0
    exact st_back G i d (Prod.ext x y)
def code (r : Int) (s : Int × Int) : Nat := (s.1.toNat - 1) * (2 * r.toNat) + (s.2.toNat - 1)
theorem code_lt {n r P Q : Int} (R : Red n r P Q) : code r (P, Q) < r.toNat * (2 * r.toNat) := by
  obtain ⟨p0, pr, q0, lo, hi, _⟩ := R
  unfold code
  show (P.toNat - 1) * (2 * r.toNat) + (Q.toNat - 1) < _
  have h1 : P.toNat - 1 + 1 ≤ r.toNat := by omega
  have h2 : Q.toNat - 1 < 2 * r.toNat := by omega
  have h3 := Nat.mul_le_mul_right (2 * r.toNat) h1
  rw [Nat.add_mul] at h3
  omega
theorem code_inj {n r P Q P1 Q1 : Int} (R : Red n r P Q) (R1 : Red n r P1 Q1) (e : code r (P, Q) = code r (P1, Q1)) : (P, Q) = (P1, Q1) := by
  obtain ⟨p0, pr, q0, lo, hi, _⟩ := R
  obtain ⟨p0', pr', q0', lo', hi', _⟩ := R1
  have e' : (P.toNat - 1) * (2 * r.toNat) + (Q.toNat - 1) = (P1.toNat - 1) * (2 * r.toNat) + (Q1.toNat - 1) := e
  have h2 : Q.toNat - 1 < 2 * r.toNat := by omega
  have h3 : Q1.toNat - 1 < 2 * r.toNat := by omega
  have m0 : 0 < 2 * r.toNat := by omega
  have d1 : ((P.toNat - 1) * (2 * r.toNat) + (Q.toNat - 1)) / (2 * r.toNat) = ((P1.toNat - 1) * (2 * r.toNat) + (Q1.toNat - 1)) / (2 * r.toNat) := by rw [e']
  have d2 : ((P.toNat - 1) * (2 * r.toNat) + (Q.toNat - 1)) % (2 * r.toNat) = ((P1.toNat - 1) * (2 * r.toNat) + (Q1.toNat - 1)) % (2 * r.toNat) := by rw [e']
  rw [Nat.mul_comm (P.toNat - 1), Nat.mul_comm (P1.toNat - 1)] at d1 d2
  rw [Nat.mul_add_div m0, Nat.mul_add_div m0, Nat.div_eq_of_lt h2, Nat.div_eq_of_lt h3] at d1
  rw [Nat.mul_add_mod, Nat.mul_add_mod, Nat.mod_eq_of_lt h2, Nat.mod_eq_of_lt h3] at d2
  rw [show P = P1 by omega, show Q = Q1 by omega]
/-- there is a place where what is over is 1 -/
theorem one_there {n r : Int} (G : Good n r) : ∃ i, i < r.toNat * (2 * r.toNat) ∧ sQ n r i = 1 := by
  obtain ⟨i, j, hij, hj, e⟩ := pigeon (r.toNat * (2 * r.toNat)) (fun i => code r (st n r i)) (fun i _ => code_lt (st_red G i))
  have e2 : st n r i = st n r (i + (j - i)) := by
    rw [show i + (j - i) = j by omega]
    exact code_inj (st_red G i) (st_red G j) e
  have e3 := st_back G i (j - i) e2
  obtain ⟨d, hd⟩ : ∃ d, j - i = d + 1 := ⟨j - i - 1, by omega⟩
  rw [hd] at e3
  have s := (st_step G d).qe
  have eP : sP n r (d + 1) = r := by
    show (st n r (d + 1)).1 = r
    rw [← e3]
    rfl
  have eQ : sQ n r (d + 1) = n - r * r := by
    show (st n r (d + 1)).2 = n - r * r
    rw [← e3]
    rfl
  rw [eP, eQ] at s
  refine ⟨d, by omega, ?_⟩
  have g := G.lo
  have : sQ n r d * (n - r * r) = 1 * (n - r * r) := by omega
  exact Int.eq_of_mul_eq_mul_right (by omega) this
/-- the first place of a kind -/
theorem least_of {p : Nat → Prop} (h : ∃ i, p i) : ∃ i, p i ∧ ∀ j, j < i → ¬ p j := by
  obtain ⟨i, hi⟩ := h
  induction i using Nat.strongRecOn with
  | ind i ih =>
    by_cases hx : ∃ j, j < i ∧ p j
    · obtain ⟨j, hj, pj⟩ := hx
      exact ih j hj pj
    · exact ⟨i, hi, fun j hj pj => hx ⟨j, hj, pj⟩⟩
/-- l is the place of the round's last quotient -/
structure Last (n r : Int) (l : Nat) : Prop where
  one : sQ n r l = 1
  no : ∀ j, j < l → sQ n r j ≠ 1
  le : l < r.toNat * (2 * r.toNat)
theorem last_uniq {n r : Int} {l l' : Nat} (L : Last n r l) (L' : Last n r l') : l = l' := by
  by_cases h : l < l'
  · exact absurd L.one (L'.no l h)
  · by_cases h' : l' < l
    · exact absurd L'.one (L.no l' h')
    · omega
theorem last_there {n r : Int} (G : Good n r) : ∃ l, Last n r l := by
  obtain ⟨i, hi, e⟩ := one_there G
  obtain ⟨l, e1, e2⟩ := least_of (p := fun i => sQ n r i = 1) ⟨i, e⟩
  refine ⟨l, e1, e2, ?_⟩
  by_cases h : l ≤ i
  · omega
  · exact absurd e (e2 i (by omega))
/-- where the first state comes again what was over ahead of it is 1 -/
theorem one_of_st {n r : Int} (G : Good n r) {d : Nat} (e3 : st n r (d + 1) = st n r 0) : sQ n r d = 1 := by
  have s := (st_step G d).qe
  have eP : sP n r (d + 1) = r := by
    show (st n r (d + 1)).1 = r
    rw [e3]
    rfl
  have eQ : sQ n r (d + 1) = n - r * r := by
    show (st n r (d + 1)).2 = n - r * r
    rw [e3]
    rfl
  rw [eP, eQ] at s
  have g := G.lo
  have : sQ n r d * (n - r * r) = 1 * (n - r * r) := by omega
  exact Int.eq_of_mul_eq_mul_right (by omega) this
theorem st_ne {n r : Int} {l : Nat} (G : Good n r) (L : Last n r l) {i : Nat} (h0 : 0 < i) (h : i ≤ l) : st n r i ≠ st n r 0 := fun e => by
  obtain ⟨d, rfl⟩ : ∃ d, i = d + 1 := ⟨i - 1, by omega⟩
  exact L.no d (by omega) (one_of_st G e)
theorem last_P {n r : Int} {l : Nat} (G : Good n r) (h : sQ n r l = 1) : sP n r l = r := by
  have R := st_red G l
  have a := R.pr
  have b := R.lo
  omega
theorem last_a {n r : Int} {l : Nat} (G : Good n r) (h : sQ n r l = 1) : aq n r l = 2 * r := by
  unfold aq
  rw [last_P G h, h, Int.ediv_one]
  omega
theorem last_st {n r : Int} {l : Nat} (G : Good n r) (h : sQ n r l = 1) : st n r (l + 1) = st n r 0 := by
  have s := st_step G l
  have ep := s.pe
  have eq := s.qe
  rw [last_a G h, last_P G h, h] at ep
  have ep' : sP n r (l + 1) = r := by omega
  rw [h, ep'] at eq
  exact Prod.ext (by exact ep') (by show sQ n r (l + 1) = n - r * r; omega)
theorem st_add {n r : Int} {l : Nat} (G : Good n r) (h : sQ n r l = 1) : ∀ i, st n r (l + 1 + i) = st n r i
  | 0 => last_st G h
  | i + 1 => by
    show nxt n r (st n r (l + 1 + i)) = nxt n r (st n r i)
    rw [st_add G h i]
theorem st_mod {n r : Int} {l : Nat} (G : Good n r) (h : sQ n r l = 1) (i : Nat) : st n r (i % (l + 1)) = st n r i := by
  induction i using Nat.strongRecOn with
  | ind i ih =>
    by_cases hi : i < l + 1
    · rw [Nat.mod_eq_of_lt hi]
    · have e := ih (i - (l + 1)) (by omega)
      have e2 := st_add G h (i - (l + 1))
      rw [show l + 1 + (i - (l + 1)) = i by omega] at e2
      rw [e2, ← e]
      rw [Nat.mod_eq_sub_mod (by omega)]
theorem aq_mod {n r : Int} {l : Nat} (G : Good n r) (h : sQ n r l = 1) (i : Nat) : aq n r (i % (l + 1)) = aq n r i := by
  unfold aq sP sQ
  rw [st_mod G h i]
/-- where what is over is 1: the rounds' ends alone -/
theorem one_iff {n r : Int} {l : Nat} (G : Good n r) (L : Last n r l) (i : Nat) : sQ n r i = 1 ↔ i % (l + 1) = l := by
  have e : sQ n r (i % (l + 1)) = sQ n r i := by
    unfold sQ
    rw [st_mod G L.one i]
  rw [← e]
  refine ⟨fun h => ?_, fun h => by rw [h]; exact L.one⟩
  have h1 : i % (l + 1) < l + 1 := Nat.mod_lt _ (by omega)
  by_cases h2 : i % (l + 1) < l
  · exact absurd h (L.no _ h2)
  · omega
theorem aq_le {n r : Int} (G : Good n r) {i : Nat} (h : sQ n r i ≠ 1) : aq n r i ≤ r := by
  have R := st_red G i
  have q0 := R.q0
  have S := st_step G i
  have al := S.al
  have a1 := S.a1
  have := R.pr
  have : aq n r i * 2 ≤ aq n r i * sQ n r i := Int.mul_le_mul_of_nonneg_left (by omega) (by omega)
  omega
theorem aq_le2 {n r : Int} (G : Good n r) (i : Nat) : aq n r i ≤ 2 * r := by
  by_cases h : sQ n r i = 1
  · rw [last_a G h]
    exact Int.le_refl _
  · have := aq_le G h
    have := G.r1
    omega
theorem aq_pos {n r : Int} (G : Good n r) (i : Nat) : 1 ≤ aq n r i := (st_step G i).a1
/-- the quotient of what is taken next, over the same -/
theorem aq_rev {n r : Int} (G : Good n r) (i : Nat) : (r + sP n r (i + 1)) / sQ n r i = aq n r i := by
  have S := st_step G i
  have R := st_red G i
  have e1 := S.pe
  have q0 := R.q0
  have h1 := R.pr
  have h2 := R.lo
  refine (Int.ediv_eq_iff_of_pos q0).mpr ⟨?_, ?_⟩ <;> omega
/-- the row of quotients is the same from either end -/
theorem flip {n r : Int} {l : Nat} (G : Good n r) (h : sQ n r l = 1) : ∀ j, j < l → sP n r (l - j) = sP n r j ∧ sQ n r (l - j - 1) = sQ n r j
  | 0, hj => by
    obtain ⟨m, rfl⟩ : ∃ m, l = m + 1 := ⟨l - 1, by omega⟩
    have eP : sP n r (m + 1) = r := last_P G h
    have s := st_step G m
    have qe := s.qe
    rw [h, eP] at qe
    have eQ : sQ n r m = n - r * r := by omega
    exact ⟨eP, eQ⟩
  | j + 1, hj => by
    obtain ⟨x, y⟩ := flip G h j (by omega)
    obtain ⟨i, hi⟩ : ∃ i, l - j - 1 = i + 1 := ⟨l - j - 2, by omega⟩
    have e1 : l - (j + 1) = i + 1 := by omega
    have e2 : l - j = i + 2 := by omega
    rw [e1]
    rw [hi] at y
    rw [e2] at x
    have S := st_step G (i + 1)
    have T := st_step G j
    have U := st_step G i
    have ea : aq n r (i + 1) = aq n r j := by
      rw [← aq_rev G (i + 1)]
      unfold aq
      rw [x, y]
    have p1 := S.pe
    have p2 := T.pe
    rw [ea, y, x] at p1
    have eP : sP n r (i + 1) = sP n r (j + 1) := by omega
    refine ⟨eP, ?_⟩
    have q1 := U.qe
    have q2 := T.qe
    rw [y, eP] at q1
    show sQ n r i = sQ n r (j + 1)
    have : sQ n r i * sQ n r j = sQ n r (j + 1) * sQ n r j := by
      rw [q1, ← q2, Int.mul_comm]
    exact Int.eq_of_mul_eq_mul_right (by have := (st_red G j).q0; omega) this
theorem flip_a {n r : Int} {l : Nat} (G : Good n r) (h : sQ n r l = 1) {j : Nat} (hj : j < l) : aq n r (l - 1 - j) = aq n r j := by
  obtain ⟨x, y⟩ := flip G h j hj
  rw [show l - 1 - j = l - j - 1 by omega, ← aq_rev G (l - j - 1), show l - j - 1 + 1 = l - j by omega, x, y]
  rfl
end RL
namespace RL
/-! the fractions -/
def cv (n r : Int) : Nat → (Int × Int) × (Int × Int)
  | 0 => ((r, 1), (1, 0))
  | i + 1 => ((aq n r i * (cv n r i).1.1 + (cv n r i).2.1, aq n r i * (cv n r i).1.2 + (cv n r i).2.2), (cv n r i).1)
abbrev hh (n r : Int) (i : Nat) : Int := (cv n r i).1.1
abbrev kk (n r : Int) (i : Nat) : Int := (cv n r i).1.2
abbrev gh (n r : Int) (i : Nat) : Int := (cv n r i).2.1
abbrev gk (n r : Int) (i : Nat) : Int := (cv n r i).2.2
def sg : Nat → Int
  | 0 => 1
  | i + 1 => - sg i
def qm (n r : Int) : Nat → Int
  | 0 => 1
  | i + 1 => sQ n r i
theorem sg_two : ∀ i, sg (i + 2) = sg i := fun i => by
  show - - sg i = sg i
  omega
theorem sg_mod : ∀ i : Nat, (i % 2 = 0 ∧ sg i = 1) ∨ (i % 2 = 1 ∧ sg i = -1)
  | 0 => .inl ⟨rfl, rfl⟩
  | i + 1 => by
    have := sg_mod i
    have e : sg (i + 1) = - sg i := rfl
    omega
theorem sg_sq (i : Nat) : sg i * sg i = 1 := by
  rcases sg_mod i with ⟨_, e⟩ | ⟨_, e⟩ <;> rw [e] <;> rfl
theorem qm_eq {n r : Int} (G : Good n r) : ∀ i, sQ n r i * qm n r i = n - sP n r i * sP n r i
  | 0 => by
    show (n - r * r) * 1 = n - r * r
    omega
  | i + 1 => by
    have := (st_step G i).qe
    rw [Int.mul_comm]
    exact this
structure Form (n r : Int) (i : Nat) : Prop where
  nn : hh n r i * hh n r i - n * (kk n r i * kk n r i) = - (sg i * sQ n r i)
  cr : hh n r i * gh n r i - n * (kk n r i * gk n r i) = sg i * sP n r i
  mm : gh n r i * gh n r i - n * (gk n r i * gk n r i) = sg i * qm n r i
  dt : hh n r i * gk n r i - gh n r i * kk n r i = - sg i
theorem form {n r : Int} (G : Good n r) : ∀ i, Form n r i
  | 0 => by
    refine ⟨?_, ?_, ?_, ?_⟩
    · show r * r - n * (1 * 1) = -(1 * (n - r * r))
      omega
    · show r * 1 - n * (1 * 0) = 1 * r
      omega
    · show 1 * 1 - n * (0 * 0) = 1 * 1
      omega
    · show r * 0 - 1 * 1 = -1
      omega
  | i + 1 => by
    obtain ⟨n1, c1, m1, d1⟩ := form G i
    have S := st_step G i
    have q0 := (st_red G i).q0
    have qe := qm_eq G i
    have pe := S.pe
    have qe2 := S.qe
    have key : sQ n r (i + 1) = qm n r i + 2 * aq n r i * sP n r i - aq n r i * aq n r i * sQ n r i := by
      have : sQ n r i * sQ n r (i + 1) = sQ n r i * (qm n r i + 2 * aq n r i * sP n r i - aq n r i * aq n r i * sQ n r i) := by
        rw [qe2, pe]
        generalize sQ n r i = Q at *
        generalize sP n r i = P at *
        generalize aq n r i = a at *
        generalize qm n r i = M at *
        grind
      exact Int.eq_of_mul_eq_mul_left (by omega) this
    refine ⟨?_, ?_, ?_, ?_⟩
    · show (aq n r i * hh n r i + gh n r i) * (aq n r i * hh n r i + gh n r i) - n * ((aq n r i * kk n r i + gk n r i) * (aq n r i * kk n r i + gk n r i)) = -(- sg i * sQ n r (i + 1))
      rw [key]
      generalize sQ n r i = Q at *
      generalize sP n r i = P at *
      generalize aq n r i = a at *
      generalize qm n r i = M at *
      generalize hh n r i = h at *
      generalize kk n r i = k at *
      generalize gh n r i = u at *
      generalize gk n r i = v at *
      generalize sg i = e at *
      grind
    · show (aq n r i * hh n r i + gh n r i) * hh n r i - n * ((aq n r i * kk n r i + gk n r i) * kk n r i) = - sg i * sP n r (i + 1)
      rw [pe]
      generalize sQ n r i = Q at *
      generalize sP n r i = P at *
      generalize aq n r i = a at *
      generalize qm n r i = M at *
      generalize hh n r i = h at *
      generalize kk n r i = k at *
      generalize gh n r i = u at *
      generalize gk n r i = v at *
      generalize sg i = e at *
      grind
    · show hh n r i * hh n r i - n * (kk n r i * kk n r i) = - sg i * sQ n r i
      rw [n1, Int.neg_mul]
    · show (aq n r i * hh n r i + gh n r i) * kk n r i - hh n r i * (aq n r i * kk n r i + gk n r i) = - - sg i
      grind
theorem worth_form {n r : Int} (G : Good n r) (i : Nat) (u v : Int) :
    (hh n r i * u + gh n r i * v) * (hh n r i * u + gh n r i * v) - n * ((kk n r i * u + gk n r i * v) * (kk n r i * u + gk n r i * v)) = sg i * (- (sQ n r i * (u * u)) + 2 * (sP n r i * (u * v)) + qm n r i * (v * v)) := by
  obtain ⟨n1, c1, m1, d1⟩ := form G i
  generalize sQ n r i = Q at *
  generalize sP n r i = P at *
  generalize qm n r i = M at *
  generalize hh n r i = h at *
  generalize kk n r i = k at *
  generalize gh n r i = x at *
  generalize gk n r i = y at *
  generalize sg i = e at *
  grind
structure Pos2 (n r : Int) (i : Nat) : Prop where
  h1 : 1 ≤ hh n r i
  k1 : 1 ≤ kk n r i
  gh1 : 1 ≤ gh n r i
  gk0 : 0 ≤ gk n r i
theorem pos2 {n r : Int} (G : Good n r) : ∀ i, Pos2 n r i
  | 0 => ⟨G.r1, Int.le_refl 1, Int.le_refl 1, Int.le_refl 0⟩
  | i + 1 => by
    obtain ⟨a, b, c, d⟩ := pos2 G i
    have a1 := aq_pos G i
    have e1 : 1 * hh n r i ≤ aq n r i * hh n r i := Int.mul_le_mul_of_nonneg_right a1 (by omega)
    have e2 : 1 * kk n r i ≤ aq n r i * kk n r i := Int.mul_le_mul_of_nonneg_right a1 (by omega)
    refine ⟨?_, ?_, a, by show 0 ≤ kk n r i; omega⟩
    · show 1 ≤ aq n r i * hh n r i + gh n r i
      omega
    · show 1 ≤ aq n r i * kk n r i + gk n r i
      omega
theorem kk_up {n r : Int} (G : Good n r) (i : Nat) : kk n r i ≤ kk n r (i + 1) := by
  obtain ⟨a, b, c, d⟩ := pos2 G i
  have e2 : 1 * kk n r i ≤ aq n r i * kk n r i := Int.mul_le_mul_of_nonneg_right (aq_pos G i) (by omega)
  show kk n r i ≤ aq n r i * kk n r i + gk n r i
  omega
theorem kk_mono {n r : Int} (G : Good n r) (i : Nat) : ∀ d, kk n r i ≤ kk n r (i + d)
  | 0 => Int.le_refl _
  | d + 1 => Int.le_trans (kk_mono G i d) (kk_up G (i + d))
theorem kk_le {n r : Int} (G : Good n r) {i j : Nat} (h : i ≤ j) : kk n r i ≤ kk n r j := by
  have := kk_mono G i (j - i)
  rwa [show i + (j - i) = j by omega] at this
theorem hh_up {n r : Int} (G : Good n r) (i : Nat) : hh n r i ≤ hh n r (i + 1) := by
  obtain ⟨a, b, c, d⟩ := pos2 G i
  have e2 : 1 * hh n r i ≤ aq n r i * hh n r i := Int.mul_le_mul_of_nonneg_right (aq_pos G i) (by omega)
  show hh n r i ≤ aq n r i * hh n r i + gh n r i
  omega
theorem gk_le {n r : Int} (G : Good n r) : ∀ i, gk n r i ≤ kk n r i
  | 0 => by show (0 : Int) ≤ 1; decide
  | i + 1 => kk_up G i
theorem gh_le {n r : Int} (G : Good n r) : ∀ i, gh n r i ≤ hh n r i
  | 0 => G.r1
  | i + 1 => hh_up G i
theorem kk_hh {n r : Int} (G : Good n r) : ∀ i, kk n r i ≤ hh n r i ∧ gk n r i ≤ gh n r i
  | 0 => ⟨G.r1, by show (0 : Int) ≤ 1; decide⟩
  | i + 1 => by
    obtain ⟨x, y⟩ := kk_hh G i
    refine ⟨?_, x⟩
    show aq n r i * kk n r i + gk n r i ≤ aq n r i * hh n r i + gh n r i
    have := Int.mul_le_mul_of_nonneg_left x (show 0 ≤ aq n r i by have := aq_pos G i; omega)
    omega
/-- how great they may be -/
theorem hh_small {n r : Int} {b : Nat} (G : Good n r) (hb : 2 * r + 1 ≤ 2 ^ b) : ∀ i, hh n r i < 2 ^ (b * (i + 1))
  | 0 => by
    show r < 2 ^ (b * (0 + 1))
    rw [Nat.zero_add, Nat.mul_one]
    have := G.r1
    omega
  | i + 1 => by
    have ih := hh_small G hb i
    have P := pos2 G i
    have h1 := P.h1
    show aq n r i * hh n r i + gh n r i < 2 ^ (b * (i + 1 + 1))
    have e1 : aq n r i * hh n r i ≤ (2 * r) * hh n r i := Int.mul_le_mul_of_nonneg_right (aq_le2 G i) (by omega)
    have e2 := gh_le G i
    have e3 : (2 * r) * hh n r i + hh n r i = (2 * r + 1) * hh n r i := by grind
    have e4 : (2 * r + 1) * hh n r i ≤ 2 ^ b * hh n r i := Int.mul_le_mul_of_nonneg_right hb (by omega)
    have e5 : (2 : Int) ^ b * hh n r i < 2 ^ b * 2 ^ (b * (i + 1)) := Int.mul_lt_mul_of_pos_left ih (by have := G.r1; omega)
    have e6 : (2 : Int) ^ b * 2 ^ (b * (i + 1)) = 2 ^ (b * (i + 1 + 1)) := by
      rw [← Int.pow_add]
      congr 1
      rw [Nat.mul_add b (i + 1) 1]
      omega
    omega
/-! what is near is on the ladder -/
theorem lemG {n r P Q M : Int} (hn : r * r < n) (h0 : 0 ≤ P) (hp : P ≤ r) (hq : 0 < Q) (h2 : 2 * Q ≤ r + P) (e : Q * M = n - P * P) : r + 1 ≤ M + 2 * P - Q := by
  by_cases h : Q ≤ P
  · have b1 : (r - P) * Q ≤ (r - P) * (r + P) := Int.mul_le_mul_of_nonneg_left (by omega) (by omega)
    have e1 : (r - P) * (r + P) = r * r - P * P := by grind
    have q1 : (r - P) * Q < M * Q := by
      rw [Int.mul_comm M Q]
      omega
    have := Int.lt_of_mul_lt_mul_right q1 (by omega)
    omega
  · have e1 : (r - (Q - P)) * (r + (Q - P)) = r * r - (Q - P) * (Q - P) := by grind
    have e2 : Q * (M + 2 * P - Q) = Q * M + 2 * (Q * P) - Q * Q := by grind
    have e3 : (Q - P) * (Q - P) = Q * Q - 2 * (Q * P) + P * P := by grind
    have b1 : Q * (r + (Q - P)) ≤ (r - (Q - P)) * (r + (Q - P)) := Int.mul_le_mul_of_nonneg_right (by omega) (by omega)
    have q1 : Q * (r + (Q - P)) < Q * (M + 2 * P - Q) := by omega
    have := Int.lt_of_mul_lt_mul_left q1 (by omega)
    omega
/-- the quotient is the right one -/
theorem near_low {n r P Q M a P' Q' u v : Int} (G : Good n r) (R : Red n r P Q) (S : Step n r P Q a P' Q') (eM : Q * M = n - P * P) (hv : 1 ≤ v) (huv : v ≤ u)
    (hc : - (Q * (u * u)) + 2 * (P * (u * v)) + M * (v * v) ≤ r) : a * v ≤ u := by
  by_cases hlt : a * v ≤ u
  · exact hlt
  · exfalso
    have R' := red_step G R S
    obtain ⟨a1, al, ah, pe, qe⟩ := S
    have q0 := R.q0
    have a2 : 2 ≤ a := by
      by_cases e : a = 1
      · rw [e] at hlt
        omega
      · omega
    have aq2 : 2 * Q ≤ a * Q := Int.mul_le_mul_of_nonneg_right a2 (by omega)
    have g1 := lemG G.lo (by have := R.p0; omega) R.pr q0 (by omega) eM
    have g2 := lemG (P := P') (M := Q') G.lo (by have := R'.p0; omega) R'.pr q0 (by have := R.pr; omega) qe
    have eM' : Q * Q' = Q * (M + 2 * (a * P) - a * (a * Q)) := by
      rw [qe, pe]
      grind
    have eQ' : Q' = M + 2 * (a * P) - a * (a * Q) := Int.eq_of_mul_eq_mul_left (by omega) eM'
    -- at u = v, at u = a v - 1
    have vv : 1 ≤ v * v := by
      have := Int.mul_le_mul hv hv (by omega) (by omega)
      omega
    have f1 : r + 1 ≤ - (Q * (v * v)) + 2 * (P * (v * v)) + M * (v * v) := by
      have e : - (Q * (v * v)) + 2 * (P * (v * v)) + M * (v * v) = (M + 2 * P - Q) * (v * v) := by grind
      rw [e]
      have := Int.mul_le_mul g1 vv (by omega) (by have := G.r1; omega)
      omega
    have f2 : r + 1 ≤ - (Q * ((a * v - 1) * (a * v - 1))) + 2 * (P * ((a * v - 1) * v)) + M * (v * v) := by
      have e : - (Q * ((a * v - 1) * (a * v - 1))) + 2 * (P * ((a * v - 1) * v)) + M * (v * v) = Q' * (v * v) + 2 * (P' * v) - Q := by
        rw [eQ', pe]
        grind
      rw [e]
      have x1 : Q' * 1 ≤ Q' * (v * v) := Int.mul_le_mul_of_nonneg_left vv (by have := R'.q0; omega)
      have x2 : P' * 1 ≤ P' * v := Int.mul_le_mul_of_nonneg_left hv (by have := R'.p0; omega)
      omega
    obtain ⟨s, hs⟩ : ∃ s, s = u - v := ⟨_, rfl⟩
    obtain ⟨t, ht⟩ : ∃ t, t = a * v - 1 - u := ⟨_, rfl⟩
    have s0 : 0 ≤ s := by omega
    have t0 : 0 ≤ t := by omega
    have eu : u = v + s := by omega
    have ew : a * v - 1 = v + s + t := by omega
    rw [ew] at f2
    rw [eu] at hc
    by_cases hz : s + t = 0
    · have zs : s = 0 := by omega
      rw [zs, Int.add_zero] at hc
      omega
    · have m1 := Int.mul_le_mul_of_nonneg_left f1 t0
      have m2 := Int.mul_le_mul_of_nonneg_left f2 s0
      have m3 : (s + t) * (- (Q * ((v + s) * (v + s))) + 2 * (P * ((v + s) * v)) + M * (v * v)) ≤ (s + t) * r := Int.mul_le_mul_of_nonneg_left hc (by omega)
      have m4 : 0 ≤ Q * (s * t * (s + t)) := Int.mul_nonneg (by omega) (Int.mul_nonneg (Int.mul_nonneg s0 t0) (by omega))
      have m5 : (s + t) * (- (Q * ((v + s) * (v + s))) + 2 * (P * ((v + s) * v)) + M * (v * v)) = t * (- (Q * (v * v)) + 2 * (P * (v * v)) + M * (v * v)) + s * (- (Q * ((v + s + t) * (v + s + t))) + 2 * (P * ((v + s + t) * v)) + M * (v * v)) + Q * (s * t * (s + t)) := by grind
      have m6 : t * (r + 1) + s * (r + 1) = (s + t) * r + (s + t) := by grind
      omega
theorem near_high {n r P Q M a P' Q' u v : Int} (G : Good n r) (R : Red n r P Q) (S : Step n r P Q a P' Q') (eM : Q * M = n - P * P) (hv : 1 ≤ v)
    (hc : - r ≤ - (Q * (u * u)) + 2 * (P * (u * v)) + M * (v * v)) : u ≤ (a + 1) * v := by
  by_cases hlt : u ≤ (a + 1) * v
  · exact hlt
  · exfalso
    have R' := red_step G R S
    obtain ⟨a1, al, ah, pe, qe⟩ := S
    have q0 := R.q0
    have eM' : Q * Q' = Q * (M + 2 * (a * P) - a * (a * Q)) := by
      rw [qe, pe]
      grind
    have eQ' : Q' = M + 2 * (a * P) - a * (a * Q) := Int.eq_of_mul_eq_mul_left (by omega) eM'
    obtain ⟨s, hs⟩ : ∃ s, s = u - (a + 1) * v := ⟨_, rfl⟩
    have s1 : 1 ≤ s := by omega
    have eu : u = (a + 1) * v + s := by omega
    have e : - (Q * (u * u)) + 2 * (P * (u * v)) + M * (v * v) = (Q' - Q - 2 * P') * (v * v) - 2 * ((Q + P') * (v * s)) - Q * (s * s) := by
      rw [eQ', pe, eu]
      grind
    rw [e] at hc
    have rpr := R.pr
    have vv : 0 ≤ v * v := Int.mul_nonneg (by omega) (by omega)
    have ss : 0 ≤ Q * (s * s) := Int.mul_nonneg (by omega) (Int.mul_nonneg (by omega) (by omega))
    have vs : 1 ≤ v * s := by
      have := Int.mul_le_mul hv s1 (by omega) (by omega)
      omega
    have x1 : 0 ≤ (- (Q' - Q - 2 * P')) * (v * v) := Int.mul_nonneg (by have := R'.hi; omega) vv
    rw [Int.neg_mul] at x1
    have x2 : (r + 1) * 1 ≤ (Q + P') * (v * s) := Int.mul_le_mul (by omega) vs (by omega) (by have := R'.p0; omega)
    have := G.r1
    omega
theorem near_go {n r x y : Int} (G : Good n r) (hx : 0 < x) (hcop : ∀ d : Int, 0 < d → d ∣ x → d ∣ y → d = 1) (lo : - r ≤ x * x - n * (y * y)) (hi : x * x - n * (y * y) ≤ r) :
    ∀ (m : Nat) (i : Nat) (u v : Int), 0 ≤ v → 1 ≤ u → v ≤ u → u + v ≤ m → x = hh n r i * u + gh n r i * v → y = kk n r i * u + gk n r i * v → ∃ j, x = hh n r j ∧ y = kk n r j
  | 0, _, u, v, h0, h1, _, hm, _, _ => by omega
  | m + 1, i, u, v, h0, h1, huv, hm, ex, ey => by
    by_cases hv : v = 0
    · rw [hv, Int.mul_zero, Int.add_zero] at ex ey
      have := hcop u (by omega) ⟨_, by rw [ex, Int.mul_comm]⟩ ⟨_, by rw [ey, Int.mul_comm]⟩
      rw [this, Int.mul_one] at ex ey
      exact ⟨i, ex, ey⟩
    · have w := worth_form G i u v
      rw [← ex, ← ey] at w
      rw [w] at lo hi
      have R := st_red G i
      have S := st_step G i
      have eM := qm_eq G i
      have b : - r ≤ - (sQ n r i * (u * u)) + 2 * (sP n r i * (u * v)) + qm n r i * (v * v) ∧ - (sQ n r i * (u * u)) + 2 * (sP n r i * (u * v)) + qm n r i * (v * v) ≤ r := by
        rcases sg_mod i with ⟨_, e⟩ | ⟨_, e⟩ <;> rw [e] at lo hi <;> omega
      have l := near_low G R S eM (by omega) huv b.2
      have h := near_high G R S eM (by omega) b.1
      have a1 := S.a1
      have e1 : (aq n r i + 1) * v = aq n r i * v + v := by grind
      have av : 1 * v ≤ aq n r i * v := Int.mul_le_mul_of_nonneg_right a1 (by omega)
      refine near_go G hx hcop (by rw [w]; exact lo) (by rw [w]; exact hi) m (i + 1) v (u - aq n r i * v) (by omega) (by omega) (by omega) (by omega) ?_ ?_
      · show x = (aq n r i * hh n r i + gh n r i) * v + hh n r i * (u - aq n r i * v)
        rw [ex]
        grind
      · show y = (aq n r i * kk n r i + gk n r i) * v + kk n r i * (u - aq n r i * v)
        rw [ey]
        grind
theorem near {n r x y : Int} (G : Good n r) (hx : 0 < x) (hy : 0 < y) (hcop : ∀ d : Int, 0 < d → d ∣ x → d ∣ y → d = 1) (lo : - r ≤ x * x - n * (y * y)) (hi : x * x - n * (y * y) ≤ r) :
    ∃ j, x = hh n r j ∧ y = kk n r j := by
  have r1 := G.r1
  have yy : 1 ≤ y * y := by
    have := Int.mul_le_mul (show (1 : Int) ≤ y by omega) (show (1 : Int) ≤ y by omega) (by omega) (by omega)
    omega
  have ry : r * 1 ≤ r * y := Int.mul_le_mul_of_nonneg_left (by omega) (by omega)
  have h1 : r * y ≤ x := by
    by_cases h : r * y ≤ x
    · exact h
    · exfalso
      have s := sq_le (a := x) (b := r * y - 1) (by omega) (by omega)
      have e : (r * y - 1) * (r * y - 1) = r * r * (y * y) - 2 * (r * y) + 1 := by grind
      have t : (r * r + 1) * (y * y) ≤ n * (y * y) := Int.mul_le_mul_of_nonneg_right (by have := G.lo; omega) (by omega)
      have e2 : (r * r + 1) * (y * y) = r * r * (y * y) + y * y := by grind
      omega
  have h2 : x ≤ (r + 1) * y := by
    by_cases h : x ≤ (r + 1) * y
    · exact h
    · exfalso
      have p : 0 ≤ (r + 1) * y := Int.mul_nonneg (by omega) (by omega)
      have s := sq_le (a := (r + 1) * y + 1) (b := x) (by omega) (by omega)
      have e : ((r + 1) * y + 1) * ((r + 1) * y + 1) = (r + 1) * (r + 1) * (y * y) + 2 * (r * y) + 2 * y + 1 := by grind
      have t : n * (y * y) ≤ (r + 1) * (r + 1) * (y * y) := Int.mul_le_mul_of_nonneg_right (by have := G.hi; omega) (by omega)
      omega
  have e3 : (r + 1) * y = r * y + y := by grind
  refine near_go G hx hcop lo hi (y + (x - r * y)).toNat 0 y (x - r * y) (by omega) (by omega) (by omega) (by omega) ?_ ?_
  · show x = r * y + 1 * (x - r * y)
    omega
  · show y = 1 * y + 0 * (x - r * y)
    omega
end RL
namespace RL
/-! least ones, all ones, reached worths -/
theorem cop_of {x y : Int} (hx : 0 < x) : ∃ g x' y' : Int, 1 ≤ g ∧ x = g * x' ∧ y = g * y' ∧ ∀ d : Int, 0 < d → d ∣ x' → d ∣ y' → d = 1 := by
  obtain ⟨x', hx'⟩ := Int.gcd_dvd_left x y
  obtain ⟨y', hy'⟩ := Int.gcd_dvd_right x y
  have g0 : ((Int.gcd x y : Nat) : Int) ≠ 0 := fun e => by
    rw [e, Int.zero_mul] at hx'
    omega
  have g1 : (1 : Int) ≤ ((Int.gcd x y : Nat) : Int) := by omega
  refine ⟨_, x', y', g1, hx', hy', fun d hd h1 h2 => ?_⟩
  obtain ⟨u, hu⟩ := h1
  obtain ⟨v, hv⟩ := h2
  have a1 : ((Int.gcd x y : Nat) : Int) * d ∣ x := ⟨u, by rw [Int.mul_assoc, ← hu]; exact hx'⟩
  have a2 : ((Int.gcd x y : Nat) : Int) * d ∣ y := ⟨v, by rw [Int.mul_assoc, ← hv]; exact hy'⟩
  obtain ⟨z, hz⟩ := Int.dvd_coe_gcd a1 a2
  generalize ((Int.gcd x y : Nat) : Int) = g at *
  have e : g * 1 = g * (d * z) := by
    rw [← Int.mul_assoc]
    omega
  have e2 := Int.eq_of_mul_eq_mul_left g0 e
  have z1 : 0 < z := by
    by_cases q : 0 < z
    · exact q
    · have : d * z ≤ d * 0 := Int.mul_le_mul_of_nonneg_left (by omega) (by omega)
      omega
  have : d * 1 ≤ d * z := Int.mul_le_mul_of_nonneg_left (by omega) (by omega)
  omega
/-- a pair of a small worth is a whole number times a fraction -/
theorem reached {n r x y c : Int} (G : Good n r) (hx : 0 < x) (hy : 0 < y) (hc : x * x - n * (y * y) = c) (h1 : - r ≤ c) (h2 : c ≤ r) :
    ∃ (g : Int) (i : Nat), 1 ≤ g ∧ x = g * hh n r i ∧ y = g * kk n r i ∧ c = g * g * - (sg i * sQ n r i) := by
  obtain ⟨g, x', y', g1, ex, ey, hcop⟩ := cop_of (y := y) hx
  have x0 : 0 < x' := by
    by_cases q : 0 < x'
    · exact q
    · have : g * x' ≤ g * 0 := Int.mul_le_mul_of_nonneg_left (by omega) (by omega)
      omega
  have y0 : 0 < y' := by
    by_cases q : 0 < y'
    · exact q
    · have : g * y' ≤ g * 0 := Int.mul_le_mul_of_nonneg_left (by omega) (by omega)
      omega
  have ec : c = g * g * (x' * x' - n * (y' * y')) := by
    rw [← hc, ex, ey]
    grind
  have gg : 1 ≤ g * g := by
    have := Int.mul_le_mul g1 g1 (by omega) (by omega)
    omega
  have r1 := G.r1
  generalize hw : x' * x' - n * (y' * y') = w at ec
  have lo : - r ≤ w := by
    by_cases q : 0 ≤ w
    · omega
    · have : g * g * w ≤ 1 * w := Int.mul_le_mul_of_nonpos_right (by omega) (by omega)
      omega
  have hi : w ≤ r := by
    by_cases q : w ≤ 0
    · omega
    · have : 1 * w ≤ g * g * w := Int.mul_le_mul_of_nonneg_right gg (by omega)
      omega
  obtain ⟨i, e1, e2⟩ := near G x0 y0 hcop (by rw [hw]; exact lo) (by rw [hw]; exact hi)
  have nn := (form G i).nn
  rw [← e1, ← e2, hw] at nn
  exact ⟨g, i, g1, by rw [ex, e1], by rw [ey, e2], by rw [ec, nn]⟩
theorem sq_one {g : Int} (g1 : 1 ≤ g) {z : Int} (h : g * g * z = 1 ∨ g * g * z = -1) : g = 1 := by
  by_cases e : g = 1
  · exact e
  · exfalso
    have gg := Int.mul_le_mul (show (2 : Int) ≤ g by omega) (show (2 : Int) ≤ g by omega) (by omega) (by omega)
    by_cases q : 0 ≤ z
    · by_cases q0 : z = 0
      · rw [q0, Int.mul_zero] at h
        omega
      · have : 4 * z ≤ g * g * z := Int.mul_le_mul_of_nonneg_right (by omega) (by omega)
        omega
    · have : g * g * z ≤ 4 * z := Int.mul_le_mul_of_nonpos_right (by omega) (by omega)
      omega
/-- worth 1 or -1: the ends of rounds alone -/
theorem unit_at {n r x y c : Int} {l : Nat} (G : Good n r) (L : Last n r l) (hx : 0 < x) (hy : 0 < y) (hc : x * x - n * (y * y) = c) (h1 : c = 1 ∨ c = -1) :
    ∃ i : Nat, x = hh n r i ∧ y = kk n r i ∧ i % (l + 1) = l ∧ c = - sg i := by
  have r1 := G.r1
  obtain ⟨g, i, g1, e1, e2, e3⟩ := reached G hx hy hc (by omega) (by omega)
  have eg := sq_one g1 (z := - (sg i * sQ n r i)) (by omega)
  rw [eg, Int.one_mul] at e1 e2
  rw [eg] at e3
  have q0 := (st_red G i).q0
  have e4 : c = - (sg i * sQ n r i) := by omega
  have q1 : sQ n r i = 1 := by
    rcases sg_mod i with ⟨_, s⟩ | ⟨_, s⟩ <;> rw [s] at e4 <;> omega
  rw [q1, Int.mul_one] at e4
  exact ⟨i, e1, e2, (one_iff G L i).mp q1, e4⟩
/-- the pair behind one round -/
theorem first_worth {n r : Int} {l : Nat} (G : Good n r) (L : Last n r l) : hh n r l * hh n r l - n * (kk n r l * kk n r l) = - sg l := by
  have := (form G l).nn
  rw [L.one, Int.mul_one] at this
  exact this
theorem ahead_eq {n r : Int} {l : Nat} (G : Good n r) (L : Last n r l) : gh n r l = n * kk n r l - r * hh n r l ∧ gk n r l = hh n r l - r * kk n r l := by
  obtain ⟨nn, cr, mm, dt⟩ := form G l
  have q := L.one
  have p := last_P G L.one
  rw [q] at nn
  rw [p] at cr
  have s := sg_sq l
  generalize hh n r l = h at *
  generalize kk n r l = k at *
  generalize gh n r l = u at *
  generalize gk n r l = v at *
  generalize sg l = e at *
  refine ⟨?_, ?_⟩
  · have : e * (- e * u) = e * (e * r * h - e * (n * k)) := by grind
    grind
  · have : e * (- e * v) = e * (e * r * k - e * h) := by grind
    grind
/-- a further round: the product with the first round's pair -/
theorem further {n r : Int} {l : Nat} (G : Good n r) (L : Last n r l) : ∀ i : Nat, (hh n r (l + 1 + i) = hh n r l * hh n r i + n * (kk n r l * kk n r i) ∧ kk n r (l + 1 + i) = hh n r l * kk n r i + kk n r l * hh n r i) ∧
    (gh n r (l + 1 + i) = hh n r l * gh n r i + n * (kk n r l * gk n r i) ∧ gk n r (l + 1 + i) = hh n r l * gk n r i + kk n r l * gh n r i)
  | 0 => by
    obtain ⟨a, b⟩ := ahead_eq G L
    refine ⟨⟨?_, ?_⟩, ?_, ?_⟩
    · show aq n r l * hh n r l + gh n r l = hh n r l * r + n * (kk n r l * 1)
      rw [last_a G L.one, a]
      grind
    · show aq n r l * kk n r l + gk n r l = hh n r l * 1 + kk n r l * r
      rw [last_a G L.one, b]
      grind
    · show hh n r l = hh n r l * 1 + n * (kk n r l * 0)
      omega
    · show kk n r l = hh n r l * 0 + kk n r l * 1
      omega
  | i + 1 => by
    obtain ⟨⟨a, b⟩, c, d⟩ := further G L i
    have ea : aq n r (l + 1 + i) = aq n r i := by
      unfold aq sP sQ
      rw [st_add G L.one i]
    refine ⟨⟨?_, ?_⟩, a, b⟩
    · show aq n r (l + 1 + i) * hh n r (l + 1 + i) + gh n r (l + 1 + i) = hh n r l * (aq n r i * hh n r i + gh n r i) + n * (kk n r l * (aq n r i * kk n r i + gk n r i))
      rw [a, c, ea]
      grind
    · show aq n r (l + 1 + i) * kk n r (l + 1 + i) + gk n r (l + 1 + i) = hh n r l * (aq n r i * kk n r i + gk n r i) + kk n r l * (aq n r i * hh n r i + gh n r i)
      rw [b, d, ea]
      grind
/-- the least one -/
def leastP (n r : Int) (l : Nat) : Int × Int := if l % 2 = 1 then (hh n r l, kk n r l) else (hh n r l * hh n r l + n * kk n r l * kk n r l, hh n r l * kk n r l + kk n r l * hh n r l)
theorem least_is {n r : Int} {l : Nat} (G : Good n r) (L : Last n r l) : ∃ i : Nat, leastP n r l = (hh n r i, kk n r i) ∧ i % 2 = 1 ∧ i % (l + 1) = l ∧ ∀ j : Nat, j % 2 = 1 → j % (l + 1) = l → i ≤ j := by
  by_cases h : l % 2 = 1
  · refine ⟨l, ?_, h, Nat.mod_eq_of_lt (by omega), fun j _ hj => ?_⟩
    · unfold leastP
      rw [if_pos h]
    · have := Nat.mod_le j (l + 1)
      omega
  · obtain ⟨⟨a, b⟩, _⟩ := further G L l
    refine ⟨l + 1 + l, ?_, by omega, ?_, fun j h1 hj => ?_⟩
    · unfold leastP
      rw [if_neg h, a, b, Int.mul_assoc]
    · rw [Nat.add_comm, Nat.add_mod_right]
      exact Nat.mod_eq_of_lt (by omega)
    · have d := Nat.div_add_mod j (l + 1)
      rw [hj] at d
      generalize j / (l + 1) = q at d
      have q0 : q ≠ 0 := fun e => by
        rw [e] at d
        omega
      obtain ⟨q', rfl⟩ : ∃ q', q = q' + 1 := ⟨q - 1, by omega⟩
      have : (l + 1) * (q' + 1) = (l + 1) * q' + (l + 1) := Nat.mul_succ ..
      have : 0 ≤ (l + 1) * q' := Nat.zero_le _
      omega
structure Least (n X Y : Int) : Prop where
  x1 : 1 ≤ X
  y1 : 1 ≤ Y
  one : X * X - n * (Y * Y) = 1
  min : ∀ x y : Int, 0 < x → 0 < y → x * x - n * (y * y) = 1 → Y ≤ y
theorem least_ok {n r : Int} {l : Nat} (G : Good n r) (L : Last n r l) : Least n (leastP n r l).1 (leastP n r l).2 := by
  obtain ⟨i, e, h1, h2, h3⟩ := least_is G L
  rw [e]
  have p := pos2 G i
  refine ⟨p.h1, p.k1, ?_, fun x y hx hy hc => ?_⟩
  · have nn := (form G i).nn
    rw [(one_iff G L i).mpr h2] at nn
    rcases sg_mod i with ⟨q, _⟩ | ⟨_, s⟩
    · omega
    · rw [s] at nn
      exact nn
  · obtain ⟨j, e1, e2, e3, e4⟩ := unit_at G L hx hy hc (.inl rfl)
    rcases sg_mod j with ⟨_, s⟩ | ⟨q, _⟩
    · rw [s] at e4
      omega
    · rw [e2]
      exact kk_le G (h3 j q e3)
/-- no pair with worth -1 where the round's count is even -/
theorem no_less {n r x y : Int} {l : Nat} (G : Good n r) (L : Last n r l) (h : l % 2 = 1) (hx : 0 < x) (hy : 0 < y) : x * x - n * (y * y) ≠ -1 := fun hc => by
  obtain ⟨j, _, _, e3, e4⟩ := unit_at G L hx hy hc (.inr rfl)
  have d := Nat.div_add_mod j (l + 1)
  rw [e3] at d
  rcases sg_mod j with ⟨q, _⟩ | ⟨_, s⟩
  · obtain ⟨m, hm⟩ : ∃ m, l + 1 = 2 * m := ⟨(l + 1) / 2, by omega⟩
    rw [hm, Nat.mul_assoc] at d
    omega
  · rw [s] at e4
    omega
theorem less_min {n r x y : Int} {l : Nat} (G : Good n r) (L : Last n r l) (hx : 0 < x) (hy : 0 < y) (hc : x * x - n * (y * y) = -1) : kk n r l ≤ y := by
  obtain ⟨j, _, e2, e3, _⟩ := unit_at G L hx hy hc (.inr rfl)
  rw [e2]
  have := Nat.mod_le j (l + 1)
  exact kk_le G (by omega)
/-! the powers of the least one -/
def pw (n X Y : Int) : Nat → Int × Int
  | 0 => (X, Y)
  | k + 1 => ((pw n X Y k).1 * X + n * (pw n X Y k).2 * Y, (pw n X Y k).1 * Y + (pw n X Y k).2 * X)
structure PwOk (n X Y : Int) (k : Nat) : Prop where
  x1 : 1 ≤ (pw n X Y k).1
  y1 : 1 ≤ (pw n X Y k).2
  one : (pw n X Y k).1 * (pw n X Y k).1 - n * ((pw n X Y k).2 * (pw n X Y k).2) = 1
  up : (pw n X Y k).2 < (pw n X Y (k + 1)).2
  far : 2 * (k : Int) + 1 ≤ (pw n X Y k).2
theorem pw_ok {n X Y : Int} (hn : 2 ≤ n) (h : Least n X Y) : ∀ k, PwOk n X Y k := by
  have x2 : 2 ≤ X := by
    have one := h.one
    have y1 := h.y1
    by_cases e : 2 ≤ X
    · exact e
    · have : X = 1 := by have := h.x1; omega
      rw [this] at one
      have yy := Int.mul_le_mul y1 y1 (by omega) (by omega)
      have : n * 1 ≤ n * (Y * Y) := Int.mul_le_mul_of_nonneg_left (by omega) (by omega)
      omega
  have step : ∀ k, 1 ≤ (pw n X Y k).1 → 1 ≤ (pw n X Y k).2 → 2 * (pw n X Y k).2 + 1 ≤ (pw n X Y (k + 1)).2 ∧ 1 ≤ (pw n X Y (k + 1)).1 := fun k a b => by
    have y1 := h.y1
    have m1 := Int.mul_le_mul a y1 (by omega) (by omega)
    have m2 : (pw n X Y k).2 * 2 ≤ (pw n X Y k).2 * X := Int.mul_le_mul_of_nonneg_left x2 (by omega)
    have m3 := Int.mul_le_mul a h.x1 (by omega) (by omega)
    have m4 : 0 ≤ n * (pw n X Y k).2 * Y := Int.mul_nonneg (Int.mul_nonneg (by omega) (by omega)) (by omega)
    refine ⟨?_, ?_⟩
    · show _ ≤ (pw n X Y k).1 * Y + (pw n X Y k).2 * X
      omega
    · show 1 ≤ (pw n X Y k).1 * X + n * (pw n X Y k).2 * Y
      omega
  have all : ∀ k, 1 ≤ (pw n X Y k).1 ∧ 1 ≤ (pw n X Y k).2 ∧ (pw n X Y k).1 * (pw n X Y k).1 - n * ((pw n X Y k).2 * (pw n X Y k).2) = 1 ∧ 2 * (k : Int) + 1 ≤ (pw n X Y k).2 := fun k => by
    induction k with
    | zero => exact ⟨h.x1, h.y1, h.one, by have := h.y1; show 2 * ((0 : Nat) : Int) + 1 ≤ Y; omega⟩
    | succ k ih =>
      obtain ⟨a, b, c, d⟩ := ih
      obtain ⟨s1, s2⟩ := step k a b
      refine ⟨s2, by omega, ?_, by omega⟩
      show ((pw n X Y k).1 * X + n * (pw n X Y k).2 * Y) * ((pw n X Y k).1 * X + n * (pw n X Y k).2 * Y) - n * (((pw n X Y k).1 * Y + (pw n X Y k).2 * X) * ((pw n X Y k).1 * Y + (pw n X Y k).2 * X)) = 1
      have one := h.one
      generalize (pw n X Y k).1 = x at *
      generalize (pw n X Y k).2 = y at *
      have : (x * X + n * y * Y) * (x * X + n * y * Y) - n * ((x * Y + y * X) * (x * Y + y * X)) = (x * x - n * (y * y)) * (X * X - n * (Y * Y)) := by grind
      rw [this, c, one]
      rfl
  intro k
  obtain ⟨a, b, c, d⟩ := all k
  obtain ⟨s1, s2⟩ := step k a b
  exact ⟨a, b, c, by omega, d⟩
/-- every one is a power -/
theorem pw_all {n X Y : Int} (hn : 2 ≤ n) (h : Least n X Y) : ∀ (m : Nat) (x y : Int), y ≤ m → 0 < x → 0 < y → x * x - n * (y * y) = 1 → ∃ k, y = (pw n X Y k).2 ∧ x = (pw n X Y k).1
  | 0, x, y, hm, hx, hy, hc => by omega
  | m + 1, x, y, hm, hx, hy, hc => by
    have hY := h.min x y hx hy hc
    have one := h.one
    have x1 := h.x1
    have y1 := h.y1
    by_cases e : y = Y
    · refine ⟨0, e, ?_⟩
      rw [e] at hc
      have q : x * x = X * X := by omega
      have a := le_of_sq (a := x) (b := X) (by omega) (by omega)
      have b := le_of_sq (a := X) (b := x) (by omega) (by omega)
      show x = X
      omega
    · have yY : Y < y := by omega
      -- the pair ahead
      have c1 : 0 < y * X - x * Y := by
        have s1 : (y * X) * (y * X) = y * y + n * (y * y) * (Y * Y) := by
          have : X * X = 1 + n * (Y * Y) := by omega
          have e2 : (y * X) * (y * X) = y * y * (X * X) := by grind
          rw [e2, this]
          grind
        have s2 : (x * Y) * (x * Y) = Y * Y + n * (y * y) * (Y * Y) := by
          have : x * x = 1 + n * (y * y) := by omega
          have e2 : (x * Y) * (x * Y) = x * x * (Y * Y) := by grind
          rw [e2, this]
          grind
        have s3 := sq_lt (show 0 ≤ Y by omega) yY
        have := lt_of_sq (a := x * Y) (b := y * X) (Int.mul_nonneg (by omega) (by omega)) (by omega)
        omega
      have c2 : 0 < x * X - n * (y * Y) := by
        have s1 : (x * X) * (x * X) = (1 + n * (y * y)) * (1 + n * (Y * Y)) := by
          have a1 : x * x = 1 + n * (y * y) := by omega
          have a2 : X * X = 1 + n * (Y * Y) := by omega
          rw [← a1, ← a2]
          grind
        have s2 : (1 + n * (y * y)) * (1 + n * (Y * Y)) = 1 + n * (y * y) + n * (Y * Y) + (n * (y * Y)) * (n * (y * Y)) := by grind
        have p1 : 0 ≤ n * (y * y) := Int.mul_nonneg (by omega) (Int.mul_nonneg (by omega) (by omega))
        have p2 : 0 ≤ n * (Y * Y) := Int.mul_nonneg (by omega) (Int.mul_nonneg (by omega) (by omega))
        have := lt_of_sq (a := n * (y * Y)) (b := x * X) (Int.mul_nonneg (by omega) (by omega)) (by omega)
        omega
      have c3 : (x * X - n * (y * Y)) * (x * X - n * (y * Y)) - n * ((y * X - x * Y) * (y * X - x * Y)) = 1 := by
        have : (x * X - n * (y * Y)) * (x * X - n * (y * Y)) - n * ((y * X - x * Y) * (y * X - x * Y)) = (x * x - n * (y * y)) * (X * X - n * (Y * Y)) := by grind
        rw [this, hc, one]
        rfl
      -- back again
      have b1 : (x * X - n * (y * Y)) * Y + (y * X - x * Y) * X = y := by
        have : (x * X - n * (y * Y)) * Y + (y * X - x * Y) * X = y * (X * X - n * (Y * Y)) := by grind
        rw [this, one, Int.mul_one]
      have b2 : (x * X - n * (y * Y)) * X + n * (y * X - x * Y) * Y = x := by
        have : (x * X - n * (y * Y)) * X + n * (y * X - x * Y) * Y = x * (X * X - n * (Y * Y)) := by grind
        rw [this, one, Int.mul_one]
      have less : y * X - x * Y < y := by
        have m1 := Int.mul_le_mul (show (1 : Int) ≤ x * X - n * (y * Y) by omega) y1 (by omega) (by omega)
        have m2 : (y * X - x * Y) * 1 ≤ (y * X - x * Y) * X := Int.mul_le_mul_of_nonneg_left x1 (by omega)
        omega
      obtain ⟨k, e1, e2⟩ := pw_all hn h m (x * X - n * (y * Y)) (y * X - x * Y) (by omega) c2 c1 c3
      refine ⟨k + 1, ?_, ?_⟩
      · show y = (pw n X Y k).1 * Y + (pw n X Y k).2 * X
        rw [← e1, ← e2]
        exact b1.symm
      · show x = (pw n X Y k).1 * X + n * (pw n X Y k).2 * Y
        rw [← e1, ← e2]
        exact b2.symm
end RL
namespace RL
/-! reached worths -/
/-- a fraction's worth -/
def own (n r : Int) (i : Nat) : Int := - (sg i * sQ n r i)
theorem own_eq {n r : Int} (G : Good n r) (i : Nat) : hh n r i * hh n r i - n * (kk n r i * kk n r i) = own n r i := (form G i).nn
theorem own_mod {n r : Int} {l : Nat} (G : Good n r) (L : Last n r l) (i : Nat) : own n r (i % (2 * (l + 1))) = own n r i := by
  have e : sQ n r (i % (2 * (l + 1))) = sQ n r i := by
    unfold sQ
    rw [← st_mod G L.one (i % (2 * (l + 1))), Nat.mod_mod_of_dvd _ ⟨2, Nat.mul_comm _ _⟩, st_mod G L.one i]
  have s : sg (i % (2 * (l + 1))) = sg i := by
    have p : i % (2 * (l + 1)) % 2 = i % 2 := Nat.mod_mod_of_dvd _ ⟨l + 1, rfl⟩
    rcases sg_mod (i % (2 * (l + 1))) with ⟨a, b⟩ | ⟨a, b⟩ <;> rcases sg_mod i with ⟨c, d⟩ | ⟨c, d⟩
    · rw [b, d]
    · omega
    · omega
    · rw [b, d]
  unfold own
  rw [e, s]
theorem own_big {n r : Int} (G : Good n r) (i : Nat) : 1 ≤ own n r i ∨ own n r i ≤ -1 := by
  have q := (st_red G i).q0
  unfold own
  rcases sg_mod i with ⟨_, s⟩ | ⟨_, s⟩ <;> rw [s] <;> omega
def ab (c : Int) : Int := if c < 0 then -c else c
theorem ab_of {o b c : Int} (ho : 1 ≤ o ∨ o ≤ -1) (e : o * b * b = c) : b * b ≤ ab c := by
  have s : 0 ≤ b * b := by
    by_cases q : 0 ≤ b
    · exact Int.mul_nonneg q q
    · exact Int.mul_nonneg_of_nonpos_of_nonpos (by omega) (by omega)
  rw [Int.mul_assoc] at e
  generalize b * b = z at *
  unfold ab
  rcases ho with h | h
  · have := Int.mul_le_mul_of_nonneg_right h s
    split <;> omega
  · have := Int.mul_le_mul_of_nonneg_right h s
    split <;> omega
/-- what reach looks at -/
def Cand (n r : Int) (l : Nat) (c x y : Int) : Prop := ∃ (j : Nat) (b : Int), j < 2 * (l + 1) ∧ 1 ≤ b ∧ own n r j * b * b = c ∧ x = hh n r j * b ∧ y = kk n r j * b
structure Worth (n c x y : Int) : Prop where
  x1 : 1 ≤ x
  y1 : 1 ≤ y
  eq : x * x - n * (y * y) = c
theorem Cand.worth {n r c x y : Int} {l : Nat} (G : Good n r) (h : Cand n r l c x y) : Worth n c x y := by
  obtain ⟨j, b, _, b1, e, rfl, rfl⟩ := h
  have p := pos2 G j
  have nn := own_eq G j
  refine ⟨?_, ?_, ?_⟩
  · have := Int.mul_le_mul p.h1 b1 (by omega) (by have := p.h1; omega)
    omega
  · have := Int.mul_le_mul p.k1 b1 (by omega) (by have := p.k1; omega)
    omega
  · rw [← e, ← nn]
    grind
theorem cand_of {n r c x y : Int} {l : Nat} (G : Good n r) (L : Last n r l) (hx : 0 < x) (hy : 0 < y) (hc : x * x - n * (y * y) = c) (h1 : - r ≤ c) (h2 : c ≤ r) : ∃ x' y', Cand n r l c x' y' ∧ y' ≤ y := by
  obtain ⟨g, i, g1, e1, e2, e3⟩ := reached G hx hy hc h1 h2
  have hm : i % (2 * (l + 1)) < 2 * (l + 1) := Nat.mod_lt _ (by omega)
  refine ⟨_, _, ⟨i % (2 * (l + 1)), g, hm, g1, ?_, rfl, rfl⟩, ?_⟩
  · rw [own_mod G L i, e3]
    unfold own
    rw [Int.mul_assoc, Int.mul_comm]
  · rw [e2, Int.mul_comm]
    exact Int.mul_le_mul_of_nonneg_left (kk_le G (Nat.mod_le ..)) (by omega)
/-- what reach answers -/
structure Reach (n r : Int) (l : Nat) (c x y : Int) : Prop where
  cand : Cand n r l c x y
  least : ∀ x' y', Cand n r l c x' y' → y ≤ y'
theorem Reach.min {n r c x y : Int} {l : Nat} (G : Good n r) (L : Last n r l) (h : Reach n r l c x y) (h1 : - r ≤ c) (h2 : c ≤ r) {x' y' : Int} (hx : 0 < x') (hy : 0 < y') (hc : x' * x' - n * (y' * y') = c) : y ≤ y' := by
  obtain ⟨a, b, e, f⟩ := cand_of G L hx hy hc h1 h2
  have := h.least a b e
  omega
/-- 1 is reached -/
theorem one_worth {n r : Int} {l : Nat} (G : Good n r) (L : Last n r l) : ∃ x y : Int, Worth n 1 x y := by
  have h := least_ok G L
  exact ⟨_, _, h.x1, h.y1, h.one⟩
/-- the square root of one less -/
theorem rt_less {n : Int} (G : Good n (rt n)) : rt (n - 1) = rt n := by
  have lo := G.lo
  have hi := G.hi
  have r1 := G.r1
  exact rt_uniq (by omega) (by omega) (by omega)
theorem told_in {n r c : Int} (G : Good n r) (h : c * c < n) : - r ≤ c ∧ c ≤ r := by
  have hi := G.hi
  have r1 := G.r1
  refine ⟨?_, ?_⟩
  · by_cases q : - r ≤ c
    · exact q
    · have := sq_le (show 0 ≤ r + 1 by omega) (show r + 1 ≤ -c by omega)
      rw [Int.neg_mul_neg] at this
      omega
  · by_cases q : c ≤ r
    · exact q
    · have := sq_le (show 0 ≤ r + 1 by omega) (show r + 1 ≤ c by omega)
      omega
theorem in_told {n r c : Int} (G : Good n r) (h1 : - r ≤ c) (h2 : c ≤ r) : c * c < n := by
  have lo := G.lo
  have r1 := G.r1
  by_cases q : 0 ≤ c
  · have := sq_le q h2
    omega
  · have := sq_le (show 0 ≤ -c by omega) (show -c ≤ r by omega)
    rw [Int.neg_mul_neg] at this
    omega
end RL
namespace RL
open PySem PySem.Spec PyProof.Rows L2
/-! rules -/
/-- * of two factors of together less than a hundred million bits -/
def CMulX (i j : Int) : Prop := i.natAbs.log2 + j.natAbs.log2 < 100000000
theorem CMulX.ok {i j : Int} (h : CMulX i j) : IntMulOk i j := by
  have b : ∀ x : Int, Builtin.Int.intBits x ≤ x.natAbs.log2 + 1 := fun x => by
    unfold Builtin.Int.intBits
    split <;> omega
  have h1 := b i
  have h2 := b j
  have h3 : i.natAbs.log2 + j.natAbs.log2 < 100000000 := h
  have e : bitsLine = 134217728 := by decide
  unfold IntMulOk
  intro z
  rw [Bool.and_eq_true] at z
  have z2 := z.2
  unfold Builtin.Int.intTooBig at z2
  have z3 := of_decide_eq_true z2
  rw [e] at z3
  omega
theorem op_mulX {X : Cx} : OpR X (binaryOp .Mult) (rI CMulX fun i j => .int (i * j)) := opI fun _ _ _ _ _ _ _ hc q => mul_int q hc.ok
theorem log2_le {n a : Nat} (h : n < 2 ^ a) : n.log2 ≤ a := by
  by_cases h0 : n = 0
  · rw [h0]
    show Nat.log2 0 ≤ a
    have : Nat.log2 0 = 0 := by decide
    omega
  · have := (Nat.log2_lt h0).mpr h
    omega
theorem mx {i j : Int} (a b : Nat) (ha : i.natAbs < 2 ^ a) (hb : j.natAbs < 2 ^ b) (h : a + b < 100000000 := by decide) : CMulX i j := by
  have x := log2_le ha
  have y := log2_le hb
  unfold CMulX
  omega
theorem dv {i j : Int} (h0 : 0 < j) (h : j < 1073741824) : CDivW i j := by
  refine ⟨h0, ?_⟩
  have : j.natAbs < 2 ^ 30 := by omega
  have := log2_le this
  omega
/-- a def that is called: at some place, by some level, its last parameters' values dvs -/
structure Dn (P : Program) (w : World) (K : PySem.W.Frag) (mg : Str → Option Value) (base : Heap) (x : Str) (k : Nat) (ps : List Str) (dvs : List V) (sp : Sp) : Prop where
  ex : ∃ (f : Addr) (fd : FuncData) (ds : List Value), FnOk P w K mg base CX0 k f fd ps sp ∧ mg x = some (.ref f) ∧ PySem.W.keepIn K (.ref f) = true ∧ Binds K fd ps ds ∧ Vals dvs ds
theorem pe_callD {X : Cx} {x : Str} {j k : Nat} {ps : List Str} {dvs : List V} {sp : Sp} {p pos : Pos} {e : Expr} {es : List Expr} {t : TA} (D : Dn X.prog X.w X.K X.mg X.base x j ps dvs sp) (hr : Room k X.A) (hj : j ≤ k) (hg : Gl X x)
    (ha : PA X (e :: es) t) (hdb : (x == ("__debug__" : Str)) = false := by decide) (he : starEach (e :: es) X.env = (false, eval e X.env) :: starEach es X.env := by rfl) (hpl : (backTo pos (starEach es X.env)).any (·.1) = false := by rfl) :
    PE X (.Call (.Name x p) (e :: es) [] pos) (tCall sp dvs E0 t) := by
  obtain ⟨f, fd, ds, F, hm, hk, hb, hd⟩ := D.ex
  exact pe_call F (hr.mono hj) hg hm hk hb hd pass0 ha hdb he hpl
theorem pe_callD0 {X : Cx} {x : Str} {j k : Nat} {ps : List Str} {dvs : List V} {sp : Sp} {p pos : Pos} (D : Dn X.prog X.w X.K X.mg X.base x j ps dvs sp) (hr : Room k X.A) (hj : j ≤ k) (hg : Gl X x)
    (hdb : (x == ("__debug__" : Str)) = false := by decide) : PE X (.Call (.Name x p) [] [] pos) (tCall sp dvs E0 tNil) := by
  obtain ⟨f, fd, ds, F, hm, hk, hb, hd⟩ := D.ex
  exact pe_call0 F (hr.mono hj) hg hm hk hb hd pass0 hdb
/-- a module's number -/
theorem pe_globI {X : Cx} {x : Str} {i : Int} {pos : Pos} (hg : Gl X x) (hm : ∃ t, X.mg x = some (.int i t)) (hd : (x == ("__debug__" : Str)) = false := by decide) : PE X (.Name x pos) (tC (.int i)) := by
  obtain ⟨t, h⟩ := hm
  exact pe_glob hg h ⟨t, rfl⟩ hd
theorem ifT {c : Bool} {A B : Prop} (h : c = true) (a : A) : if c = true then A else B := by
  rw [if_pos h]
  exact a
theorem ifF {c : Bool} {A B : Prop} (h : c = false) (b : B) : if c = true then A else B := by
  rw [if_neg (by rw [h]; exact Bool.false_ne_true)]
  exact b
theorem if2 {c : Bool} {A B : Prop} (a : c = true → A) (b : c = false → B) : if c = true then A else B := by
  cases c with
  | true => exact a rfl
  | false => exact b rfl
/-- a test that is decided -/
theorem ifD {p : Prop} [Decidable p] {A B : Prop} (a : p → A) (b : ¬ p → B) : if decide p = true then A else B := by
  by_cases h : p
  · rw [if_pos (decide_eq_true h)]
    exact a h
  · rw [if_neg (by rw [decide_eq_true_eq]; exact h)]
    exact b h
/-- a test's answers, whatever follows -/
theorem gen_test {t : TT} {σ : L2.St} {H : Hp} {Q : Bool → Hp → Prop} (R : Bool → Hp → Prop) (h : ∀ Q' : Bool → Hp → Prop, (∀ b H2, R b H2 → Q' b H2) → t σ H Q') (k : ∀ b H2, R b H2 → Q b H2) : t σ H Q := h Q k
/-- a value's answers, whatever follows -/
theorem gen_val {t : TE} {σ : L2.St} {H : Hp} {Q : VK} (R : V → Hp → Prop) (h : ∀ Q' : VK, (∀ v H2, R v H2 → Q' v H2) → t σ H Q') (k : ∀ v H2, R v H2 → Q v H2) : t σ H Q := h Q k
theorem gen_args {t : TA} {σ : L2.St} {H : Hp} {Q : List V → Hp → Prop} (R : List V → Hp → Prop) (h : ∀ Q' : List V → Hp → Prop, (∀ v H2, R v H2 → Q' v H2) → t σ H Q') (k : ∀ v H2, R v H2 → Q v H2) : t σ H Q := h Q k
theorem gen_seq {t1 t2 : TS} {D : Ends} {σ : L2.St} {H : Hp} (R : L2.St → Hp → Prop) (h : ∀ N : L2.St → Hp → Prop, (∀ σ' H', R σ' H' → N σ' H') → t1 { D with nx := N } σ H) (k : ∀ σ' H', R σ' H' → t2 D σ' H') : tSeq t1 t2 D σ H := h _ k
theorem gen_set {te : TE} {i : Nat} {t2 : TS} {D : Ends} {σ : L2.St} {H : Hp} (R : V → Hp → Prop) (h : ∀ Q' : VK, (∀ v H2, R v H2 → Q' v H2) → te σ H Q') (k : ∀ v H2, R v H2 → t2 D (σ.set i (some v)) H2) : tSeq (tAsg te (gName i)) t2 D σ H := h _ k
/-- behind a store: the next statement -/
theorem go_next {t1 t2 : TS} {D : Ends} {σ : L2.St} {i : Nat} {v : V} {H : Hp} (h : tSeq t1 t2 D (σ.set i (some v)) H) : gName i v σ H (tSeq t1 t2 D) := h
theorem ne_bls {a b : Bool} (h : a = b) : (!decide (V.bl a = V.bl b)) = false := by
  rw [h, decide_eq_true rfl]
  rfl
theorem ty_int {K : PySem.W.Frag} {H : Hp} {i : Int} : TyX K H (.int i) (.type "int") := .base (.int i)
theorem ty_bl {K : PySem.W.Frag} {H : Hp} {b : Bool} : TyX K H (.bl b) (.type "bool") := .base (.bl b)
theorem kit_ii {K : PySem.W.Frag} : PySem.W.kitOne K (.type "int") (.type "int") = some true := kit_ty (by decide +kernel)
theorem kit_ib {K : PySem.W.Frag} : PySem.W.kitOne K (.type "int") (.type "bool") = some false := kit_ty (by decide +kernel)
theorem kit_bb {K : PySem.W.Frag} : PySem.W.kitOne K (.type "bool") (.type "bool") = some true := kit_ty (by decide +kernel)
theorem kit_bi {K : PySem.W.Frag} : PySem.W.kitOne K (.type "bool") (.type "int") = some true := kit_ty (by decide +kernel)
theorem isi_rule {X : Cx} {K : PySem.W.Frag} (h : X.K = K) : CallR X (.builtin "isinstance") (rIsi K) := by
  subst h
  exact call_isi
theorem len_rule {X : Cx} {K : PySem.W.Frag} (h : X.K = K) : CallR X (.builtin "len") (fun xs H Q => ∃ p ys, xs = [.ref p] ∧ (SqL K H p ys ∨ SqT K H p ys) ∧ Q (.int ys.length) H) := by
  subst h
  exact call_len_seq
theorem ixl {X : Cx} {K : PySem.W.Frag} (h : X.K = K) : IxR X (rIxL K) := by
  subst h
  exact ix_list
theorem ixt {X : Cx} {K : PySem.W.Frag} (h : X.K = K) : IxR X (rIxT K) := by
  subst h
  exact ix_tup
/-- what isinstance asks, of a number -/
theorem isi_ii {K : PySem.W.Frag} {H : Hp} {i : Int} {Q : VK} (q : Q (.bl true) H) : rIsi K [.int i, .ty "int"] H Q := ⟨_, _, _, _, _, rfl, .ty _, ty_int, kit_ii, q⟩
theorem isi_ib {K : PySem.W.Frag} {H : Hp} {i : Int} {Q : VK} (q : Q (.bl false) H) : rIsi K [.int i, .ty "bool"] H Q := ⟨_, _, _, _, _, rfl, .ty _, ty_int, kit_ib, q⟩
theorem isi_bb {K : PySem.W.Frag} {H : Hp} {i : Bool} {Q : VK} (q : Q (.bl true) H) : rIsi K [.bl i, .ty "bool"] H Q := ⟨_, _, _, _, _, rfl, .ty _, ty_bl, kit_bb, q⟩
/-! lists and loops -/
theorem cut_to (xs : List V) (k : Nat) : cutV xs none (some (k : Int)) = xs.take k := by
  unfold cutV
  rw [HT.sIx_none, HT.sIx_nat, List.drop_zero, Nat.sub_zero]
  by_cases h : k ≤ xs.length
  · rw [Nat.min_eq_left h]
  · rw [Nat.min_eq_right (by omega), List.take_length, List.take_of_length_le (by omega)]
theorem rd_seq {K : PySem.W.Frag} {H : Hp} {a : Addr} {xs : List V} (h : Rd H a (.lst xs)) : SqL K H a xs := Or.inl h
theorem same_rd {H H' : Hp} {a : Addr} {u : HO} (e : Same H H') (h : Rd H a u) : Rd H' a u := by
  rcases h with h | ⟨o, h⟩
  · exact .inl (e _ _ h)
  · exact .inr ⟨o, e _ _ h⟩
theorem same_new {H : Hp} {p : Addr} {o : HO} (h : H p = none) : Same H (upd H p o) := fun b x e => by
  rw [upd_ne (ne_of_none e h)]
  exact e
/-- an object unknown at the start may be changed -/
theorem same_mut {H H' : Hp} {p : Addr} {o : HO} (e : Same H H') (h : H p = none) : Same H (upd H' p o) := fun b x q => by
  rw [upd_ne (ne_of_none q h)]
  exact e _ _ q
theorem kp {H : Hp} {p b : Addr} {u : HO} (h : H b = some u) (np : H p = none) (o : HO) : upd H p o b = some u := (upd_ne (ne_of_none h np)).trans h
/-- list + list, the left one the script too -/
def rCatR : R2 := fun x y H Q => ∃ l b xs zs, x = .ref l ∧ y = .ref b ∧ Rd H l (.lst xs) ∧ Rd H b (.lst zs) ∧ xs.length + zs.length ≤ sizeLine ∧ ∀ p, H p = none → Q (.ref p) (upd H p (.lst (xs ++ zs)))
theorem op_catR {X : Cx} : OpR X (binaryOp .Add) rCatR := by
  rintro pins s σ H x y v u Q I rx ry ⟨l, b, xs, zs, rfl, rfl, hl, hb, hz, q⟩
  cases rx
  cases ry
  obtain ⟨z1, i1, n1, r1, e1⟩ := hl.ok I.hok
  obtain ⟨z2, i2, n2, r2, e2⟩ := hb.ok I.hok
  have l1 := r1.length
  have l2 := r2.length
  refine PySem.P.add_list e1 e2 ?_ (by rw [List.size_toArray, List.size_toArray]; omega)
  rw [show i1.toArray ++ i2.toArray = (i1 ++ i2).toArray by simp]
  exact ⟨.ref _, _, I.lnew (t' := s.toks) (r1.append r2) (by rw [List.length_append]; omega), rfl, q _ I.fresh⟩
/-- for i, x in enumerate(xs), xs a list that stands still -/
theorem for_enum {K : PySem.W.Frag} {a : Addr} {xs : List V} {g : TG} {tb : TS} {D : Ends} {σ : L2.St} {H : Hp} (G : Nat → L2.St → Hp → Prop) (start : G 0 σ H) (still : ∀ i σ H, G i σ H → SqL K H a xs)
    (turn : ∀ i x T σ H, xs[i]? = some x → G i σ H → H T = none → g (.ref T) σ (upd H T (.tup [.int (i : Nat), x])) fun σ2 H2 => tb { D with nx := G (i + 1), ct := G (i + 1), bk := D.nx } σ2 H2) (done : ∀ σ H, G xs.length σ H → D.nx σ H) :
    ∃ W : Nat → Nat → L2.St → Hp → Prop, (∃ m, W 0 m σ H) ∧ ∀ i m σ H, W i m σ H → ((Ite K a).stop i H ∧ D.nx σ H) ∨
      ((Ite K a).go i H ∧ ∃ N : L2.St → Hp → Prop, (∀ σ' H', N σ' H' → ∃ m', m' < m ∧ W (i + 1) m' σ' H') ∧ ∀ x H', (Ite K a).yld i H x H' → g x σ H' fun σ2 H2 => tb { D with nx := N, ct := N, bk := D.nx } σ2 H2) := by
  refine ⟨fun i m σ H => i + m = xs.length ∧ G i σ H, ⟨xs.length, Nat.zero_add _, start⟩, ?_⟩
  rintro i m σ H ⟨em, p⟩
  have st := still i σ H p
  cases m with
  | zero =>
    have ei : i = xs.length := by omega
    subst ei
    exact .inl ⟨⟨xs, st, Nat.le_refl _⟩, done σ H p⟩
  | succ m =>
    have hi : i < xs.length := by omega
    have gi : xs[i]? = some xs[i] := List.getElem?_eq_getElem hi
    refine .inr ⟨⟨xs, xs[i], st, gi⟩, G (i + 1), fun σ' H' p' => ⟨m, Nat.lt_succ_self m, by omega, p'⟩, ?_⟩
    rintro v H' ⟨T, x, rfl, nT, rfl, hx⟩
    exact turn i x T σ H (hx xs st) p nT
theorem ints_at {ns : List Int} {i : Nat} {x : V} (h : (ns.map V.int)[i]? = some x) : ∃ n, ns[i]? = some n ∧ x = .int n := by
  rw [List.getElem?_map] at h
  cases e : ns[i]? with
  | none => rw [e] at h; cases h
  | some n =>
    rw [e] at h
    exact ⟨n, rfl, (Option.some.inj h).symm⟩
theorem sz {n : Nat} (h : n ≤ 1000000) : n < sizeLine := Nat.lt_of_le_of_lt h (by decide)
/-- the law's promise -/
def spLaw : Sp := fun vs H Q _ => ∃ (a : Addr) (ns : List Int), vs = [.ref a] ∧ Rd H a (.lst (ns.map V.int)) ∧ ns.length ≤ 63 ∧ ∀ H', Q (.bl true) H'
theorem at0 {x y : V} : atI [x, y] 0 = some x := rfl
theorem at1 {x y : V} : atI [x, y] 1 = some y := rfl
/-- a number with a ladder -/
structure Rootn (n : Int) : Prop where
  two : 2 ≤ n
  most : n ≤ 100000
  ns : rt n * rt n ≠ n
theorem Rootn.good {n : Int} (h : Rootn n) : Good n (rt n) := good_of h.two h.ns
theorem Rootn.big {n : Int} (h : Rootn n) : n < 2 ^ 1000 := Int.lt_of_le_of_lt h.most (by decide +kernel)
theorem Rootn.r316 {n : Int} (h : Rootn n) : rt n ≤ 316 := by
  have g := h.good
  have m := h.most
  have lo := g.lo
  by_cases e : rt n ≤ 316
  · exact e
  · have := sq_le (show (0 : Int) ≤ 317 by decide) (show 317 ≤ rt n by omega)
    omega
/-! equal data -/
def dInts (ns : List Int) : List PyData := ns.map PyData.int
theorem lay_ints : ∀ ns : List Int, PyData.canLayAll0 (dInts ns) = true
  | [] => rfl
  | n :: r => by
    show (PyData.canLay0 (.int n) && PyData.canLayAll0 (dInts r)) = true
    rw [lay_ints r]
    rfl
theorem dpAll_ints {K : PySem.W.Frag} {H : Hp} : ∀ ns : List Int, DpAll K H (ns.map V.int) (dInts ns)
  | [] => .nil
  | n :: r => .cons (.int n) (dpAll_ints r)
theorem eqvAll_ints : ∀ xs ys : List Int, PyData.eqvAll (dInts xs) (dInts ys) = decide (xs = ys)
  | [], [] => rfl
  | [], _ :: _ => rfl
  | _ :: _, [] => rfl
  | x :: xs, y :: ys => by
    show (PyData.eqv (.int x) (.int y) && PyData.eqvAll (dInts xs) (dInts ys)) = _
    rw [eqvAll_ints xs ys]
    show ((x == y) && decide (xs = ys)) = _
    by_cases h : x = y
    · subst h
      rw [beq_self_eq_true, Bool.true_and]
      by_cases h2 : xs = ys
      · rw [h2, decide_eq_true rfl, decide_eq_true rfl]
      · rw [decide_eq_false h2, decide_eq_false (fun e => h2 (List.cons.inj e).2)]
    · rw [show (x == y) = false by simpa using h, Bool.false_and, decide_eq_false (fun e => h (List.cons.inj e).1)]
theorem eqv_ints (xs ys : List Int) : PyData.eqv (.list (dInts xs)) (.list (dInts ys)) = decide (xs = ys) := eqvAll_ints xs ys
theorem eqv_pairs (a b c d : Int) : PyData.eqv (.tuple [.int a, .int b]) (.tuple [.int c, .int d]) = decide (a = c ∧ b = d) := by
  show ((a == c) && ((b == d) && true)) = _
  by_cases h : a = c
  · by_cases h2 : b = d
    · rw [h, h2, beq_self_eq_true, beq_self_eq_true, decide_eq_true ⟨rfl, rfl⟩] <;> rfl
    · rw [show (b == d) = false by simpa using h2, decide_eq_false (fun e => h2 e.2), Bool.false_and, Bool.and_false]
  · rw [show (a == c) = false by simpa using h, decide_eq_false (fun e => h e.1), Bool.false_and]
theorem dp_ints {K : PySem.W.Frag} {H : Hp} {p : Addr} {ns : List Int} (h : SqL K H p (ns.map V.int)) : Dp K H (.ref p) (.list (dInts ns)) := .lst h (dpAll_ints ns)
theorem cut_neg1 (xs : List V) : cutV xs none (some (-1)) = xs.take (xs.length - 1) := by
  unfold cutV
  rw [HT.sIx_none, List.drop_zero, Nat.sub_zero]
  congr 1
  show (if (-1 : Int) < 0 then ((-1 : Int) + (xs.length : Int)).toNat else min (-1 : Int).toNat xs.length) = xs.length - 1
  rw [if_pos (by decide)]
  omega
theorem depth_ints : ∀ ns : List Int, PyData.depthAll (dInts ns) ≤ 1
  | [] => by simp [dInts, PyData.depthAll]
  | n :: r => by
    have := depth_ints r
    have e : dInts (n :: r) = PyData.int n :: dInts r := rfl
    rw [e]
    simp only [PyData.depthAll, PyData.depth]
    omega
theorem shaped_ints (ns : List Int) : SeqAt.shaped (.list (dInts ns)) = true := by
  unfold SeqAt.shaped
  rw [Bool.and_eq_true]
  refine ⟨lay_ints ns, decide_eq_true ?_⟩
  have := depth_ints ns
  simp only [PyData.depth]
  omega
/-! pairs -/
def pr (x y : Int) : HO := .tup [.int x, .int y]
theorem sq_pr {K : PySem.W.Frag} {H : Hp} {t : Addr} {x y : Int} (h : H t = some (pr x y)) : SqT K H t [.int x, .int y] := .inl (.inl h)
/-! a number mixed -/
def mixed (n k : Int) : Int := (n % 2147483647 + 7919 * k * k + 31 * k) * 48271 % 2147483647 * (69621 + 2 * k) % 2147483629
theorem mixed_ge (n k : Int) : 0 ≤ mixed n k := Int.emod_nonneg _ (by decide)
theorem mixed_lt (n k : Int) : mixed n k < 2147483629 := Int.emod_lt_of_pos _ (by decide)
def spMixed : Sp := fun vs H Q _ => ∃ n k : Int, vs = [.int n, .int k] ∧ 0 ≤ k ∧ k ≤ 1000 ∧ Q (.int (mixed n k)) H

end RL
namespace RL
open PySem PySem.Spec PyProof.Rows L2
/-! min(xs, key=f), f a def of the program's own that answers ints -/
def ItR (l it : Addr) (i : Nat) : HO := .ext fun h => h.IsListIter it l i
theorem itR_ok {P : Program} {w : World} {H : Hp} {h : Heap} {l it : Addr} {i : Nat} (e : h.IsListIter it l i) : ObjOk P w H h it (ItR l it i) := by
  obtain ⟨o, ho, _⟩ := id e
  refine ⟨e, ⟨o, ho⟩, fun h1 h2 q k => ?_⟩
  obtain ⟨o, a, b⟩ := q
  exact ⟨o, k _ a, b⟩
theorem sqL_same {K : PySem.W.Frag} {H H' : Hp} {l : Addr} {xs : List V} (e : Same H H') (h : SqL K H l xs) : SqL K H' l xs := by
  rcases h with h | h
  · exact .inl (same_rd e h)
  · exact .inr h
def rMinKey (K : PySem.W.Frag) (f : Addr) (sp : Sp) : List V → List V → Hp → VK → Prop := fun vs zs H Q => ∃ (l : Addr) (xs : List V) (kf : Nat → Int), vs = [.ref l] ∧ zs = [.ref f] ∧ SqL K H l xs ∧ 0 < xs.length ∧
  (∀ i x, xs[i]? = some x → ∀ H', Same H H' → sp [x] H' (fun v H2 => v = .int (kf i) ∧ H2 = H') E0) ∧ ∀ i x H', xs[i]? = some x → (∀ j, j < xs.length → kf i ≤ kf j) → Same H H' → Q x H'
section
variable {X : Cx} {pins : List (Addr × Obj)} {σ : L2.St} {k : Nat} {f : Addr} {fd : FuncData} {ps : List Str} {sp : Sp} {H : Hp} {l it S : Addr} {xs : List V} {kf : Nat → Int}
/-- the key of one thing -/
theorem key_run (F : FnOk X.prog X.w X.K X.mg X.base CX0 k f fd ps sp) (hr : Room (k + 1) X.A) (hb : Binds X.K fd ps []) {s : Shared} {H1 : Hp} (I : Inv X pins σ H1 s) {x : V} {v : Value} (r : RelV x v) {y : Int}
    (h : sp [x] H1 (fun u H2 => u = .int y ∧ H2 = H1) E0) : wpAny (model X.prog X.w) X.A.in1 (call (.ref f) [v]) (fun u s' => (∃ t, u = .int y t) ∧ Inv X pins σ H1 s') (fun _ _ => False) s := by
  have hl : ([v] ++ ([] : List Value)).length = ps.length := F.len _ _ _ _ h
  refine wpAny_call (codeAny_mono (F.run X.A.in1 X.stack s H1 ⟨[v], []⟩ [v] [x] _ E0 hr.in1 I.env0.in1 (hb s [v] I.kIn hl) (.cons r .nil) h) fun r s' hq => ?_)
  match r, hq with
  | .error _, hq => exact False.elim hq
  | .ok .next, hq => exact False.elim hq
  | .ok .brk, hq => exact False.elim hq
  | .ok .cont, hq => exact False.elim hq
  | .ok (.ret u), hq =>
    obtain ⟨v', H', I', r', e1, e2⟩ := I.after hq
    subst e1
    subst e2
    exact ⟨r', I'⟩
theorem low_loop (F : FnOk X.prog X.w X.K X.mg X.base CX0 k f fd ps sp) (hr : Room (k + 1) X.A) (hb : Binds X.K fd ps []) (hl : SqL X.K H l xs) (hli : l ≠ it) (hSi : S ≠ it) (ni : H it = none) (nS : H S = none) (hi0 : X.s_0.heap.objs.size ≤ it)
    (key : ∀ i x, xs[i]? = some x → ∀ H', Same H H' → sp [x] H' (fun v H2 => v = .int (kf i) ∧ H2 = H') E0) {R : Result → Shared → Prop}
    (hR : ∀ i x v s' H', xs[i]? = some x → RelV x v → (∀ j, j < xs.length → kf i ≤ kf j) → Same H H' → Inv X pins σ H' s' → R (.ok (.ret v)) s') :
    ∀ (r j i : Nat) (s : Shared) (H1 : Hp) (xb : V), xs.length - (j + 1) = r → j + 1 ≤ xs.length → Inv X pins σ H1 s → Same H H1 → H1 it = some (ItR l it (j + 1)) → H1 S = some (.lst [xb, .int (kf i)]) → xs[i]? = some xb →
      (∀ j', j' ≤ j → kf i ≤ kf j') → codeAny (model X.prog X.w) X.A (.builtin "min.loop" ⟨[.ref it, .ref f, .ref S], []⟩) R s := by
  have nm : (toString "min" ++ toString ".loop" : String) = "min.loop" := by decide
  intro r
  induction r with
  | zero =>
    intro j i s H1 xb hr0 hj I sm hit hS hxb best
    obtain ⟨its, rv, pl, hz⟩ := I.list (sqL_same sm hl)
    have hlen := rv.length
    obtain ⟨_, its2, c, rv2, hSo⟩ := I.hok S _ hS
    obtain ⟨vb, vk, rfl, rb, tk, rfl⟩ := vals2 rv2
    have stI := (I.hok it _ hit).1
    have W := Walks.list (prog := X.prog) (w := X.w) (A := X.A.in1) hr.hd it l hli its.toArray
    have hsz : its.toArray.size = j + 1 := by
      rw [List.size_toArray]
      omega
    rw [hsz] at W
    refine codeAny_builtin PySem.F.entry_min_loop ?_
    rw [Around.under_plainId PySem.F.plain_min_loop _]
    show wpAny _ X.A.in1 (seqItems? (.ref S) >>= _) _ _ _
    refine wpAny_bind (wpAny_seqItems hSo rfl (wpAny_bind (wpAny_tryCatch (W.done _ _ _ ⟨stI, pl.isList⟩ fun h' tk' hk => ?_))))
    have I0 := ItX.inv_drop I hit
    obtain ⟨f1, f2, _, f4, f5, f6⟩ := ItX.inv_fp I hit hi0
    have I1 := I0.turned (h' := h') (t' := tk') (fun b o nb z => hk b o (by simpa using nb) z) f1 f2 f4 f5 f6
    have hS1 : ItX.dropH H1 it S = some (.lst [xb, .int (kf i)]) := (ItX.dropH_ne hSi).trans hS
    have hSo1 := hk S _ (by simpa using hSi) hSo
    have mu : Mut (ItX.dropH H1 it S) := by rw [hS1]; trivial
    obtain ⟨ep, hS2⟩ : ∃ ep, (h'.update S (Obj.mapSeq fun _ => (#[] : Array Value))).get? S = some (seqObj "list" #[] ep) := ⟨_, get?_update_seq hSo1 fun _ => #[]⟩
    refine wpAny_bind (wpAny_updateSeq hSo1 rfl (wpAny_bind (wpAny_letGo (wpAny_pure ?_))))
    refine hR i xb vb _ (upd (ItX.dropH H1 it) S (.lst [])) hxb rb (fun j' hj' => best j' (by omega)) (same_mut (fun b x e => ?_) nS)
      (I1.write (x := S) (e := S) (t' := tk') mu (.inl rfl) (fun b u nb z => ((Heap.SameBut.update h' S _).2 b nb).trans z) ⟨_, hS2⟩ ⟨Nat.zero_le _, [], ep, .nil, hS2⟩)
    exact (ItX.dropH_ne (ne_of_none e ni)).trans (sm b x e)
  | succ r ih =>
    intro j i s H1 xb hr0 hj I sm hit hS hxb best
    have hlt : j + 1 < xs.length := by omega
    obtain ⟨its, rv, pl, hz⟩ := I.list (sqL_same sm hl)
    have hlen := rv.length
    obtain ⟨_, its2, c, rv2, hSo⟩ := I.hok S _ hS
    obtain ⟨vb, vk, rfl, rb, tb, rfl⟩ := vals2 rv2
    have stI := (I.hok it _ hit).1
    have W := Walks.list (prog := X.prog) (w := X.w) (A := X.A.in1) hr.hd it l hli its.toArray
    refine codeAny_builtin PySem.F.entry_min_loop ?_
    rw [Around.under_plainId PySem.F.plain_min_loop _]
    show wpAny _ X.A.in1 (seqItems? (.ref S) >>= _) _ _ _
    refine wpAny_bind (wpAny_seqItems hSo rfl (wpAny_bind (wpAny_tryCatch (W.item (j + 1) _ _ _ (by rw [List.size_toArray]; omega) ⟨stI, pl.isList⟩ fun v h' tk' hP hst hk => ?_))))
    have mu : Mut (H1 it) := by rw [hit]; trivial
    obtain ⟨oi, hoi, _⟩ := id hst.1
    have I1 := I.write (x := it) (e := it) (o := ItR l it (j + 2)) (t' := tk') mu (.inl rfl) (fun b o nb z => hk b o (by simpa using nb) z) ⟨oi, hoi⟩ (itR_ok hst.1)
    have sm1 : Same H (upd H1 it (ItR l it (j + 2))) := same_mut sm ni
    obtain ⟨x, hx⟩ : ∃ x, xs[j + 1]? = some x := ⟨_, List.getElem?_eq_getElem hlt⟩
    obtain ⟨v', hv', rx⟩ := rv.get hx
    have hv : its[j + 1]? = some v := by simpa using hP
    rw [hv] at hv'
    cases hv'
    refine wpAny_bind (wpAny_tryCatch (wpAny_holding (wpAny_mono (key_run F hr hb I1 rx (key (j + 1) x hx _ sm1)) (fun u s2 he => ?_) fun _ _ hF => hF.elim)))
    obtain ⟨⟨tn, rfl⟩, I2⟩ := he
    refine wpAny_bind (wpAny_tryCatch (wpAny_holding (wpAny_bind (CmpOf.ints_lt (prog := X.prog) (w := X.w) (A := X.A.in1) (P := fun i v => ∃ t, v = .int (kf i) t) kf (fun i v h => h) (j + 1) i _ _ _ _ _ ⟨tn, rfl⟩ ⟨tb, rfl⟩
      (wpAny_bind (wpAny_holding (wpAny_truthy_bool (wpAny_bind (wpAny_letGo (wpAny_pure ?_))))))))))
    have hS2 : upd H1 it (ItR l it (j + 2)) S = some (.lst [xb, .int (kf i)]) := (upd_ne hSi).trans hS
    have hit2 : upd H1 it (ItR l it (j + 2)) it = some (ItR l it (j + 2)) := upd_same
    generalize upd H1 it (ItR l it (j + 2)) = H2 at *
    obtain ⟨_, its3, c3, rv3, hSo3⟩ := I2.hok S _ hS2
    obtain ⟨vb3, vk3, rfl, rb3, tk3, rfl⟩ := vals2 rv3
    by_cases less : kf (j + 1) < kf i
    · simp only [less, decide_true, if_true]
      obtain ⟨ep, hS3⟩ : ∃ ep, (s2.heap.update S (Obj.mapSeq fun _ => #[v, .int (kf (j + 1)) tn])).get? S = some (seqObj "list" #[v, .int (kf (j + 1)) tn] ep) := ⟨_, get?_update_seq hSo3 fun _ => #[v, .int (kf (j + 1)) tn]⟩
      refine wpAny_bind (wpAny_updateSeq hSo3 rfl (wpAny_bind (wpAny_letGo ?_)))
      rw [nm]
      have mu2 : Mut (H2 S) := by rw [hS2]; trivial
      refine wpAny_pure ⟨plainId_quiet PySem.F.plain_min_loop _, ih (j + 1) (j + 1) _ (upd H2 S (.lst [x, .int (kf (j + 1))])) x (by omega) (by omega)
        (I2.write (x := S) (e := S) (t' := s2.toks) mu2 (.inl rfl) (fun b u nb z => ((Heap.SameBut.update s2.heap S _).2 b nb).trans z) ⟨_, hS3⟩ ⟨(by decide : 2 ≤ sizeLine), _, ep, .cons rx (.cons ⟨tn, rfl⟩ .nil), hS3⟩)
        (same_mut sm1 nS) ((upd_ne hSi.symm).trans hit2) upd_same hx fun j' hj' => ?_⟩
      by_cases e : j' = j + 1
      · rw [e]
        exact Int.le_refl _
      · have := best j' (by omega)
        omega
    · simp only [less, decide_false, Bool.false_eq_true, if_false]
      refine wpAny_bind (wpAny_letGo ?_)
      rw [nm]
      refine wpAny_pure ⟨plainId_quiet PySem.F.plain_min_loop _, ih (j + 1) i _ H2 xb (by omega) (by omega) I2 sm1 hit2 hS2 hxb fun j' hj' => ?_⟩
      by_cases e : j' = j + 1
      · rw [e]
        omega
      · exact best j' (by omega)
/-- min(xs, key=f) -/
theorem call_minKey (F : FnOk X.prog X.w X.K X.mg X.base CX0 k f fd ps sp) (hr : Room (k + 1) X.A) (hb : Binds X.K fd ps []) : CallRK X (.builtin "min") [Str.ofString "key"] (rMinKey X.K f sp) := by
  intro pins s σ H vs zs us ws Q I rv0 rz h
  obtain ⟨l, xs, kf, rfl, rfl, hl, hne, key, q⟩ := h
  obtain rfl := Vals.ref1 rv0
  obtain rfl := Vals.ref1 rz
  have nm : (toString "min" ++ toString ".loop" : String) = "min.loop" := by decide
  obtain ⟨its, rv, pl, hz⟩ := I.list hl
  have hlen := rv.length
  obtain ⟨ol, hol, _⟩ := id pl.isList
  have hll : l < s.heap.objs.size := Heap.lt_size hol
  refine kmk_tree PySem.F.kind_min PySem.F.plain_min PySem.F.entry_min (kmk_min_key _ _) ?_
  show wpAny _ X.A.in1 (Builtin.Builtins.bindParams "min" ["key", "default"] 0 ⟨[], [(Str.ofString "key", .ref f)]⟩ >>= _) _ _ s
  refine wpAny_bind (wpAny_of_eq (show Builtin.Builtins.bindParams "min" ["key", "default"] 0 ⟨[], [(Str.ofString "key", .ref f)]⟩ = pure [some (.ref f), none] from rfl) (wpAny_bind (wpAny_pure ?_)))
  refine wpAny_bind (wpAny_pyIter_list pl.isList (wpAny_bind (wpAny_newList ?_ (Nat.zero_le _))))
  rw [nm]
  refine wpAny_pure ⟨plainId_quiet PySem.F.plain_min_loop _, ?_⟩
  -- the iterator, the kept pair
  have ni := I.hok.fresh (Nat.le_refl s.heap.objs.size)
  have I1 := I.laid (h' := s.heap.push { cls := .type "list_iterator", data := .fields #[.ref l, .int 0 0] }) (o := ItR l s.heap.objs.size 0) (t' := s.toks) (fun b u e => Heap.get?_push_of_some _ e) (Nat.le_refl _) (itR_ok ⟨_, Heap.get?_push_size _ rfl, rfl, rfl⟩)
  have sI : (s.heap.push { cls := .type "list_iterator", data := .fields #[.ref l, .int 0 0] }).objs.size = s.heap.objs.size + 1 := size_push' ..
  have hli : l ≠ s.heap.objs.size := Nat.ne_of_lt hll
  have hab : X.s_0.heap.objs.size ≤ s.heap.objs.size := I.sz
  have nS : H (s.heap.objs.size + 1) = none := I.hok.fresh (Nat.le_succ _)
  have hSi : s.heap.objs.size + 1 ≠ s.heap.objs.size := Nat.succ_ne_self _
  have hpush : ((s.heap.push { cls := .type "list_iterator", data := .fields #[.ref l, .int 0 0] }).push { cls := .type "list", data := .seq ([] : List Value).toArray }).get? (s.heap.objs.size + 1) = some { cls := .type "list", data := .seq ([] : List Value).toArray } := by
    rw [← sI]
    exact Heap.get?_push_size _ rfl
  have I2 := I1.laid (a := s.heap.objs.size + 1) (h' := (s.heap.push { cls := .type "list_iterator", data := .fields #[.ref l, .int 0 0] }).push { cls := .type "list", data := .seq ([] : List Value).toArray }) (o := .lst []) (t' := s.toks) (fun b u e => Heap.get?_push_of_some _ e)
    (Nat.le_of_eq sI) ⟨Nat.zero_le _, [], 0, .nil, hpush⟩
  have sm2 : Same H (upd (upd H s.heap.objs.size (ItR l s.heap.objs.size 0)) (s.heap.objs.size + 1) (.lst [])) := same_mut (same_mut (fun _ _ e => e) ni) nS
  have hS2 : (upd (upd H s.heap.objs.size (ItR l s.heap.objs.size 0)) (s.heap.objs.size + 1) (.lst [])) (s.heap.objs.size + 1) = some (.lst []) := upd_same
  have hit2 : (upd (upd H s.heap.objs.size (ItR l s.heap.objs.size 0)) (s.heap.objs.size + 1) (.lst [])) s.heap.objs.size = some (ItR l s.heap.objs.size 0) := (upd_ne hSi.symm).trans upd_same
  rw [show (s.heap.push { cls := .type "list_iterator", data := .fields #[.ref l, .int 0 0] }).objs.size = s.heap.objs.size + 1 from sI]
  generalize upd (upd H s.heap.objs.size (ItR l s.heap.objs.size 0)) (s.heap.objs.size + 1) (.lst []) = H2 at *
  generalize (s.heap.push { cls := .type "list_iterator", data := .fields #[.ref l, .int 0 0] }).push { cls := .type "list", data := .seq ([] : List Value).toArray } = h2 at *
  generalize s.heap.objs.size + 1 = S at *
  generalize s.heap.objs.size = it at *
  -- the first turn
  obtain ⟨its2, rv2, pl2, _⟩ := I2.list (sqL_same sm2 hl)
  have hlen2 := rv2.length
  have W := Walks.list (prog := X.prog) (w := X.w) (A := X.A.in1) hr.hd it l hli its2.toArray
  refine codeAny_builtin PySem.F.entry_min_loop ?_
  rw [Around.under_plainId PySem.F.plain_min_loop _]
  show wpAny _ X.A.in1 (seqItems? (.ref S) >>= _) _ _ _
  refine wpAny_bind (wpAny_seqItems hpush rfl (wpAny_bind (wpAny_tryCatch (W.item 0 _ _ _ (by rw [List.size_toArray]; omega) ⟨(I2.hok it _ hit2).1, pl2.isList⟩ fun v h' tk' hP hst hk => ?_))))
  have mu : Mut (H2 it) := by rw [hit2]; trivial
  obtain ⟨oi, hoi, _⟩ := id hst.1
  have I3 := I2.write (x := it) (e := it) (o := ItR l it 1) (t' := tk') mu (.inl rfl) (fun b o nb z => hk b o (by simpa using nb) z) ⟨oi, hoi⟩ (itR_ok hst.1)
  have sm3 : Same H (upd H2 it (ItR l it 1)) := same_mut sm2 ni
  obtain ⟨x, hx⟩ : ∃ x, xs[0]? = some x := ⟨_, List.getElem?_eq_getElem hne⟩
  obtain ⟨v', hv', rx⟩ := rv2.get hx
  have hv : its2[0]? = some v := by simpa using hP
  rw [hv] at hv'
  cases hv'
  refine wpAny_bind (wpAny_tryCatch (wpAny_holding (wpAny_mono (key_run F hr hb I3 rx (key 0 x hx _ sm3)) (fun u s2 he => ?_) fun _ _ hF => hF.elim)))
  obtain ⟨⟨tn, rfl⟩, I4⟩ := he
  have hS4 : upd H2 it (ItR l it 1) S = some (.lst []) := (upd_ne hSi).trans hS2
  have hit4 : upd H2 it (ItR l it 1) it = some (ItR l it 1) := upd_same
  generalize upd H2 it (ItR l it 1) = H4 at *
  obtain ⟨_, its3, c3, rv3, hSo3⟩ := I4.hok S _ hS4
  cases rv3
  obtain ⟨ep, hS5⟩ : ∃ ep, (s2.heap.update S (Obj.mapSeq fun _ => #[v, .int (kf 0) tn])).get? S = some (seqObj "list" #[v, .int (kf 0) tn] ep) := ⟨_, get?_update_seq hSo3 fun _ => #[v, .int (kf 0) tn]⟩
  show wpAny _ _ (updateSeq S (fun _ => #[v, .int (kf 0) tn]) >>= _) _ _ _
  refine wpAny_bind (wpAny_updateSeq hSo3 rfl ?_)
  rw [nm]
  have mu4 : Mut (H4 S) := by rw [hS4]; trivial
  refine wpAny_pure ⟨plainId_quiet PySem.F.plain_min_loop _, low_loop F hr hb hl hli hSi ni nS hab key (fun i x v s' H' e1 r1 b1 s1 I' => ?_) _ 0 0 _ (upd H4 S (.lst [x, .int (kf 0)])) x rfl hne
    (I4.write (x := S) (e := S) (t' := s2.toks) mu4 (.inl rfl) (fun b u nb z => ((Heap.SameBut.update s2.heap S _).2 b nb).trans z) ⟨_, hS5⟩ ⟨(by decide : 2 ≤ sizeLine), _, ep, .cons rx (.cons ⟨tn, rfl⟩ .nil), hS5⟩)
    (same_mut sm3 nS) ((upd_ne hSi.symm).trans hit4) upd_same hx fun j' hj' => ?_⟩
  · exact ⟨x, H', I', r1, q i x H' e1 b1 s1⟩
  · have e : j' = 0 := by omega
    rw [e]
    exact Int.le_refl _
end
end RL
namespace RL
open PySem PySem.Spec PyProof.Rows L2
/-! exceptions: defs that may raise, an exception that is caught and kept -/
/-- a def that may raise -/
structure DnX (P : Program) (w : World) (K : PySem.W.Frag) (mg : Str → Option Value) (base : Heap) (x : Str) (k : Nat) (ps : List Str) (dvs : List V) (sp : Sp) : Prop where
  ex : ∃ (f : Addr) (fd : FuncData) (ds : List Value), FnOk P w K mg base (L2.CX P w) k f fd ps sp ∧ mg x = some (.ref f) ∧ PySem.W.keepIn K (.ref f) = true ∧ Binds K fd ps ds ∧ Vals dvs ds
theorem pe_callX {X : Cx} {x : Str} {j k : Nat} {ps : List Str} {dvs : List V} {sp : Sp} {W : XK} {p pos : Pos} {e : Expr} {es : List Expr} {t : TA} (D : DnX X.prog X.w X.K X.mg X.base x j ps dvs sp) (hr : Room k X.A) (hj : j ≤ k) (hg : Gl X x) (tk : Takes X (fun cls d _ H => W cls d H))
    (ha : PA X (e :: es) t) (hdb : (x == ("__debug__" : Str)) = false := by decide) (he : starEach (e :: es) X.env = (false, eval e X.env) :: starEach es X.env := by rfl) (hpl : (backTo pos (starEach es X.env)).any (·.1) = false := by rfl) :
    PE X (.Call (.Name x p) (e :: es) [] pos) (tCall sp dvs W t) := by
  obtain ⟨f, fd, ds, F, hm, hk, hb, hd⟩ := D.ex
  exact pe_call F (hr.mono hj) hg hm hk hb hd (passes_call tk fun _ _ _ _ h => h) ha hdb he hpl
/-- within a try -/
theorem pe_callXS {X : Cx} {x : Str} {j k : Nat} {ps : List Str} {sp : Sp} {W : WX} {p pos : Pos} {e : Expr} {es : List Expr} {t : TA} (D : DnX X.prog X.w X.K X.mg X.base x j ps [] sp) (hr : Room k X.A) (hj : j ≤ k) (hg : Gl X x) (tk : Takes X W)
    (ha : PA X (e :: es) t) (hdb : (x == ("__debug__" : Str)) = false := by decide) (he : starEach (e :: es) X.env = (false, eval e X.env) :: starEach es X.env := by rfl) (hpl : (backTo pos (starEach es X.env)).any (·.1) = false := by rfl) :
    PE X (.Call (.Name x p) (e :: es) [] pos) (tCallS sp (WE W) t) := by
  obtain ⟨f, fd, ds, F, hm, hk, hb, hd⟩ := D.ex
  cases hd
  exact pe_callS F (hr.mono hj) hg hm hk hb (fun σ => passAt tk σ) ha hdb he hpl
/-- what the written part says of an own exception class without own __init__ -/
structure XCls (K : PySem.W.Frag) (mg : Str → Option Value) (x : Str) (C : Addr) : Prop where
  g : mg x = some (.ref C)
  ex : PySem.W.excIn K C He.veBase "ValueError.__new__" = true
  kp : PySem.W.keepIn K (.ref C) = true
  sb : PySem.W.subIn K (.ref C) (.type "BaseException") = some true
  ty : PySem.W.typeIn K (.ref C) = some (.type "type")
theorem ps_raiseX {X : Cx} {x m : Str} {C : Addr} {W : WX} {j : Nat} {p p2 pos pos2 : Pos} (c : XCls X.K X.mg x C) (hc : X.calm = true) (tk : Takes X W) (hg : Gl X x) (hdb : (x == ("__debug__" : Str)) = false := by decide) :
    PS X (.Raise (some (.Call (.Name x p) [.Constant (.str m) j p2] [] pos)) none pos2) (fun _ σ H => W (.ref C) none σ H) :=
  ps_raise hc tk (pmk_own PySem.F.excBase_ValueError c.ex c.g c.kp (raises_own c.sb c.ty) hg hdb)
/-- an exception of the class cls at a, caught -/
def ExT (cls : Value) (a : Addr) : HO := .ext fun h => ∃ (oe : Obj) (vs : Array Value), h.get? a = some oe ∧ Zc cls none oe ∧ oe.data = .fields vs
theorem exT_ok {P : Program} {w : World} {H : Hp} {h : Heap} {a : Addr} {cls : Value} {oe : Obj} {vs : Array Value} (e : h.get? a = some oe) (z : Zc cls none oe) (d : oe.data = .fields vs) : ObjOk P w H h a (ExT cls a) := by
  refine ⟨⟨oe, vs, e, z, d⟩, ⟨oe, e⟩, fun h1 h2 q k => ?_⟩
  obtain ⟨o, v, e1, r⟩ := q
  exact ⟨o, v, k o e1, r⟩
section
variable {X : Cx} {pins : List (Addr × Obj)} {σ : L2.St} {H : Hp} {s : Shared} {a : Addr} {oe : Obj} {o : HO}
/-- behind the suite: the caught exception is tracked -/
theorem inv_keepX (ok : X.Ok) (I : Inv (X.suite a ((a, oe) :: (X.pn ++ pins))) [] σ H s) (n0 : X.s_0.heap.get? a = none) (np : ∀ p ∈ X.pn ++ pins, p.1 ≠ a) (new : ObjOk X.prog X.w (upd H a o) s.heap a o) : Inv X pins σ (upd H a o) s := by
  obtain ⟨he, na, nL, nF, nc⟩ := I.pin (a, oe) (List.mem_append_left _ List.mem_cons_self)
  dsimp only at he na nL nF nc
  have B := I.base
  have ne0 : ∀ b o, X.s_0.heap.get? b = some o → b ≠ a := fun b o e z => by
    rw [z, n0] at e
    cases e
  have neH : ∀ b u, H b = some u → b ≠ a := fun b u e z => by
    rw [z, na] at e
    cases e
  refine ⟨ok, I.os, I.bare, ⟨B.keep, B.slot, fun b o e n hx => ?_, B.there, fun b xs e => ?_, fun b o u e => ?_, fun b ps e => ?_⟩, I.loc, I.cell, (upd_ne (Ne.symm nL)).trans I.free, fun x c e => ?_, fun p hp => ?_, fun b u e => ?_, I.len⟩
  · rw [upd_ne (ne0 b o e)]
    exact B.free b o e n hx
  · have q := B.tups b xs e
    rw [upd_ne (neH b _ q)]
    exact q
  · have q := B.frzs b o u e
    rw [upd_ne (neH b _ q)]
    exact q
  · obtain ⟨m, q⟩ := B.tbls b ps e
    exact ⟨m, by rw [upd_ne (neH b _ q)]; exact q⟩
  · have hca : c ≠ a := fun z => by
      obtain ⟨v, oc, h1, h2⟩ := I.cell x c e
      rw [z, he] at h1
      cases h1
      exact nc v h2
    rw [upd_ne hca]
    exact I.freeC x c e
  · obtain ⟨e, n, ne, nf, d⟩ := I.pin p (List.mem_append_left _ (List.mem_cons_of_mem _ hp))
    exact ⟨e, (upd_ne (np p hp)).trans n, ne, nf, d⟩
  · by_cases hb : b = a
    · subst hb
      rw [upd_same] at e
      cases e
      exact new
    · rw [upd_ne hb] at e
      exact (I.hok b u e).stay (fun _ _ _ q => q) (fun c q => by rw [upd_ne (neH c _ q)]; exact q) fun c xs q => by rw [upd_ne (neH c _ q)]; exact q
end
/-- the wish of 'except x as n: suite', where what is caught is kept behind it: slot i is n's -/
def wKeep (K : PySem.W.Frag) (c : Value) (i : Nat) (ts : Addr → Value → TS) (D : Ends) : WX := fun cls d σ H => d = none ∧ PySem.W.exmOne K cls c = some true ∧
  ∀ a, H a = none → ts a cls { nx := fun σ' H' => D.nx (σ'.set i none) (upd H' a (ExT cls a)), rt := fun _ _ => False, bk := fun _ _ => False, ct := fun _ _ => False } (σ.set i (some (.ref a))) H
theorem ps_try_keep {X : Cx} {x n : Str} {c : Value} {i : Nat} {body suite : List Stmt} {b₀ : Stmt} {np pos pos' : Pos} {tb : WX → TS} {ts : Addr → Value → TS}
    (hs : X.stack = X.env :: X.outer) (hf : X.env.frame = some X.env.locals) (hex : X.ex = []) (hN : X.N.Nodup) (hi : X.N[i]? = some n) (hln : X.env.kindOf n = some .local) (hc : Names X x c)
    (hb : ∀ (W : WX) (pn : List (Addr × Obj)) (xe : Value → Shared → Prop), Takes (X.tr pn xe) W → PSs (X.tr pn xe) body (tb W))
    (hsu : ∀ (a : Addr) (oe : Obj) (cls : Value) (pn : List (Addr × Obj)), PSs (X.suite a ((a, oe) :: pn)) (b₀ :: suite) (ts a cls)) :
    PS X (.Try body [.ExceptHandler (some (.Name x np)) (some n) (b₀ :: suite) pos'] [] [] pos) (fun D σ H => tb (wKeep X.K c i ts D) D σ H) := by
  constructor
  intro pins s σ H D I h
  have ok := I.ok
  have frm : X.A.frames = some (X.env :: X.outer) := ok.frames.trans (congrArg some hs)
  have thrown : ∀ (u : Value) (s1 : Shared), XE (X.tr (X.pn ++ pins) fun e s₁ => wpAny (model X.prog X.w) X.A (noteFrame e X.env) (fun _ s₂ => wpAny (model X.prog X.w) X.A (setFlight e none) (fun _ s₃ =>
      wpAny (model X.prog X.w) X.A (handleBy e X.env [.ExceptHandler (some (.Name x np)) (some n) (b₀ :: suite) pos']) (SP X pins D) X.xe s₃) X.xe s₂) X.xe s₁) (wKeep X.K c i ts D) u s1 →
      wpAny (model X.prog X.w) X.A (noteFrame u X.env) (fun _ s₂ => wpAny (model X.prog X.w) X.A (setFlight u none) (fun _ s₃ =>
      wpAny (model X.prog X.w) X.A (handleBy u X.env [.ExceptHandler (some (.Name x np)) (some n) (b₀ :: suite) pos']) (SP X pins D) X.xe s₃) X.xe s₂) X.xe s1 := by
    rintro u s1 ⟨a, B, sI, ps, τ, H1, cls, d, rfl, J0, nb, up, sky, na, os, ag, rfl, hm, want⟩
    have J : Inv X pins τ H1 sI := J0.ofTry ok
    have sk : Sky B (X.env :: X.outer) a (Zc cls none) X.env.locals s1.heap := hs ▸ sky
    refine Sky.land Zc.steady frm hf sk fun h2 fl2 up2 => ?_
    have J2 : Inv X pins τ H1 { s1 with heap := h2 } := J.landed nb fl2.1 (up.trans up2) os ag
    obtain ⟨o2, v2, ho2, hz2, hd2⟩ := fl2.there
    -- a is no frame, and new
    have out : a ∉ frs (X.env :: X.outer) := fun hm => by
      obtain ⟨_, o', e', hnf⟩ := fl2.2.2.1.mem hm
      rw [ho2] at e'
      cases e'
      exact hnf _ hd2
    have nL : a ≠ X.env.locals := fun z => out (by
      unfold frs
      rw [List.filterMap_cons, hf, z]
      exact List.mem_cons_self)
    have nF : a ∉ X.fs := fun hm => out (by
      unfold frs
      rw [List.filterMap_cons, hf]
      exact List.mem_cons_of_mem _ hm)
    have gone : ∀ o, sI.heap.get? a ≠ some o := fun o e => by
      have q := nb a o e (by rw [show (X.tr (X.pn ++ pins) _).stack = X.stack from rfl, hs]; exact out)
      rw [fl2.2.1] at q
      cases q
    have n0 : X.s_0.heap.get? a = none := by
      cases e : X.s_0.heap.get? a with
      | none => rfl
      | some o =>
        obtain ⟨o', q⟩ := J.base.there a o e (by rw [hex]; exact fun z => nomatch z)
        exact absurd q (gone o')
    have npin : ∀ p ∈ X.pn ++ pins, p.1 ≠ a := fun p hp z => gone p.2 (z ▸ (J.pin p hp).1)
    refine wpAny_handleBy_cons (codeAny_handlers_test ?_) (by intro q; cases q)
    have kind : PySem.W.Looks (model X.prog X.w) h2 (typeOf (.ref a)) cls := fun A Q E s k q => wpAny_typeOf_ref (k _ _ ho2) (by rw [hz2.1]; exact q)
    have S2 := J2.suite ho2 hd2 na nL nF
    have named : ∀ {Q : Value → Shared → Prop} {E : Value → Shared → Prop}, Q c { s1 with heap := h2 } → wpAny (model X.prog X.w) (X.A.mark (some (.ref a))) (eval (.Name x np) X.env) Q E { s1 with heap := h2 } := fun {Q E} q => by
      obtain ⟨g1, g2, g | ⟨g, g3, g4⟩⟩ := hc
      · exact ld_glob (X := X.suite a ((a, o2) :: (X.pn ++ pins))) S2 g1 g q g2
      · exact ld_blt (X := X.suite a ((a, o2) :: (X.pn ++ pins))) S2 g1 g g3 q g4 g2
    refine named ((PySem.W.exm_one (M := model X.prog X.w) J2.kIn kind hm).here (codeAny_handlers_suite_as (HandSPX.lands_againZ fl2 fun h3 fl3 up3 => ?_)))
    have J3 : Inv X pins τ H1 { s1 with heap := h3 } := J.landed nb fl3.1 ((up.trans up2).trans up3) os ag
    obtain ⟨o3, v3, ho3, hz3, hd3⟩ := fl3.there
    refine store_ok (X := X.suite a ((a, o3) :: (X.pn ++ pins))) (v := .ref a) (J3.suite ho3 hd3 na nL nF) hN hi (.inl hln) rfl (fun s4 S4 => ?_) (.inr hln)
    refine wpAny_mono ((hsu a o3 cls (X.pn ++ pins)).run [] s4 _ H1 _ S4 (want a na)) (fun f s5 hsp => ?_) (fun _ _ z => False.elim z)
    match f, hsp with
    | .next, ⟨τ5, H5, S5, q5⟩ =>
      refine gone_ok (X := X.suite a ((a, o3) :: (X.pn ++ pins))) S5 hN hi hln fun s6 S6 => ⟨_, _, inv_keepX ok S6 n0 npin ?_, q5⟩
      exact exT_ok (S6.pin (a, o3) (List.mem_append_left _ List.mem_cons_self)).1 hz3 hd3
    | .brk, ⟨_, _, _, q5⟩ => exact False.elim q5
    | .cont, ⟨_, _, _, q5⟩ => exact False.elim q5
    | .ret _, ⟨_, _, _, _, _, q5⟩ => exact False.elim q5
  refine wpAny_Try_except (wpAny_mono ((hb (wKeep X.K c i ts D) (X.pn ++ pins) _ thrown).run [] s σ H D (I.toTry _) h) (fun f s1 hsp => ?_) (fun e s1 he => he))
  match f, hsp with
  | .next, ⟨σ', H', J', q⟩ => exact wpAny_execs_nil ⟨σ', H', J'.ofTry ok, q⟩
  | .brk, ⟨σ', H', J', q⟩ => exact ⟨σ', H', J'.ofTry ok, q⟩
  | .cont, ⟨σ', H', J', q⟩ => exact ⟨σ', H', J'.ofTry ok, q⟩
  | .ret u, ⟨v, σ', H', J', r, q⟩ => exact ⟨v, σ', H', J'.ofTry ok, r, q⟩
/-- isinstance, of a value or of a caught exception -/
def rIsiX (K : PySem.W.Frag) : List V → Hp → VK → Prop := fun xs H Q => rIsi K xs H Q ∨ ∃ (a D : Addr) (c : V) (u : Value) (b : Bool), xs = [.ref a, c] ∧ ClsV c u ∧ H a = some (ExT (.ref D) a) ∧ ExcC K D ∧ PySem.W.kitOne K (.ref D) u = some b ∧ Q (.bl b) H
theorem call_isiX {X : Cx} {K : PySem.W.Frag} (hK : X.K = K) : CallR X (.builtin "isinstance") (rIsiX K) := by
  subst hK
  intro pins s σ H xs us Q I r h
  rcases h with h | ⟨a, D, c, u, b, rfl, k, ha, C, e, q⟩
  · exact call_isi pins s σ H xs us Q I r h
  · obtain ⟨u1, u2, rfl, r1, r2⟩ := vals2 r
    have e2 := k.eq r2
    subst e2
    cases (show u1 = Value.ref a from r1)
    obtain ⟨⟨oe, vs, ho, hz, hd⟩, _⟩ := I.hok a _ ha
    have J : PySem.W.InstAt s.heap a oe D none := by
      obtain ⟨oc, od, oda, osl⟩ := oe
      obtain ⟨h1, h2⟩ := hz
      dsimp only at h1 h2 hd
      subst h1 h2 hd
      exact ⟨ho, rfl, rfl, trivial⟩
    exact PySem.W.kia_one (PySem.W.handS_kitx_exc C.hg C.hk C.hs C.hd C.ha C.hn C.ht C.hm) I.kIn J e (fun z => nomatch z) fun tk => ⟨.bl b, H, I.tok tk, rfl, q⟩
/-- xs.count(y), flat things -/
def rCntV (K : PySem.W.Frag) : V → List V → Hp → VK → Prop := fun x xs H Q => ∃ (p : Addr) (ys : List V) (y : V), x = .ref p ∧ xs = [y] ∧ SqL K H p ys ∧ flatV y = true ∧ ys.all flatV = true ∧ Q (.int ((ys.countP fun z => eqV z y : Nat) : Int)) H
theorem count_eqU {x : V} : ∀ {xs : List V} {us : List Value}, Vals xs us → xs.all flatV = true → us.countP (eqU x) = xs.countP fun y => eqV y x
  | _, _, .nil, _ => rfl
  | y :: xs, u :: us, .cons r t, f => by
    rw [List.all_cons, Bool.and_eq_true] at f
    rw [List.countP_cons, List.countP_cons, count_eqU t f.2, eqU_of r f.1]
theorem mt_countV {X : Cx} {K : PySem.W.Frag} (hK : X.K = K) : MtR X "list.count" (rCntV K) := by
  subst hK
  intro pins s σ H x xs v us Q I rx rxs h
  obtain ⟨p, ys, y, rfl, rfl, hs, fy, fys, q⟩ := h
  cases rx
  obtain ⟨u, rfl, ru⟩ := rxs.one
  obtain ⟨its, rv, ⟨⟨cls, dd, data, sl⟩, n, ho, hc, hdn, hd⟩, hlen⟩ := I.list hs
  simp only at hc hd
  subst hc hd
  refine call_meets PySem.F.slot_list_count ⟨_, ho, rfl⟩ PySem.F.entry_list_count (PySem.F.args_list_count_2 _ _) (SeqAt.list_countAt p its.toArray n dd sl u (eqU y)) ⟨ho, fun z hz => mem_eqAt ru fy rv fys z (by simpa using hz), ?_⟩
  refine ⟨.int ((ys.countP fun z => eqV z y : Nat) : Int), H, I.tok _, ⟨s.toks, ?_⟩, q⟩
  rw [← count_eqU rv fys]
/-- a truth value < a number -/
theorem gives_bi (p : Bool) (b : Int) (u : Tok) : Gives (Builtin.«int.__lt__» ⟨[.bool p, .int b u], []⟩) (.val (.bool (decide ((if p = true then (1 : Int) else 0) < b)))) := by
  refine .of_wp fun M A E s Q h => ?_
  obtain ⟨h0, g0, d0, t0, os0⟩ := s
  wp_walk
  exact ⟨_, rfl, h⟩
def rLtB : R2 := fun x y H Q => (∃ i j, x = .int i ∧ y = .int j ∧ Q (.bl (decide (i < j))) H) ∨ ∃ (p : Bool) (j : Int), x = .bl p ∧ y = .int j ∧ Q (.bl (decide ((if p = true then (1 : Int) else 0) < j))) H
theorem op_ltB {X : Cx} : OpR X (compareOp .Lt) rLtB := by
  intro pins s σ H x y v u Q I rx ry h
  rcases h with ⟨i, j, rfl, rfl, q⟩ | ⟨p, j, rfl, rfl, q⟩
  · exact op_lt pins s σ H _ _ v u Q I rx ry ⟨i, j, rfl, rfl, q⟩
  · cases rx
    obtain ⟨t, rfl⟩ := ry
    show wpAny _ _ (richCompare .Lt (.bool p) (.int j t)) _ _ _
    exact PySem.SeqAt.rc_left_or (op := .Lt) rfl (typeIs_int s j t) (by decide) PySem.F.sub_int_bool PySem.F.slot_bool_lt (call_gives PySem.F.slot_bool_lt rfl PySem.F.entry_int_lt (PySem.F.args_int_lt_2 _ _) (gives_bi p j t) ⟨nofun, ⟨.bl (decide ((if p = true then (1 : Int) else 0) < j)), H, I, rfl, q⟩⟩) (.inl rfl)
/-- what isinstance says of the errors' classes -/
structure XNames (K : PySem.W.Frag) (C1 C2 : Addr) : Prop where
  n1 : PySem.W.kitOne K (.type "NoneType") (.ref C1) = some false
  n2 : PySem.W.kitOne K (.type "NoneType") (.ref C2) = some false
  e1 : ExcC K C1
  e2 : ExcC K C2
  k11 : PySem.W.kitOne K (.ref C1) (.ref C1) = some true
  k12 : PySem.W.kitOne K (.ref C1) (.ref C2) = some false
  k21 : PySem.W.kitOne K (.ref C2) (.ref C1) = some false
  k22 : PySem.W.kitOne K (.ref C2) (.ref C2) = some true
  v1 : PySem.W.kitOne K (.ref C1) (.type "ValueError") = some true
  v2 : PySem.W.kitOne K (.ref C2) (.type "ValueError") = some true
end RL
namespace RL
open PySem PySem.Spec PyProof.Rows L2
/-! the head's facts over a part of the heap in which no list stands (so the script is no part of it) -/
def lstO (o : Obj) : Bool := match o.cls with
  | .type n => decide (n = "list")
  | _ => false
def noL (g : Addr → Option Obj) (a : Addr) : Bool := match g a with
  | some o => !lstO o
  | none => true
def frN (g : Addr → Option Obj) (n : Nat) : PySem.W.Frag := He.frG g ((He.asD g n).filter (noL g))
def NoL (K : PySem.W.Frag) : Prop := ∀ a o, K.lookup a = some o → lstO o = false
theorem frG_mem {g : Addr → Option Obj} {a : Addr} {o : Obj} : ∀ as : List Addr, (He.frG g as).lookup a = some o → a ∈ as
  | [], e => nomatch (show (none : Option Obj) = some o from e)
  | b :: r, e => by
    unfold He.frG at e
    rw [List.filterMap_cons] at e
    cases hb : g b with
    | none =>
      rw [hb] at e
      exact List.mem_cons_of_mem _ (frG_mem r e)
    | some ob =>
      rw [hb] at e
      by_cases q : a = b
      · rw [q]
        exact List.mem_cons_self
      · have q2 : (a == b) = false := by simpa using q
        have e2 : (match a == b with | true => some ob | false => (He.frG g r).lookup a) = some o := e
        rw [q2] at e2
        exact List.mem_cons_of_mem _ (frG_mem r e2)
theorem frN_no (g : Addr → Option Obj) (n : Nat) : NoL (frN g n) := fun a o e => by
  have h1 := (List.mem_filter.mp (frG_mem _ e)).2
  unfold noL at h1
  rw [He.frG_at _ e] at h1
  simpa using h1
theorem rd_of {K : PySem.W.Frag} {H : Hp} {a : Addr} {xs : List V} (h : NoL K) (q : SqL K H a xs) : Rd H a (.lst xs) := by
  rcases q with q | ⟨o, its, n, lk, hc, _⟩
  · exact q
  · have z := h a o lk
    unfold lstO at z
    rw [hc] at z
    exact absurd z (by decide)
def obN (n : Nat) (fa : List He.Fa) (fn : List He.DefD) (g : Addr → Option Obj) : He.AlD := He.obsD fa fn (frN g n)
def hookN (n : Nat) (fa : List He.Fa) (fn : List He.DefD) : PySem.W.Hook where
  α := He.AlD
  obs := fun s => obN n fa fn s.heap.get?
  val := fun _ => He.valD fn
  says := fun _ h => ∃ K : PySem.W.Frag, K.In h ∧ NoL K ∧ He.SaysD fa fn K
  of := fun _ s e => ⟨frN s.heap.get? n, He.frG_in, frN_no _ _, e⟩
  keeps := fun _ _ _ ⟨K, i, z, c⟩ k => ⟨K, i.keeps k, z, c⟩
theorem obN_eq {n : Nat} {fa : List He.Fa} {fn : List He.DefD} {g : Addr → Option Obj} {s : Shared} (h : ∀ a, g a = s.heap.get? a) : obN n fa fn g = (hookN n fa fn).obs s := by
  rw [show g = s.heap.get? from funext h] <;> rfl
theorem toFun {K : PySem.W.Frag} {x : Str} {st : Stmt} {f : Addr} {fd : FuncData} (F : FunD K x x (defArgs st) (defBody st) (defScope st) [] [] f fd) : Fun K x x st f fd := by
  obtain ⟨oc, od, dV, kV, doc, pm, an, cdv, ct, osl, e, lk, hc, hd, _⟩ := F.ex
  rcases hd with ⟨_, hd⟩ | ⟨hd, _⟩
  · rw [hd] at e
    exact ⟨⟨oc, od, kV, doc, pm, an, cdv, ct, osl, e, lk, hc⟩, F.kp⟩
  · exact absurd rfl hd
end RL
namespace RL
open PySem PySem.Spec PyProof.Rows L2
/-! the head's facts, and what isinstance says of the errors' classes -/
def excB (K : PySem.W.Frag) (D : Addr) : Bool :=
  He.eqO (PySem.W.findIn K (.ref D) "__getattribute__") (some (some (.builtin "BaseException.__getattribute__"))) && (He.eqO (PySem.W.findIn K (.ref D) "__getattr__") (some none) && (decide (PySem.W.subIn K (.ref D) (.type "BaseException") = some true) &&
  (PySem.W.hasDictIn K D && (He.eqO (PySem.W.findIn K (.ref D) "__class__") (some (some (.builtin "object.__class__"))) && (He.eqO (PySem.W.specialIn K (.builtin "object.__class__") "__get__") (some (some (.builtin "getset_descriptor.__get__"))) &&
  (decide (PySem.W.takesIn K (.builtin "object.__class__") = some true) && decide (PySem.W.mroIn K D (.type "object") = some true)))))))
theorem excB_ok {K : PySem.W.Frag} {D : Addr} (h : excB K D = true) : ExcC K D := by
  unfold excB at h
  simp only [Bool.and_eq_true] at h
  obtain ⟨h1, h2, h3, h4, h5, h6, h7, h8⟩ := h
  exact ⟨He.eqO_ok h1, He.eqO_ok h2, of_decide_eq_true h3, h4, He.eqO_ok h5, He.eqO_ok h6, of_decide_eq_true h7, of_decide_eq_true h8⟩
def kB (K : PySem.W.Frag) (a b : Value) (r : Bool) : Bool := decide (PySem.W.kitOne K a b = some r)
def xB (K : PySem.W.Frag) : Bool :=
  kB K (.type "NoneType") (.ref (He.ga K "NoNumber")) false && (kB K (.type "NoneType") (.ref (He.ga K "NoRoot")) false && (excB K (He.ga K "NoNumber") && (excB K (He.ga K "NoRoot") &&
  (kB K (.ref (He.ga K "NoNumber")) (.ref (He.ga K "NoNumber")) true && (kB K (.ref (He.ga K "NoNumber")) (.ref (He.ga K "NoRoot")) false && (kB K (.ref (He.ga K "NoRoot")) (.ref (He.ga K "NoNumber")) false && (kB K (.ref (He.ga K "NoRoot")) (.ref (He.ga K "NoRoot")) true &&
  (kB K (.ref (He.ga K "NoNumber")) (.type "ValueError") true && kB K (.ref (He.ga K "NoRoot")) (.type "ValueError") true))))))))
theorem xB_ok {K : PySem.W.Frag} (h : xB K = true) : XNames K (He.ga K "NoNumber") (He.ga K "NoRoot") := by
  unfold xB kB at h
  simp only [Bool.and_eq_true] at h
  obtain ⟨h1, h2, h3, h4, h5, h6, h7, h8, h9, h10⟩ := h
  exact ⟨of_decide_eq_true h1, of_decide_eq_true h2, excB_ok h3, excB_ok h4, of_decide_eq_true h5, of_decide_eq_true h6, of_decide_eq_true h7, of_decide_eq_true h8, of_decide_eq_true h9, of_decide_eq_true h10⟩
def obX (n : Nat) (fa : List He.Fa) (fn : List He.DefD) (g : Addr → Option Obj) : Bool × He.AlD := (xB (frN g n), He.obsD fa fn (frN g n))
def hookX (n : Nat) (fa : List He.Fa) (fn : List He.DefD) : PySem.W.Hook where
  α := Bool × He.AlD
  obs := fun s => obX n fa fn s.heap.get?
  val := fun _ => (true, He.valD fn)
  says := fun _ h => ∃ K : PySem.W.Frag, K.In h ∧ NoL K ∧ xB K = true ∧ He.SaysD fa fn K
  of := fun _ s e => ⟨frN s.heap.get? n, He.frG_in, frN_no _ _, congrArg Prod.fst e, congrArg Prod.snd e⟩
  keeps := fun _ _ _ ⟨K, i, z, x, c⟩ k => ⟨K, i.keeps k, z, x, c⟩
theorem obX_eq {n : Nat} {fa : List He.Fa} {fn : List He.DefD} {g : Addr → Option Obj} {s : Shared} (h : ∀ a, g a = s.heap.get? a) : obX n fa fn g = (hookX n fa fn).obs s := by
  rw [show g = s.heap.get? from funext h] <;> rfl
end RL
namespace RL
open PySem PySem.Spec PyProof.Rows L2
def topS (i : Nat) : Stmt := PySem.Challenge.pw_rootladder_k01_what_is_refused.main.body.getD i (.Pass ⟨0, 0, 0, 0⟩)
abbrev s_is_number : Stmt := topS 6
abbrev s_need_number : Stmt := topS 7
abbrev s_rooted : Stmt := topS 8
abbrev s_need_root : Stmt := topS 9
abbrev s_l_mixed : Stmt := topS 34
abbrev s_l_root : Stmt := topS 36
abbrev s_l_number_by : Stmt := topS 37
abbrev s_whole_root : Stmt := topS 10
abbrev s_is_square : Stmt := topS 11
abbrev s_round_of : Stmt := topS 14
abbrev s_ladder : Stmt := topS 15
abbrev s_fractions_of : Stmt := topS 16
abbrev s_fractions : Stmt := topS 17
abbrev s_need_pair : Stmt := topS 19
abbrev s_worth_of : Stmt := topS 20
abbrev s_product : Stmt := topS 21
abbrev s_worth : Stmt := topS 22
abbrev s_times : Stmt := topS 23
abbrev s_first_of : Stmt := topS 26
abbrev s_least_one_of : Stmt := topS 27
abbrev s_least_one : Stmt := topS 28
abbrev s_least_less_one : Stmt := topS 29
abbrev s_ones : Stmt := topS 30
abbrev s_by_size : Stmt := topS 31
abbrev s_reach : Stmt := topS 32
abbrev s_l_name : Stmt := topS 38
abbrev s_l_asked : Stmt := topS 39
abbrev s_l_said : Stmt := topS 40
abbrev s_l_numbers_right : Stmt := topS 41
abbrev s_l_seconds_right : Stmt := topS 42
abbrev s_l_ends_right : Stmt := topS 43
abbrev s_law : Stmt := topS 44
theorem sc_is_number : FnScope ["thing"] ["thing"] (defScope s_is_number) := ⟨rfl, rfl, rfl, by decide +kernel, rfl, by decide +kernel, by decide +kernel⟩
theorem sc_need_number : FnScope ["thing", "least", "most"] ["thing", "least", "most"] (defScope s_need_number) := ⟨rfl, rfl, rfl, by decide +kernel, rfl, by decide +kernel, by decide +kernel⟩
theorem sc_rooted : FnScope ["number", "low", "high", "half"] ["number"] (defScope s_rooted) := ⟨rfl, rfl, rfl, by decide +kernel, rfl, by decide +kernel, by decide +kernel⟩
theorem sc_need_root : FnScope ["number"] ["number"] (defScope s_need_root) := ⟨rfl, rfl, rfl, by decide +kernel, rfl, by decide +kernel, by decide +kernel⟩
theorem sc_l_mixed : FnScope ["_law_number_here", "_law_k"] ["_law_number_here", "_law_k"] (defScope s_l_mixed) := ⟨rfl, rfl, rfl, by decide +kernel, rfl, by decide +kernel, by decide +kernel⟩
theorem sc_l_root : FnScope ["_law_number_here", "_law_low", "_law_high", "_law_half"] ["_law_number_here"] (defScope s_l_root) := ⟨rfl, rfl, rfl, by decide +kernel, rfl, by decide +kernel, by decide +kernel⟩
theorem sc_l_number_by : FnScope ["_law_number_here", "_law_most", "_law_found", "_law_side"] ["_law_number_here", "_law_most"] (defScope s_l_number_by) := ⟨rfl, rfl, rfl, by decide +kernel, rfl, by decide +kernel, by decide +kernel⟩
theorem sc_whole_root : FnScope ["number"] ["number"] (defScope s_whole_root) := ⟨rfl, rfl, rfl, by decide +kernel, rfl, by decide +kernel, by decide +kernel⟩
theorem sc_is_square : FnScope ["number"] ["number"] (defScope s_is_square) := ⟨rfl, rfl, rfl, by decide +kernel, rfl, by decide +kernel, by decide +kernel⟩
theorem sc_round_of : FnScope ["number", "whole", "taken", "over", "found", "quotient"] ["number"] (defScope s_round_of) := ⟨rfl, rfl, rfl, by decide +kernel, rfl, by decide +kernel, by decide +kernel⟩
theorem sc_ladder : FnScope ["number"] ["number"] (defScope s_ladder) := ⟨rfl, rfl, rfl, by decide +kernel, rfl, by decide +kernel, by decide +kernel⟩
theorem sc_fractions_of : FnScope ["number", "many", "parts", "ahead", "here", "found", "turn", "quotient", "after"] ["number", "many"] (defScope s_fractions_of) := ⟨rfl, rfl, rfl, by decide +kernel, rfl, by decide +kernel, by decide +kernel⟩
theorem sc_fractions : FnScope ["number", "many"] ["number", "many"] (defScope s_fractions) := ⟨rfl, rfl, rfl, by decide +kernel, rfl, by decide +kernel, by decide +kernel⟩
theorem sc_need_pair : FnScope ["thing"] ["thing"] (defScope s_need_pair) := ⟨rfl, rfl, rfl, by decide +kernel, rfl, by decide +kernel, by decide +kernel⟩
theorem sc_worth_of : FnScope ["number", "pair"] ["number", "pair"] (defScope s_worth_of) := ⟨rfl, rfl, rfl, by decide +kernel, rfl, by decide +kernel, by decide +kernel⟩
theorem sc_product : FnScope ["number", "one", "other"] ["number", "one", "other"] (defScope s_product) := ⟨rfl, rfl, rfl, by decide +kernel, rfl, by decide +kernel, by decide +kernel⟩
theorem sc_worth : FnScope ["number", "pair"] ["number", "pair"] (defScope s_worth) := ⟨rfl, rfl, rfl, by decide +kernel, rfl, by decide +kernel, by decide +kernel⟩
theorem sc_times : FnScope ["number", "one", "other"] ["number", "one", "other"] (defScope s_times) := ⟨rfl, rfl, rfl, by decide +kernel, rfl, by decide +kernel, by decide +kernel⟩
theorem sc_first_of : FnScope ["number"] ["number"] (defScope s_first_of) := ⟨rfl, rfl, rfl, by decide +kernel, rfl, by decide +kernel, by decide +kernel⟩
theorem sc_least_one_of : FnScope ["number", "pair"] ["number"] (defScope s_least_one_of) := ⟨rfl, rfl, rfl, by decide +kernel, rfl, by decide +kernel, by decide +kernel⟩
theorem sc_least_one : FnScope ["number"] ["number"] (defScope s_least_one) := ⟨rfl, rfl, rfl, by decide +kernel, rfl, by decide +kernel, by decide +kernel⟩
theorem sc_least_less_one : FnScope ["number", "pair"] ["number"] (defScope s_least_less_one) := ⟨rfl, rfl, rfl, by decide +kernel, rfl, by decide +kernel, by decide +kernel⟩
theorem sc_ones : FnScope ["number", "many", "least", "found", "pair", "turn"] ["number", "many"] (defScope s_ones) := ⟨rfl, rfl, rfl, by decide +kernel, rfl, by decide +kernel, by decide +kernel⟩
theorem sc_by_size : FnScope ["pair"] ["pair"] (defScope s_by_size) := ⟨rfl, rfl, rfl, by decide +kernel, rfl, by decide +kernel, by decide +kernel⟩
theorem sc_reach : FnScope ["number", "told", "some", "pair", "own", "by"] ["number", "told"] (defScope s_reach) := ⟨rfl, rfl, rfl, by decide +kernel, rfl, by decide +kernel, by decide +kernel⟩
theorem sc_l_name : FnScope ["_law_error", "_law_names"] ["_law_error"] (defScope s_l_name) := ⟨rfl, rfl, rfl, by decide +kernel, rfl, by decide +kernel, by decide +kernel⟩
theorem sc_l_asked : FnScope ["_law_which", "_law_number_here", "_law_second", "_law_third"] ["_law_which", "_law_number_here", "_law_second", "_law_third"] (defScope s_l_asked) := ⟨rfl, rfl, rfl, by decide +kernel, rfl, by decide +kernel, by decide +kernel⟩
theorem sc_l_said : FnScope ["_law_which", "_law_number_here", "_law_second", "_law_third", "_law_caught", "_law_error"] ["_law_which", "_law_number_here", "_law_second", "_law_third"] (defScope s_l_said) := ⟨rfl, rfl, rfl, by decide +kernel, rfl, by decide +kernel, by decide +kernel⟩
theorem sc_l_numbers_right : FnScope ["_law_odd", "_law_square", "_law_good", "_law_which", "_law_second", "_law_none"] ["_law_odd", "_law_square", "_law_good"] (defScope s_l_numbers_right) := ⟨rfl, rfl, rfl, by decide +kernel, rfl, by decide +kernel, by decide +kernel⟩
theorem sc_l_seconds_right : FnScope ["_law_odd", "_law_square", "_law_good", "_law_more", "_law_which", "_law_none", "_law_most", "_law_far", "_law_told", "_law_bad"] ["_law_odd", "_law_square", "_law_good", "_law_more"] (defScope s_l_seconds_right) := ⟨rfl, rfl, rfl, by decide +kernel, rfl, by decide +kernel, by decide +kernel⟩
theorem sc_l_ends_right : FnScope ["_law_number_here", "_law_which", "_law_second"] [] (defScope s_l_ends_right) := ⟨rfl, rfl, rfl, by decide +kernel, rfl, by decide +kernel, by decide +kernel⟩
theorem sc_law : FnScope ["_law_script", "_law_k", "_law_cell", "_law_more", "_law_odd", "_law_side", "_law_good"] ["_law_script"] (defScope s_law) := ⟨rfl, rfl, rfl, by decide +kernel, rfl, by decide +kernel, by decide +kernel⟩
/-- built-in names are no names of the module; its numbers -/
structure Tb (mg : Str → Option Value) : Prop where
  b_isinstance : mg "isinstance" = none
  b_int : mg "int" = none
  b_bool : mg "bool" = none
  b_tuple : mg "tuple" = none
  b_len : mg "len" = none
  b_enumerate : mg "enumerate" = none
  b_range : mg "range" = none
  b_min : mg "min" = none
  b_abs : mg "abs" = none
  b_ValueError : mg "ValueError" = none
  g_MOST : ∃ t, mg "MOST" = some (.int 100000 t)
  g_MOST_FRACTIONS : ∃ t, mg "MOST_FRACTIONS" = some (.int 200 t)
  g_MOST_ONES : ∃ t, mg "MOST_ONES" = some (.int 20 t)
/-! rootladder.roots -/
section
variable {P : Program} {w : World} {K : PySem.W.Frag} {mg : Str → Option Value} {base : Heap}
/-- is_number, of a number -/
def spIsNum : Sp := fun vs H Q _ => ∃ n : Int, vs = [.int n] ∧ Q (.bl true) H
theorem ok_is_number {f : Addr} {fd : FuncData} (F : Fun K "is_number" "is_number" s_is_number f fd) (T : Tb mg) : FnOk P w K mg base CX0 1 f fd ["thing"] spIsNum := by
  refine F.ok sc_is_number (fun vs H Q E h => ?_) (fun cdv A outer s H vs Q E hr h => ?_)
  · obtain ⟨n, rfl, _⟩ := h
    rfl
  · obtain ⟨n, rfl, q⟩ := h
    refine ⟨_, (pss_one (ps_ret (pe_and (pe_callB (id := "isinstance") (isi_rule (K := K) rfl) (by rfl) T.b_isinstance (by decide +kernel) (pa_cons (pv 0) (pa_cons (pe_bltn (v := .ty "int") (by rfl) T.b_int (by decide +kernel) rfl) pa_nil))) (pe_one (pe_not (pe_callB (id := "isinstance") (isi_rule (K := K) rfl) (by rfl) T.b_isinstance (by decide +kernel) (pa_cons (pv 0) (pa_cons (pe_bltn (v := .ty "bool") (by rfl) T.b_bool (by decide +kernel) rfl) pa_nil)))))))), ?_⟩
    refine ⟨_, rfl, _, _, _, _, _, rfl, .ty _, ty_int, kit_ii, _, rfl, ifT rfl ?_⟩
    exact ⟨_, rfl, _, _, _, _, _, rfl, .ty _, ty_int, kit_ib, _, rfl, q⟩
/-- need_number, of a number within its bounds -/
def spNeed : Sp := fun vs H Q _ => ∃ (n l : Int) (m : V), vs = [.int n, .int l, m] ∧ l ≤ n ∧ (m = .non ∨ ∃ k : Int, m = .int k ∧ n ≤ k) ∧ Q .non H
theorem ok_need_number {f : Addr} {fd : FuncData} (F : FunD K "need_number" "need_number" (defArgs s_need_number) (defBody s_need_number) (defScope s_need_number) [.non] [] f fd) (T : Tb mg)
    (D_is_number : Dn P w K mg base "is_number" 1 ["thing"] [] spIsNum) : FnOk P w K mg base CX0 2 f fd ["thing", "least", "most"] spNeed := by
  refine F.ok sc_need_number (fun vs H Q E h => ?_) (fun cdv A outer s H vs Q E hr h => ?_)
  · obtain ⟨n, l, m, rfl, _⟩ := h
    rfl
  · obtain ⟨n, l, m, rfl, h1, h2, q⟩ := h
    refine ⟨_, PSs.nox (pss_one (ps_if (PW.pt (pw_or (pt_not (pt_val (pe_callD D_is_number hr (by decide) (by rfl) (pa_cons (pv 0) pa_nil)))) (pw_or (pt_cmpR op_lt (pv 0) (pv 1) (nomark _)) (pw_or1 (PW.pt (pw_and (pt_cmpR op_notN (pv 2) pe_non (nomark _)) (pw_and1 (pt_cmpR op_gt (pv 0) (pv 2) (nomark _)))))))))
        (pss_one ps_never) pss_nil)), ?_⟩
    refine ⟨_, rfl, n, rfl, ⟨_, rfl, ifF rfl ?_⟩⟩
    refine ⟨_, rfl, _, rfl, _, _, rfl, rfl, _, rfl, ifF (decide_eq_false (by omega)) ?_⟩
    rcases h2 with rfl | ⟨k, rfl, h2⟩
    · exact ⟨_, rfl, rfl, _, rfl, ifF rfl (ifF rfl q)⟩
    · refine ⟨_, rfl, rfl, _, rfl, ifT rfl ?_⟩
      exact ⟨_, rfl, _, rfl, _, _, rfl, rfl, _, rfl, ifF (decide_eq_false (by omega)) q⟩
/-- rooted -/
def spRooted : Sp := fun vs H Q _ => ∃ n : Int, vs = [.int n] ∧ 0 ≤ n ∧ n < 2 ^ 1000 ∧ Q (.int (rt n)) H
theorem big_of {x n : Int} (h0 : 0 ≤ x) (h : x ≤ 4 * n + 1) (hn : n < 2 ^ 1000) : x.natAbs < 2 ^ 1003 := by
  have e : (2 : Int) ^ 1003 = 8 * 2 ^ 1000 := by decide +kernel
  have e2 : ((2 ^ 1003 : Nat) : Int) = (2 : Int) ^ 1003 := by decide +kernel
  have : (1 : Int) ≤ 2 ^ 1000 := by decide +kernel
  generalize (2 : Int) ^ 1000 = B at *
  generalize (2 : Int) ^ 1003 = C at *
  generalize (2 : Nat) ^ 1003 = D at *
  omega
theorem le_sq {x : Int} (h : 0 ≤ x) : x ≤ x * x := by
  by_cases e : x = 0
  · rw [e]; decide
  · have := Int.mul_le_mul_of_nonneg_right (show 1 ≤ x by omega) h
    omega
theorem ok_rooted {f : Addr} {fd : FuncData} (F : Fun K "rooted" "rooted" s_rooted f fd) : FnOk P w K mg base CX0 1 f fd ["number"] spRooted := by
  refine F.ok sc_rooted (fun vs H Q E h => ?_) (fun cdv A outer s H vs Q E hr h => ?_)
  · obtain ⟨n, rfl, _⟩ := h
    rfl
  · obtain ⟨n, rfl, h0, hb, q⟩ := h
    refine ⟨_, (pss_cons (ps_set (i := 1) sc_rooted.nd rfl (.inl rfl) pe_int)
      (pss_cons (ps_set (i := 2) sc_rooted.nd rfl (.inl rfl) pe_int)
      (pss_cons (ps_while PassesOwn.never (pt_cmpR op_le (pe_op op_mulX (pv 2) (pv 2)) (pv 0) (nomark _))
        (pss_one (ps_set (i := 2) sc_rooted.nd rfl (.inl rfl) (pe_op op_mulX (pv 2) pe_int))))
      (pss_cons (ps_while PassesOwn.never (pt_cmpR op_gt (pe_op op_sub (pv 2) (pv 1)) pe_int (nomark _))
        (pss_cons (ps_set (i := 3) sc_rooted.nd rfl (.inl rfl) (pe_op op_fdivW (pe_op op_add (pv 1) (pv 2)) pe_int))
      (pss_one (ps_if (pt_cmpR op_le (pe_op op_mulX (pv 3) (pv 3)) (pv 0) (nomark _))
        (pss_one (ps_set (i := 1) sc_rooted.nd rfl (.inl rfl) (pv 3))) (pss_one (ps_set (i := 2) sc_rooted.nd rfl (.inl rfl) (pv 3)))))))
      (pss_one (ps_ret (pv 1))))))), ?_⟩
    -- low = 0; high = 1; while high * high <= number
    refine ⟨fun m σ H' => ∃ g : Int, σ = [some (.int n), some (.int 0), some (.int g), none] ∧ H' = H ∧ 1 ≤ g ∧ g * g ≤ 4 * n + 1 ∧ m = (4 * n + 2 - g).toNat, ⟨_, 1, rfl, rfl, by omega, by omega, rfl⟩, fun m σ H' hW => ?_⟩
    obtain ⟨g, rfl, rfl, g1, g2, rfl⟩ := hW
    have gl := le_sq (show 0 ≤ g by omega)
    refine ⟨_, rfl, _, rfl, _, _, rfl, rfl, mx 1003 1003 (big_of (n := n) (by omega) (by omega) hb) (big_of (n := n) (by omega) (by omega) hb), _, rfl, _, _, rfl, rfl, _, rfl, ?_⟩
    refine ite2 (fun hc => ?_) (fun hc => ?_)
    · rw [decide_eq_true_eq] at hc
      refine ⟨fun σ' H'' => ∃ m', m' < _ ∧ ∃ g : Int, σ' = [some (.int n), some (.int 0), some (.int g), none] ∧ H'' = H' ∧ 1 ≤ g ∧ g * g ≤ 4 * n + 1 ∧ m' = (4 * n + 2 - g).toNat, fun _ _ h => h, ?_⟩
      refine ⟨_, rfl, _, _, rfl, rfl, mx 1003 2 (big_of (n := n) (by omega) (by omega) hb) (by decide), ?_⟩
      have e : (g * 2) * (g * 2) = 4 * (g * g) := by grind
      exact ⟨_, (show (4 * n + 2 - g * 2).toNat < _ by omega), g * 2, rfl, rfl, by omega, by omega, rfl⟩
    · rw [decide_eq_true_eq] at hc
      -- while high - low > 1
      refine ⟨fun m σ H'' => ∃ (lo hi : Int) (x : Option V), σ = [some (.int n), some (.int lo), some (.int hi), x] ∧ H'' = H' ∧ 0 ≤ lo ∧ lo < hi ∧ lo * lo ≤ n ∧ n < hi * hi ∧ hi ≤ 4 * n + 1 ∧ m = (hi - lo).toNat, ⟨_, 0, g, none, rfl, rfl, by omega, by omega, by omega, by omega, by omega, rfl⟩, fun m σ H'' hW => ?_⟩
      obtain ⟨lo, hi, x, rfl, rfl, l0, lh, a1, a2, a3, rfl⟩ := hW
      refine ⟨_, rfl, _, rfl, _, _, rfl, rfl, _, _, rfl, rfl, _, rfl, ?_⟩
      refine ite2 (fun hc => ?_) (fun hc => ?_)
      · rw [decide_eq_true_eq] at hc
        refine ⟨fun σ' H3 => ∃ m', m' < _ ∧ ∃ (lo hi : Int) (x : Option V), σ' = [some (.int n), some (.int lo), some (.int hi), x] ∧ H3 = H'' ∧ 0 ≤ lo ∧ lo < hi ∧ lo * lo ≤ n ∧ n < hi * hi ∧ hi ≤ 4 * n + 1 ∧ m' = (hi - lo).toNat, fun _ _ h => h, ?_⟩
        refine ⟨_, rfl, _, rfl, _, _, rfl, rfl, _, _, rfl, rfl, dv (by decide) (by decide), ?_⟩
        have hb2 : ((lo + hi) / 2).natAbs < 2 ^ 1003 := big_of (n := n) (by omega) (by omega) hb
        refine ⟨_, rfl, _, rfl, _, _, rfl, rfl, mx 1003 1003 hb2 hb2, _, rfl, _, _, rfl, rfl, _, rfl, ?_⟩
        refine ite2 (fun hd => ?_) (fun hd => ?_)
        · rw [decide_eq_true_eq] at hd
          refine ⟨_, rfl, ?_⟩
          exact ⟨_, (show (hi - (lo + hi) / 2).toNat < _ by omega), (lo + hi) / 2, hi, _, rfl, rfl, by omega, by omega, hd, a2, a3, rfl⟩
        · rw [decide_eq_true_eq] at hd
          refine ⟨_, rfl, ?_⟩
          exact ⟨_, (show ((lo + hi) / 2 - lo).toNat < _ by omega), lo, (lo + hi) / 2, _, rfl, rfl, by omega, by omega, a1, by omega, by omega, rfl⟩
      · rw [decide_eq_true_eq] at hc
        have e : hi = lo + 1 := by omega
        subst e
        refine ⟨_, rfl, ?_⟩
        rw [← rt_uniq l0 a1 a2]
        exact q
theorem rt_big {n : Int} (h0 : 0 ≤ n) (h : n < 2 ^ 1000) : (rt n).natAbs < 2 ^ 1003 := by
  obtain ⟨a, b, c⟩ := rt_spec h0
  have := le_sq a
  exact big_of (n := n) a (by omega) h
theorem dec_int {i j : Int} : decide (V.int i = V.int j) = decide (i = j) := by
  by_cases h : i = j
  · rw [h, decide_eq_true rfl, decide_eq_true rfl]
  · rw [decide_eq_false h, decide_eq_false (fun e => h (V.int.inj e))]
end
/-! need_root, of a number with a ladder -/
section
variable {P : Program} {w : World} {K : PySem.W.Frag} {mg : Str → Option Value} {base : Heap}
def spNeedRoot : Sp := fun vs H Q _ => ∃ n : Int, vs = [.int n] ∧ Rootn n ∧ Q .non H
theorem ok_need_root {f : Addr} {fd : FuncData} (F : Fun K "need_root" "need_root" s_need_root f fd) (T : Tb mg) (D_need_number : Dn P w K mg base "need_number" 2 ["thing", "least", "most"] [] spNeed) (D_rooted : Dn P w K mg base "rooted" 1 ["number"] [] spRooted) :
    FnOk P w K mg base CX0 3 f fd ["number"] spNeedRoot := by
  refine F.ok sc_need_root (fun vs H Q E h => ?_) (fun cdv A outer s H vs Q E hr h => ?_)
  · obtain ⟨n, rfl, _⟩ := h
    rfl
  · obtain ⟨n, rfl, R, q⟩ := h
    have n0 : 0 ≤ n := by have := R.two; omega
    have rb := rt_big n0 R.big
    refine ⟨_, (pss_cons (ps_expr (pe_callD D_need_number hr (by decide) (by rfl) (pa_cons (pv 0) (pa_cons pe_int (pa_cons (pe_globI (by rfl) T.g_MOST) pa_nil)))))
      (pss_one (ps_if (pt_cmpR op_eq (pe_op op_mulX (pe_callD D_rooted hr (by decide) (by rfl) (pa_cons (pv 0) pa_nil)) (pe_callD D_rooted hr (by decide) (by rfl) (pa_cons (pv 0) pa_nil))) (pv 0) (nomark _))
        (pss_one ps_never) pss_nil))), ?_⟩
    refine ⟨_, rfl, n, 2, .int 100000, rfl, R.two, .inr ⟨_, rfl, R.most⟩, ?_⟩
    refine ⟨_, rfl, n, rfl, n0, R.big, _, rfl, n, rfl, n0, R.big, _, _, rfl, rfl, mx 1003 1003 rb rb, _, rfl, rfl, _, rfl, ifF ?_ q⟩
    rw [dec_int]
    exact decide_eq_false R.ns
end
/-! whole_root, is_square -/
section
variable {P : Program} {w : World} {K : PySem.W.Frag} {mg : Str → Option Value} {base : Heap}
def spWhole : Sp := fun vs H Q _ => ∃ n : Int, vs = [.int n] ∧ 0 ≤ n ∧ n < 2 ^ 1000 ∧ Q (.int (rt n)) H
def spIsSq : Sp := fun vs H Q _ => ∃ n : Int, vs = [.int n] ∧ 0 ≤ n ∧ n < 2 ^ 1000 ∧ Q (.bl (decide (rt n * rt n = n))) H
theorem ok_whole_root {f : Addr} {fd : FuncData} (F : Fun K "whole_root" "whole_root" s_whole_root f fd) (D_need_number_d : Dn P w K mg base "need_number" 2 ["thing", "least", "most"] [.non] spNeed) (D_rooted : Dn P w K mg base "rooted" 1 ["number"] [] spRooted) :
    FnOk P w K mg base CX0 3 f fd ["number"] spWhole := by
  refine F.ok sc_whole_root (fun vs H Q E h => ?_) (fun cdv A outer s H vs Q E hr h => ?_)
  · obtain ⟨n, rfl, _⟩ := h
    rfl
  · obtain ⟨n, rfl, h0, h1, q⟩ := h
    refine ⟨_, (pss_cons (ps_expr (pe_callD D_need_number_d hr (by decide) (by rfl) (pa_cons (pv 0) (pa_cons pe_int pa_nil))))
      (pss_one (ps_ret (pe_callD D_rooted hr (by decide) (by rfl) (pa_cons (pv 0) pa_nil))))), ?_⟩
    exact ⟨_, rfl, n, 0, .non, rfl, h0, .inl rfl, _, rfl, n, rfl, h0, h1, q⟩
theorem ok_is_square {f : Addr} {fd : FuncData} (F : Fun K "is_square" "is_square" s_is_square f fd) (D_need_number_d : Dn P w K mg base "need_number" 2 ["thing", "least", "most"] [.non] spNeed) (D_rooted : Dn P w K mg base "rooted" 1 ["number"] [] spRooted) :
    FnOk P w K mg base CX0 3 f fd ["number"] spIsSq := by
  refine F.ok sc_is_square (fun vs H Q E h => ?_) (fun cdv A outer s H vs Q E hr h => ?_)
  · obtain ⟨n, rfl, _⟩ := h
    rfl
  · obtain ⟨n, rfl, h0, h1, q⟩ := h
    refine ⟨_, (pss_cons (ps_expr (pe_callD D_need_number_d hr (by decide) (by rfl) (pa_cons (pv 0) (pa_cons pe_int pa_nil))))
      (pss_one (ps_ret (pe_cmpR op_eq (pe_op op_mulX (pe_callD D_rooted hr (by decide) (by rfl) (pa_cons (pv 0) pa_nil)) (pe_callD D_rooted hr (by decide) (by rfl) (pa_cons (pv 0) pa_nil))) (pv 0) (nomark _))))), ?_⟩
    refine ⟨_, rfl, n, 0, .non, rfl, h0, .inl rfl, _, rfl, n, rfl, h0, h1, _, rfl, n, rfl, h0, h1, _, _, rfl, rfl, mx 1003 1003 (rt_big h0 h1) (rt_big h0 h1), _, rfl, rfl, ?_⟩
    rw [dec_int]
    exact q
end
/-! the law's own helpers: a mixed number -/
section
variable {P : Program} {w : World} {K : PySem.W.Frag} {mg : Str → Option Value} {base : Heap}
theorem ok_mixed {f : Addr} {fd : FuncData} (F : Fun K "_law_mixed" "_law_mixed" s_l_mixed f fd) : FnOk P w K mg base CX0 1 f fd ["_law_number_here", "_law_k"] spMixed := by
  refine F.ok sc_l_mixed (fun vs H Q E h => ?_) (fun cdv A outer s H vs Q E hr h => ?_)
  · obtain ⟨n, k, rfl, _⟩ := h
    rfl
  · obtain ⟨n, k, rfl, h0, h1, q⟩ := h
    refine ⟨_, (pss_cons (ps_set (i := 0) sc_l_mixed.nd rfl (.inl rfl) (pe_op op_mod (pe_op op_mulX (pe_op op_add (pe_op op_add (pe_op op_mod (pv 0) pe_int) (pe_op op_mulX (pe_op op_mulX pe_int (pv 1)) (pv 1))) (pe_op op_mulX pe_int (pv 1))) pe_int) pe_int))
      (pss_one (ps_ret (pe_op op_mod (pe_op op_mulX (pv 0) (pe_op op_add pe_int (pe_op op_mulX pe_int (pv 1)))) pe_int)))), ?_⟩
    have k1 : 7919 * k * k ≤ 7919 * 1000 * 1000 := Int.mul_le_mul (by omega) h1 h0 (by decide)
    have k0 : 0 ≤ 7919 * k * k := Int.mul_nonneg (by omega) h0
    have m0 := Int.emod_nonneg n (show (2147483647 : Int) ≠ 0 by decide)
    have m1 := Int.emod_lt_of_pos n (show (0 : Int) < 2147483647 by decide)
    refine ⟨_, rfl, _, _, rfl, rfl, (by show (0 : Int) < 2147483647; decide), ?_⟩
    refine ⟨_, rfl, _, _, rfl, rfl, mx 14 14 (by decide) (by omega), _, rfl, _, _, rfl, rfl, mx 40 14 (by omega) (by omega), _, _, rfl, rfl, ?_⟩
    refine ⟨_, rfl, _, _, rfl, rfl, mx 14 14 (by decide) (by omega), _, _, rfl, rfl, _, _, rfl, rfl, mx 64 30 (by omega) (by decide), _, _, rfl, rfl, (by show (0 : Int) < 2147483647; decide), ?_⟩
    generalize hz : (n % 2147483647 + 7919 * k * k + 31 * k) * 48271 = z
    have z0 := Int.emod_nonneg z (show (2147483647 : Int) ≠ 0 by decide)
    have z1 := Int.emod_lt_of_pos z (show (0 : Int) < 2147483647 by decide)
    refine ⟨_, rfl, _, rfl, _, _, rfl, rfl, mx 14 14 (by decide) (by omega), _, _, rfl, rfl, _, _, rfl, rfl, mx 40 30 (by omega) (by omega), _, _, rfl, rfl, (by show (0 : Int) < 2147483629; decide), ?_⟩
    rw [← hz]
    exact q
end
/-! the law's own root -/
section
variable {P : Program} {w : World} {K : PySem.W.Frag} {mg : Str → Option Value} {base : Heap}
theorem ok_law_root {f : Addr} {fd : FuncData} (F : Fun K "_law_root" "_law_root" s_l_root f fd) : FnOk P w K mg base CX0 1 f fd ["_law_number_here"] spRooted := by
  refine F.ok sc_l_root (fun vs H Q E h => ?_) (fun cdv A outer s H vs Q E hr h => ?_)
  · obtain ⟨n, rfl, _⟩ := h
    rfl
  · obtain ⟨n, rfl, h0, hb, q⟩ := h
    refine ⟨_, (pss_cons (ps_set (i := 1) sc_l_root.nd rfl (.inl rfl) pe_int)
      (pss_cons (ps_set (i := 2) sc_l_root.nd rfl (.inl rfl) pe_int)
      (pss_cons (ps_while PassesOwn.never (pt_cmpR op_le (pe_op op_mulX (pv 2) (pv 2)) (pv 0) (nomark _))
        (pss_one (ps_set (i := 2) sc_l_root.nd rfl (.inl rfl) (pe_op op_mulX (pv 2) pe_int))))
      (pss_cons (ps_while PassesOwn.never (pt_cmpR op_gt (pe_op op_sub (pv 2) (pv 1)) pe_int (nomark _))
        (pss_cons (ps_set (i := 3) sc_l_root.nd rfl (.inl rfl) (pe_op op_fdivW (pe_op op_add (pv 1) (pv 2)) pe_int))
      (pss_one (ps_if (pt_cmpR op_le (pe_op op_mulX (pv 3) (pv 3)) (pv 0) (nomark _))
        (pss_one (ps_set (i := 1) sc_l_root.nd rfl (.inl rfl) (pv 3))) (pss_one (ps_set (i := 2) sc_l_root.nd rfl (.inl rfl) (pv 3)))))))
      (pss_one (ps_ret (pv 1))))))), ?_⟩
    -- low = 0; high = 1; while high * high <= number
    refine ⟨fun m σ H' => ∃ g : Int, σ = [some (.int n), some (.int 0), some (.int g), none] ∧ H' = H ∧ 1 ≤ g ∧ g * g ≤ 4 * n + 1 ∧ m = (4 * n + 2 - g).toNat, ⟨_, 1, rfl, rfl, by omega, by omega, rfl⟩, fun m σ H' hW => ?_⟩
    obtain ⟨g, rfl, rfl, g1, g2, rfl⟩ := hW
    have gl := le_sq (show 0 ≤ g by omega)
    refine ⟨_, rfl, _, rfl, _, _, rfl, rfl, mx 1003 1003 (big_of (n := n) (by omega) (by omega) hb) (big_of (n := n) (by omega) (by omega) hb), _, rfl, _, _, rfl, rfl, _, rfl, ?_⟩
    refine ite2 (fun hc => ?_) (fun hc => ?_)
    · rw [decide_eq_true_eq] at hc
      refine ⟨fun σ' H'' => ∃ m', m' < _ ∧ ∃ g : Int, σ' = [some (.int n), some (.int 0), some (.int g), none] ∧ H'' = H' ∧ 1 ≤ g ∧ g * g ≤ 4 * n + 1 ∧ m' = (4 * n + 2 - g).toNat, fun _ _ h => h, ?_⟩
      refine ⟨_, rfl, _, _, rfl, rfl, mx 1003 2 (big_of (n := n) (by omega) (by omega) hb) (by decide), ?_⟩
      have e : (g * 2) * (g * 2) = 4 * (g * g) := by grind
      exact ⟨_, (show (4 * n + 2 - g * 2).toNat < _ by omega), g * 2, rfl, rfl, by omega, by omega, rfl⟩
    · rw [decide_eq_true_eq] at hc
      -- while high - low > 1
      refine ⟨fun m σ H'' => ∃ (lo hi : Int) (x : Option V), σ = [some (.int n), some (.int lo), some (.int hi), x] ∧ H'' = H' ∧ 0 ≤ lo ∧ lo < hi ∧ lo * lo ≤ n ∧ n < hi * hi ∧ hi ≤ 4 * n + 1 ∧ m = (hi - lo).toNat, ⟨_, 0, g, none, rfl, rfl, by omega, by omega, by omega, by omega, by omega, rfl⟩, fun m σ H'' hW => ?_⟩
      obtain ⟨lo, hi, x, rfl, rfl, l0, lh, a1, a2, a3, rfl⟩ := hW
      refine ⟨_, rfl, _, rfl, _, _, rfl, rfl, _, _, rfl, rfl, _, rfl, ?_⟩
      refine ite2 (fun hc => ?_) (fun hc => ?_)
      · rw [decide_eq_true_eq] at hc
        refine ⟨fun σ' H3 => ∃ m', m' < _ ∧ ∃ (lo hi : Int) (x : Option V), σ' = [some (.int n), some (.int lo), some (.int hi), x] ∧ H3 = H'' ∧ 0 ≤ lo ∧ lo < hi ∧ lo * lo ≤ n ∧ n < hi * hi ∧ hi ≤ 4 * n + 1 ∧ m' = (hi - lo).toNat, fun _ _ h => h, ?_⟩
        refine ⟨_, rfl, _, rfl, _, _, rfl, rfl, _, _, rfl, rfl, dv (by decide) (by decide), ?_⟩
        have hb2 : ((lo + hi) / 2).natAbs < 2 ^ 1003 := big_of (n := n) (by omega) (by omega) hb
        refine ⟨_, rfl, _, rfl, _, _, rfl, rfl, mx 1003 1003 hb2 hb2, _, rfl, _, _, rfl, rfl, _, rfl, ?_⟩
        refine ite2 (fun hd => ?_) (fun hd => ?_)
        · rw [decide_eq_true_eq] at hd
          refine ⟨_, rfl, ?_⟩
          exact ⟨_, (show (hi - (lo + hi) / 2).toNat < _ by omega), (lo + hi) / 2, hi, _, rfl, rfl, by omega, by omega, hd, a2, a3, rfl⟩
        · rw [decide_eq_true_eq] at hd
          refine ⟨_, rfl, ?_⟩
          exact ⟨_, (show ((lo + hi) / 2 - lo).toNat < _ by omega), lo, (lo + hi) / 2, _, rfl, rfl, by omega, by omega, a1, by omega, by omega, rfl⟩
      · rw [decide_eq_true_eq] at hc
        have e : hi = lo + 1 := by omega
        subst e
        refine ⟨_, rfl, ?_⟩
        rw [← rt_uniq l0 a1 a2]
        exact q
end
/-! the law's number with a ladder -/
theorem rt_of {n : Int} (a : Int) (h0 : 0 ≤ a) (h1 : a * a ≤ n) (h2 : n < (a + 1) * (a + 1)) : rt n = a := rt_uniq h0 h1 h2
theorem not_sq_succ {n : Int} (h : 4 ≤ n) (e : rt n * rt n = n) : rt (n + 1) * rt (n + 1) ≠ n + 1 := by
  obtain ⟨a, _, _⟩ := rt_spec (show 0 ≤ n by omega)
  have r2 : 2 ≤ rt n := by
    by_cases q : 2 ≤ rt n
    · exact q
    · have := sq_le a (show rt n ≤ 1 by omega)
      omega
  have e2 : (rt n + 1) * (rt n + 1) = rt n * rt n + 2 * rt n + 1 := by grind
  have : rt (n + 1) = rt n := rt_uniq a (by omega) (by omega)
  rw [this]
  omega
theorem sq_four {n : Int} (h : 2 ≤ n) (e : rt n * rt n = n) : 4 ≤ n := by
  obtain ⟨a, _, _⟩ := rt_spec (show 0 ≤ n by omega)
  by_cases q : 2 ≤ rt n
  · have := sq_le (show (0 : Int) ≤ 2 by decide) q
    omega
  · have := sq_le a (show rt n ≤ 1 by omega)
    omega
structure Most (m : Int) : Prop where
  lo : 20 ≤ m
  hi : m ≤ 100000
  ns : rt m * rt m ≠ m
def spNumBy : Sp := fun vs H Q _ => ∃ n m : Int, vs = [.int n, .int m] ∧ 0 ≤ n ∧ n < 2 ^ 40 ∧ Most m ∧ ∀ z H', Same H H' → Rootn z → z ≤ m → Q (.int z) H'
section
variable {P : Program} {w : World} {K : PySem.W.Frag} {mg : Str → Option Value} {base : Heap}
theorem ok_law_number_by {f : Addr} {fd : FuncData} (F : Fun K "_law_number_by" "_law_number_by" s_l_number_by f fd) (D_law_root : Dn P w K mg base "_law_root" 1 ["_law_number_here"] [] spRooted) :
    FnOk P w K mg base CX0 2 f fd ["_law_number_here", "_law_most"] spNumBy := by
  refine F.ok sc_l_number_by (fun vs H Q E h => ?_) (fun cdv A outer s H vs Q E hr h => ?_)
  · obtain ⟨n, m, rfl, _⟩ := h
    rfl
  · obtain ⟨n, m, rfl, n0, n1, M, q⟩ := h
    have mlo := M.lo
    have mhi := M.hi
    have mb : m < 2 ^ 1000 := Int.lt_of_le_of_lt mhi (by decide +kernel)
    obtain ⟨r0, r1, r2⟩ := rt_spec (show 0 ≤ m by omega)
    have r4 : 4 ≤ rt m := by
      by_cases e : 4 ≤ rt m
      · exact e
      · have := sq_le (show 0 ≤ rt m + 1 by omega) (show rt m + 1 ≤ 4 by omega)
        omega
    have r317 : rt m ≤ 317 := by
      by_cases e : rt m ≤ 317
      · exact e
      · have := sq_le (show (0 : Int) ≤ 318 by decide) (show 318 ≤ rt m by omega)
        omega
    have rsq : rt m * rt m ≤ m - 1 := by
      have := M.ns
      omega
    -- behind the ifs
    have fin : ∀ (x : Option V) (z : Int) (H' : Hp), Same H H' → 2 ≤ z → z ≤ m → (rt z * rt z = z → z ≤ m - 1) →
        tSeq (tIfS (tTest (tOp rEq (tOp (rI CMulX fun i j => .int (i * j)) (tCall spRooted [] E0 (tCons (tVar 2) tNil)) (tCall spRooted [] E0 (tCons (tVar 2) tNil))) (tVar 2))) (tAsg (tOp (rI0 fun i j => .int (i + j)) (tVar 2) (tC (.int 1))) (gName 2)) tNext) (tRet (tVar 2)) { nx := fun _ H' => Q .non H', rt := Q } [some (.int n), some (.int m), some (.int z), x] H' := fun x z H' sm z2 zm zs => by
      have zb : z < 2 ^ 1000 := by omega
      have rb := rt_big (n := z) (by omega) zb
      refine ⟨_, rfl, z, rfl, by omega, zb, _, rfl, z, rfl, by omega, zb, _, _, rfl, rfl, mx 1003 1003 rb rb, _, rfl, rfl, _, rfl, if2 (fun e => ?_) (fun e => ?_)⟩
      · rw [dec_int, decide_eq_true_eq] at e
        refine ⟨_, rfl, _, _, rfl, rfl, ?_⟩
        refine ⟨_, rfl, q _ _ sm ⟨by omega, ?_, not_sq_succ (sq_four z2 e) e⟩ ?_⟩
        · have := zs e
          omega
        · have := zs e
          omega
      · rw [dec_int, decide_eq_false_iff_not] at e
        exact ⟨_, rfl, q _ _ sm ⟨z2, by omega, e⟩ zm⟩
    have edge : ∀ z : Int, z ≤ m → rt z * rt z = z → z ≤ m - 1 := fun z hz e => by
      by_cases q : z = m
      · rw [q] at e
        exact absurd e M.ns
      · omega
    refine ⟨_, (pss_cons (ps_set (i := 2) sc_l_number_by.nd rfl (.inl rfl) (pe_op op_add pe_int (pe_op op_mod (pe_op op_fdivW (pv 0) pe_int) (pe_op op_sub (pv 1) pe_int))))
      (pss_cons (ps_if (pt_cmpR op_eq (pe_op op_mod (pv 0) pe_int) pe_int (nomark _))
        (pss_cons (ps_set (i := 3) sc_l_number_by.nd rfl (.inl rfl) (pe_op op_add pe_int (pe_op op_mod (pe_op op_fdivW (pv 0) pe_int) (pe_op op_sub (pe_callD D_law_root hr (by decide) (by rfl) (pa_cons (pv 1) pa_nil)) pe_int))))
      (pss_one (ps_set (i := 2) sc_l_number_by.nd rfl (.inl rfl) (pe_op op_add (pe_op op_mulX (pv 3) (pv 3)) (pe_ix (ixl (K := K) rfl) (pe_lst (pa_cons (pe_un un_neg pe_int) (pa_cons (pe_un un_neg pe_int) (pa_cons pe_int (pa_cons pe_int pa_nil))))) (pe_op op_mod (pe_op op_fdivW (pv 0) pe_int) pe_int) (fun _ _ => rfl)))))) pss_nil)
      (pss_cons (ps_if (pt_cmpR op_eq (pe_op op_mulX (pe_callD D_law_root hr (by decide) (by rfl) (pa_cons (pv 2) pa_nil)) (pe_callD D_law_root hr (by decide) (by rfl) (pa_cons (pv 2) pa_nil))) (pv 2) (nomark _))
        (pss_one (ps_set (i := 2) sc_l_number_by.nd rfl (.inl rfl) (pe_op op_add (pv 2) pe_int))) pss_nil)
      (pss_one (ps_ret (pv 2)))))), ?_⟩
    have d0 := Int.emod_nonneg (n / 5) (show m - 1 ≠ 0 by omega)
    have d1 := Int.emod_lt_of_pos (n / 5) (show 0 < m - 1 by omega)
    refine ⟨_, rfl, _, _, rfl, rfl, dv (by decide) (by decide), _, rfl, _, _, rfl, rfl, _, _, rfl, rfl, (by show 0 < m - 1; omega), _, _, rfl, rfl, ?_⟩
    refine ⟨_, rfl, _, _, rfl, rfl, (by show (0 : Int) < 5; decide), rfl, _, rfl, if2 (fun _ => ?_) (fun _ => ?_)⟩
    · refine ⟨_, rfl, _, _, rfl, rfl, dv (by decide) (by decide), _, rfl, m, rfl, by omega, mb, _, _, rfl, rfl, _, _, rfl, rfl, (by show 0 < rt m - 2; omega), _, _, rfl, rfl, ?_⟩
      have e0 := Int.emod_nonneg (n / 5) (show rt m - 2 ≠ 0 by omega)
      have e1 := Int.emod_lt_of_pos (n / 5) (show 0 < rt m - 2 by omega)
      generalize hsd : 2 + n / 5 % (rt m - 2) = sd
      have s0 : 2 ≤ sd := by omega
      have s1 : sd ≤ rt m - 1 := by omega
      refine ⟨_, rfl, _, rfl, _, _, rfl, rfl, mx 64 64 (by show Int.natAbs (2 + n / 5 % (rt m - 2)) < _; omega) (by show Int.natAbs (2 + n / 5 % (rt m - 2)) < _; omega), ?_⟩
      refine ⟨_, rfl, _, rfl, (by show 4 ≤ sizeLine; decide), fun p np => ?_⟩
      refine ⟨_, rfl, _, _, rfl, rfl, dv (by decide) (by decide), _, _, rfl, rfl, (by show (0 : Int) < 4; decide), ?_⟩
      obtain ⟨v, hv, d, rfl, dlo, dhi⟩ : ∃ v, atI [V.int (-2), V.int (-1), V.int 1, V.int 2] (n / 9999 % 4) = some v ∧ ∃ d : Int, v = .int d ∧ -2 ≤ d ∧ d ≤ 2 := by
        have h4 : n / 9999 % 4 = 0 ∨ n / 9999 % 4 = 1 ∨ n / 9999 % 4 = 2 ∨ n / 9999 % 4 = 3 := by omega
        rcases h4 with h | h | h | h <;> rw [h]
        · exact ⟨_, rfl, _, rfl, by decide, by decide⟩
        · exact ⟨_, rfl, _, rfl, by decide, by decide⟩
        · exact ⟨_, rfl, _, rfl, by decide, by decide⟩
        · exact ⟨_, rfl, _, rfl, by decide, by decide⟩
      refine ⟨p, _, _, _, rfl, rfl, .inl (.inl upd_same), hv, _, _, rfl, rfl, ?_⟩
      have a1 := sq_le (show (0 : Int) ≤ 2 by decide) s0
      have a2 := sq_le (show 0 ≤ sd by omega) s1
      have a3 : (rt m - 1) * (rt m - 1) = rt m * rt m - 2 * rt m + 1 := by grind
      have b1 : 2 ≤ sd * sd + d := by omega
      have b2 : sd * sd + d ≤ m := by omega
      rw [← hsd] at b1 b2
      exact fin _ _ _ (same_new np) b1 b2 (edge _ b2)
    · have b2 : 2 + n / 5 % (m - 1) ≤ m := by omega
      exact fin _ _ _ (Same.refl H) (by omega) b2 (edge _ b2)
theorem most_3000 : Most 3000 := ⟨by decide, by decide, by rw [rt_of 54 (by decide) (by decide) (by decide)]; decide⟩
theorem most_60 : Most 60 := ⟨by decide, by decide, by rw [rt_of 7 (by decide) (by decide) (by decide)]; decide⟩
theorem most_20000 : Most 20000 := ⟨by decide, by decide, by rw [rt_of 141 (by decide) (by decide) (by decide)]; decide⟩
theorem most_100000 : Most 100000 := ⟨by decide, by decide, by rw [rt_of 316 (by decide) (by decide) (by decide)]; decide⟩
end
/-! rootladder.ladders: the round, the ladder -/
section
variable {P : Program} {w : World} {K : PySem.W.Frag} {mg : Str → Option Value} {base : Heap}
/-- the first quotients of the round -/
def quots (n : Int) (i : Nat) : List Int := (List.range i).map (aq n (rt n))
theorem quots_succ (n : Int) (i : Nat) : quots n (i + 1) = quots n i ++ [aq n (rt n) i] := by
  unfold quots
  rw [List.range_succ, List.map_append]
  rfl
theorem quots_len (n : Int) (i : Nat) : (quots n i).length = i := by
  unfold quots
  rw [List.length_map, List.length_range]
theorem quots_at (n : Int) {i l : Nat} (h : i < l) : ((quots n l).map V.int)[i]? = some (.int (aq n (rt n) i)) := by
  unfold quots
  rw [List.getElem?_map, List.getElem?_map, List.getElem?_range h]
  rfl
theorem last_small {n : Int} {l : Nat} (R : Rootn n) (L : Last n (rt n) l) : l < 200000 := by
  have a := L.le
  have b := R.r316
  have c := R.good.r1
  have : (rt n).toNat ≤ 316 := by omega
  have d : (rt n).toNat * (2 * (rt n).toNat) ≤ 316 * (2 * 316) := Nat.mul_le_mul this (by omega)
  omega
/-- what the round's sums are bounded by -/
structure Small (n : Int) (i : Nat) : Prop where
  r0 : 1 ≤ rt n
  r1 : rt n ≤ 316
  p0 : 0 < sP n (rt n) i
  p1 : sP n (rt n) i ≤ rt n
  q0 : 0 < sQ n (rt n) i
  q1 : sQ n (rt n) i ≤ 632
  a0 : 1 ≤ aq n (rt n) i
  a1 : aq n (rt n) i ≤ 632
  aq0 : 0 < aq n (rt n) i * sQ n (rt n) i
  aq1 : aq n (rt n) i * sQ n (rt n) i ≤ 632
theorem small_at {n : Int} (R : Rootn n) (i : Nat) : Small n i := by
  have G := R.good
  have r := R.r316
  have d := st_red G i
  have s := st_step G i
  have a := aq_le2 G i
  have dhi := d.hi
  have dpr := d.pr
  have sal := s.al
  have sa1 := s.a1
  have r1 := G.r1
  have m : 0 < aq n (rt n) i * sQ n (rt n) i := Int.mul_pos (by omega) d.q0
  exact ⟨r1, r, d.p0, dpr, d.q0, by omega, sa1, by omega, m, by omega⟩
def spRoundOf : Sp := fun vs H Q _ => ∃ n : Int, vs = [.int n] ∧ Rootn n ∧ ∀ l p H', Last n (rt n) l → Same H H' → H p = none → H' p = some (.lst ((quots n (l + 1)).map V.int)) → Q (.ref p) H'
theorem ok_round_of {f : Addr} {fd : FuncData} (F : Fun K "round_of" "round_of" s_round_of f fd) (D_rooted : Dn P w K mg base "rooted" 1 ["number"] [] spRooted) : FnOk P w K mg base CX0 2 f fd ["number"] spRoundOf := by
  refine F.ok sc_round_of (fun vs H Q E h => ?_) (fun cdv A outer s H vs Q E hr h => ?_)
  · obtain ⟨n, rfl, _⟩ := h
    rfl
  · obtain ⟨n, rfl, R, q⟩ := h
    have n0 : 0 ≤ n := by have := R.two; omega
    have nm := R.most
    have G := R.good
    obtain ⟨l, L⟩ := last_there G
    have lsm := last_small R L
    refine ⟨_, (pss_cons (ps_set (i := 1) sc_round_of.nd rfl (.inl rfl) (pe_callD D_rooted hr (by decide) (by rfl) (pa_cons (pv 0) pa_nil)))
      (pss_cons (ps_set (i := 2) sc_round_of.nd rfl (.inl rfl) (pv 1))
      (pss_cons (ps_set (i := 3) sc_round_of.nd rfl (.inl rfl) (pe_op op_sub (pv 0) (pe_op op_mulX (pv 1) (pv 1))))
      (pss_cons (ps_set (i := 4) sc_round_of.nd rfl (.inl rfl) (pe_lst pa_nil))
      (pss_cons (ps_while PassesOwn.never (pt_cmpR op_ne (pv 3) pe_int (nomark _))
        (pss_cons (ps_set (i := 5) sc_round_of.nd rfl (.inl rfl) (pe_op op_fdivW (pe_op op_add (pv 1) (pv 2)) (pv 3)))
      (pss_cons (ps_expr (pe_bm PySem.F.plainAttrs_list PySem.F.slot_list_append PySem.F.type_list_append mt_append (pv 4) (pa_cons (pv 5) pa_nil)))
      (pss_cons (ps_set (i := 2) sc_round_of.nd rfl (.inl rfl) (pe_op op_sub (pe_op op_mulX (pv 5) (pv 3)) (pv 2)))
      (pss_one (ps_set (i := 3) sc_round_of.nd rfl (.inl rfl) (pe_op op_fdivW (pe_op op_sub (pv 0) (pe_op op_mulX (pv 2) (pv 2))) (pv 3))))))))
      (pss_cons (ps_expr (pe_bm PySem.F.plainAttrs_list PySem.F.slot_list_append PySem.F.type_list_append mt_append (pv 4) (pa_cons (pe_op op_mulX pe_int (pv 1)) pa_nil)))
      (pss_one (ps_ret (pv 4))))))))), ?_⟩
    have S0 := small_at R 0
    have r0 := S0.r0
    have r1 := S0.r1
    refine ⟨_, rfl, n, rfl, n0, R.big, _, rfl, ?_⟩
    refine ⟨_, rfl, _, rfl, _, rfl, _, _, rfl, rfl, mx 30 30 (by omega) (by omega), _, _, rfl, rfl, ?_⟩
    refine ⟨Nat.zero_le _, fun p np => ?_⟩
    refine ⟨fun m σ H' => ∃ (i : Nat) (y : Option V), σ = [some (.int n), some (.int (rt n)), some (.int (sP n (rt n) i)), some (.int (sQ n (rt n) i)), some (.ref p), y] ∧ i + m = l ∧ Same H H' ∧ H' p = some (.lst ((quots n i).map V.int)),
      ⟨l, 0, none, rfl, by omega, same_new np, upd_same⟩, fun m σ H' hW => ?_⟩
    obtain ⟨i, y, rfl, em, sm, hp⟩ := hW
    have S := small_at R i
    have p0 := S.p0
    have p1 := S.p1
    have q0 := S.q0
    have q1 := S.q1
    have T1 := small_at R (i + 1)
    have t0 := T1.p0
    have t1 := T1.p1
    refine ⟨_, rfl, rfl, _, rfl, if2 (fun hc => ?_) (fun hc => ?_)⟩
    · have hne : sQ n (rt n) i ≠ 1 := fun e => by
        rw [e] at hc
        exact absurd hc (by decide)
      have hil : i < l := by
        by_cases e : i < l
        · exact e
        · have : i = l := by omega
          rw [this] at hne
          exact absurd L.one hne
      refine ⟨fun σ' H'' => ∃ m', m' < m ∧ ∃ (i : Nat) (y : Option V), σ' = [some (.int n), some (.int (rt n)), some (.int (sP n (rt n) i)), some (.int (sQ n (rt n) i)), some (.ref p), y] ∧ i + m' = l ∧ Same H H'' ∧ H'' p = some (.lst ((quots n i).map V.int)), fun _ _ h => h, ?_⟩
      have a0 := S.a0
      have a1 := S.a1
      have aq0 := S.aq0
      have aq1 := S.aq1
      refine ⟨_, rfl, _, rfl, _, _, rfl, rfl, _, rfl, _, _, rfl, rfl, dv q0 (by omega), ?_⟩
      refine ⟨.ref p, rfl, .inl ⟨rfl, _, .inl (.inl hp)⟩, _, rfl, p, _, _, rfl, rfl, hp, sz (by rw [List.length_map, quots_len]; omega), ?_⟩
      refine ⟨_, rfl, _, rfl, _, _, rfl, rfl, mx 30 30 (show (aq n (rt n) i).natAbs < _ by omega) (by omega), _, rfl, _, _, rfl, rfl, ?_⟩
      refine ⟨_, rfl, _, rfl, _, rfl, _, _, rfl, rfl, mx 30 30 (show (sP n (rt n) (i + 1)).natAbs < _ by omega) (show (sP n (rt n) (i + 1)).natAbs < _ by omega), _, _, rfl, rfl, _, rfl, _, _, rfl, rfl, dv q0 (by omega), ?_⟩
      refine ⟨m - 1, by omega, i + 1, _, rfl, by omega, same_mut sm np, ?_⟩
      rw [upd_same, quots_succ, List.map_append]
      rfl
    · have he : sQ n (rt n) i = 1 := by
        by_cases e : sQ n (rt n) i = 1
        · exact e
        · rw [decide_eq_false (fun z => e (V.int.inj z))] at hc
          exact absurd hc (by decide)
      have hil : i = l := by
        by_cases e : i < l
        · exact absurd he (L.no i e)
        · omega
      subst hil
      refine ⟨.ref p, rfl, .inl ⟨rfl, _, .inl (.inl hp)⟩, _, rfl, _, _, rfl, rfl, mx 30 30 (by decide) (by omega), p, _, _, rfl, rfl, hp, sz (by rw [List.length_map, quots_len]; omega), ?_⟩
      refine ⟨_, rfl, q i p _ L (same_mut sm np) np ?_⟩
      rw [upd_same, quots_succ, List.map_append, last_a G L.one]
      rfl
end
/-! ladder -/
section
variable {P : Program} {w : World} {K : PySem.W.Frag} {mg : Str → Option Value} {base : Heap}
def spLadder : Sp := fun vs H Q _ => ∃ n : Int, vs = [.int n] ∧ Rootn n ∧ ∀ l p t H', Last n (rt n) l → Same H H' → H p = none → H t = none → t ≠ p → H' p = some (.lst ((quots n (l + 1)).map V.int)) → H' t = some (.tup [.int (rt n), .ref p]) → Q (.ref t) H'
theorem ok_ladder {f : Addr} {fd : FuncData} (F : Fun K "ladder" "ladder" s_ladder f fd) (D_need_root : Dn P w K mg base "need_root" 3 ["number"] [] spNeedRoot) (D_rooted : Dn P w K mg base "rooted" 1 ["number"] [] spRooted)
    (D_round_of : Dn P w K mg base "round_of" 2 ["number"] [] spRoundOf) : FnOk P w K mg base CX0 4 f fd ["number"] spLadder := by
  refine F.ok sc_ladder (fun vs H Q E h => ?_) (fun cdv A outer s H vs Q E hr h => ?_)
  · obtain ⟨n, rfl, _⟩ := h
    rfl
  · obtain ⟨n, rfl, R, q⟩ := h
    refine ⟨_, (pss_cons (ps_expr (pe_callD D_need_root hr (by decide) (by rfl) (pa_cons (pv 0) pa_nil)))
      (pss_one (ps_ret (pe_tup (pa_cons (pe_callD D_rooted hr (by decide) (by rfl) (pa_cons (pv 0) pa_nil)) (pa_cons (pe_callD D_round_of hr (by decide) (by rfl) (pa_cons (pv 0) pa_nil)) pa_nil)))))), ?_⟩
    refine ⟨_, rfl, n, rfl, R, _, rfl, n, rfl, by have := R.two; omega, R.big, _, rfl, n, rfl, R, fun l p H1 L sm np hp => ⟨(by show 2 ≤ sizeLine; decide), fun t nt => ?_⟩⟩
    exact q l p t _ L (sm.trans (same_new nt)) np (sm.free nt) (fun e => by rw [e, hp] at nt; cases nt) (kp hp nt _) upd_same
end
/-! the fractions -/
section
variable {P : Program} {w : World} {K : PySem.W.Frag} {mg : Str → Option Value} {base : Heap}
/-- as are the first m fractions' places -/
structure Frs (n : Int) (H : Hp) (as : List Addr) (m : Nat) : Prop where
  len : as.length = m
  at_ : ∀ i t, as[i]? = some t → H t = some (pr (hh n (rt n) i) (kk n (rt n) i))
theorem Frs.same {n : Int} {H H' : Hp} {as : List Addr} {m : Nat} (h : Frs n H as m) (s : Same H H') : Frs n H' as m := ⟨h.len, fun i t e => s _ _ (h.at_ i t e)⟩
theorem nat_big {x : Int} {b : Nat} (h0 : 0 ≤ x) (h : x < 2 ^ b) : x.natAbs < 2 ^ b := by
  have e : ((2 ^ b : Nat) : Int) = (2 : Int) ^ b := by simp
  rw [← e] at h
  omega
theorem big10 (i : Nat) : (2 : Int) ^ (10 * (i + 1)) ≤ 2 ^ (10 * (i + 1)) := Int.le_refl _
theorem hk_big {n : Int} (R : Rootn n) (i : Nat) : (hh n (rt n) i).natAbs < 2 ^ (10 * (i + 1)) ∧ (kk n (rt n) i).natAbs < 2 ^ (10 * (i + 1)) ∧ (gh n (rt n) i).natAbs < 2 ^ (10 * (i + 1)) ∧ (gk n (rt n) i).natAbs < 2 ^ (10 * (i + 1)) := by
  have G := R.good
  have r := R.r316
  have a := hh_small G (b := 10) (by omega) i
  have b := pos2 G i
  have b1 := b.h1
  have b2 := b.k1
  have b3 := b.gh1
  have b4 := b.gk0
  obtain ⟨c, d⟩ := kk_hh G i
  have e := gh_le G i
  have f := gk_le G i
  exact ⟨nat_big (by omega) a, nat_big (by omega) (Int.lt_of_le_of_lt c a), nat_big (by omega) (Int.lt_of_le_of_lt e a), nat_big (by omega) (Int.lt_of_le_of_lt (Int.le_trans f c) a)⟩
def spFracsOf : Sp := fun vs H Q _ => ∃ n m : Int, vs = [.int n, .int m] ∧ Rootn n ∧ 0 ≤ m ∧ m ≤ 500000 ∧ ∀ p as H', Same H H' → H p = none → H' p = some (.lst (as.map V.ref)) → Frs n H' as m.toNat → Q (.ref p) H'
theorem ok_fractions_of {f : Addr} {fd : FuncData} (F : Fun K "fractions_of" "fractions_of" s_fractions_of f fd) (T : Tb mg) (D_rooted : Dn P w K mg base "rooted" 1 ["number"] [] spRooted) (D_round_of : Dn P w K mg base "round_of" 2 ["number"] [] spRoundOf) :
    FnOk P w K mg base CX0 3 f fd ["number", "many"] spFracsOf := by
  refine F.ok sc_fractions_of (fun vs H Q E h => ?_) (fun cdv A outer s H vs Q E hr h => ?_)
  · obtain ⟨n, m, rfl, _⟩ := h
    rfl
  · obtain ⟨n, m, rfl, R, m0, m1, q⟩ := h
    have n0 : 0 ≤ n := by have := R.two; omega
    have G := R.good
    refine ⟨_, (pss_cons (ps_set (i := 2) sc_fractions_of.nd rfl (.inl rfl) (pe_callD D_round_of hr (by decide) (by rfl) (pa_cons (pv 0) pa_nil)))
      (pss_cons (ps_set (i := 3) sc_fractions_of.nd rfl (.inl rfl) (pe_tup (pa_cons pe_int (pa_cons pe_int pa_nil))))
      (pss_cons (ps_set (i := 4) sc_fractions_of.nd rfl (.inl rfl) (pe_tup (pa_cons (pe_callD D_rooted hr (by decide) (by rfl) (pa_cons (pv 0) pa_nil)) (pa_cons pe_int pa_nil))))
      (pss_cons (ps_set (i := 5) sc_fractions_of.nd rfl (.inl rfl) (pe_lst pa_nil))
      (pss_cons (ps_for PassesOwn.never rfl (pi_range1 (by rfl) T.b_range (pa_cons (pv 1) pa_nil)) (pg_name (i := 6) sc_fractions_of.nd rfl (.inl rfl))
        (pss_cons (ps_expr (pe_bm PySem.F.plainAttrs_list PySem.F.slot_list_append PySem.F.type_list_append mt_append (pv 5) (pa_cons (pv 4) pa_nil)))
      (pss_cons (ps_set (i := 7) sc_fractions_of.nd rfl (.inl rfl) (pe_ix (ixl (K := K) rfl) (pv 2) (pe_op op_mod (pv 6) (pe_callB (id := "len") (len_rule (K := K) rfl) (by rfl) T.b_len (by decide +kernel) (pa_cons (pv 2) pa_nil))) (fun _ _ => rfl)))
      (pss_cons (ps_set (i := 8) sc_fractions_of.nd rfl (.inl rfl) (pe_tup (pa_cons (pe_op op_add (pe_op op_mulX (pv 7) (pe_ix (ixt (K := K) rfl) (pv 4) pe_int (fun _ _ => rfl))) (pe_ix (ixt (K := K) rfl) (pv 3) pe_int (fun _ _ => rfl))) (pa_cons (pe_op op_add (pe_op op_mulX (pv 7) (pe_ix (ixt (K := K) rfl) (pv 4) pe_int (fun _ _ => rfl))) (pe_ix (ixt (K := K) rfl) (pv 3) pe_int (fun _ _ => rfl))) pa_nil))))
      (pss_cons (ps_set (i := 3) sc_fractions_of.nd rfl (.inl rfl) (pv 4))
      (pss_one (ps_set (i := 4) sc_fractions_of.nd rfl (.inl rfl) (pv 8))))))))
      (pss_one (ps_ret (pv 5)))))))), ?_⟩
    refine ⟨_, rfl, n, rfl, R, fun l p0 H1 L s1 np0 hp0 => ?_⟩
    have lsm := last_small R L
    refine ⟨(by show 2 ≤ sizeLine; decide), fun t1 nt1 => ?_⟩
    have s2 : Same H1 (upd H1 t1 (pr 1 0)) := same_new nt1
    have ht1 : (upd H1 t1 (pr 1 0)) t1 = some (pr 1 0) := upd_same
    show tSeq _ _ _ _ (upd H1 t1 (pr 1 0))
    generalize (upd H1 t1 (pr 1 0)) = H2 at *
    refine ⟨_, rfl, n, rfl, n0, R.big, (by show 2 ≤ sizeLine; decide), fun t2 nt2 => ?_⟩
    have s3 : Same H2 (upd H2 t2 (pr (rt n) 1)) := same_new nt2
    have ht2 : (upd H2 t2 (pr (rt n) 1)) t2 = some (pr (rt n) 1) := upd_same
    show tSeq _ _ _ _ (upd H2 t2 (pr (rt n) 1))
    generalize (upd H2 t2 (pr (rt n) 1)) = H3 at *
    refine ⟨Nat.zero_le _, fun p np => ?_⟩
    have s4 : Same H3 (upd H3 p (.lst [])) := same_new np
    have s14 := s1.trans (s2.trans (s3.trans s4))
    have np1 : H p = none := (s1.trans (s2.trans s3)).free np
    have np2 : H1 p = none := (s2.trans s3).free np
    have np0p : p0 ≠ p := ne_of_none hp0 np2
    refine ⟨_, rfl, m, rfl, by omega, by omega, for_range (lo := 0) (n := m.toNat) (fun i σ H' => ∃ (t1 t2 : Addr) (as : List Addr) (y6 y7 y8 : Option V), σ = [some (.int n), some (.int m), some (.ref p0), some (.ref t1), some (.ref t2), some (.ref p), y6, y7, y8] ∧ Same H H' ∧
        H' p0 = some (.lst ((quots n (l + 1)).map V.int)) ∧ H' t1 = some (pr (gh n (rt n) i) (gk n (rt n) i)) ∧ H' t2 = some (pr (hh n (rt n) i) (kk n (rt n) i)) ∧ H' p = some (.lst (as.map V.ref)) ∧ Frs n H' as i)
      ⟨t1, t2, [], none, none, none, rfl, s14, s4 _ _ (s3 _ _ (s2 _ _ hp0)), s4 _ _ (s3 _ _ ht1), s4 _ _ ht2, upd_same, rfl, fun i t e => by simp at e⟩ (fun i σ H' hi hG => ?_) (fun σ H' hG => ?_)⟩
    · obtain ⟨t1, t2, as, y6, y7, y8, rfl, sm, hp0, ht1, ht2, hp, fr⟩ := hG
      have d0 : p0 ≠ p := np0p
      have d1 : t1 ≠ p := ne_of ht1 hp (by intro z; cases z)
      have d2 : t2 ≠ p := ne_of ht2 hp (by intro z; cases z)
      have hlen := fr.len
      -- found.append(here)
      refine ⟨.ref p, rfl, .inl ⟨rfl, _, SqL.of hp⟩, _, rfl, p, _, _, rfl, rfl, hp, sz (by rw [List.length_map]; omega), ?_⟩
      have hp0' := (upd_ne (o := .lst (as.map V.ref ++ [.ref t2])) d0).trans hp0
      have ht1' := (upd_ne (o := .lst (as.map V.ref ++ [.ref t2])) d1).trans ht1
      have ht2' := (upd_ne (o := .lst (as.map V.ref ++ [.ref t2])) d2).trans ht2
      have hp' : (upd H' p (.lst (as.map V.ref ++ [.ref t2]))) p = some (.lst (as.map V.ref ++ [.ref t2])) := upd_same
      have sm' : Same H (upd H' p (.lst (as.map V.ref ++ [.ref t2]))) := same_mut sm np1
      have fr' : Frs n (upd H' p (.lst (as.map V.ref ++ [.ref t2]))) (as ++ [t2]) (i + 1) := ⟨by rw [List.length_append, hlen]; rfl, fun j t e => by
        by_cases hj : j < as.length
        · rw [List.getElem?_append_left hj] at e
          have z := fr.at_ j t e
          rw [upd_ne (ne_of z hp (by intro z; cases z))]
          exact z
        · rw [List.getElem?_append_right (by omega)] at e
          have hj0 : j - as.length = 0 := by
            by_cases q : j - as.length = 0
            · exact q
            · rw [List.getElem?_eq_none (by rw [List.length_singleton]; omega)] at e
              cases e
          rw [hj0] at e
          have et : t2 = t := Option.some.inj e
          have ej : j = i := by omega
          subst et ej
          exact ht2'⟩
      generalize (upd H' p (.lst (as.map V.ref ++ [.ref t2]))) = H4 at *
      -- the quotient
      have hln : ((quots n (l + 1)).map V.int).length = l + 1 := by rw [List.length_map, quots_len]
      have hat : atI ((quots n (l + 1)).map V.int) ((0 + (i : Int)) % (((quots n (l + 1)).map V.int).length : Int)) = some (.int (aq n (rt n) i)) := by
        rw [hln, show (0 + (i : Int)) % (((l + 1 : Nat)) : Int) = ((i % (l + 1) : Nat) : Int) by rw [Int.zero_add]; rfl]
        rw [← aq_mod G L.one i]
        exact atI_nat (quots_at n (Nat.mod_lt _ (by omega)))
      refine ⟨_, rfl, _, rfl, _, rfl, p0, _, rfl, .inl (SqL.of hp0'), _, _, rfl, rfl, (by show (0 : Int) < (((quots n (l + 1)).map V.int).length : Int); rw [hln]; omega), p0, _, _, _, rfl, rfl, SqL.of hp0', hat, ?_⟩
      -- after
      obtain ⟨b1, b2, b3, b4⟩ := hk_big R i
      have S := small_at R i
      have a0 := S.a0
      have a1 := S.a1
      have ab : (aq n (rt n) i).natAbs < 2 ^ 10 := by omega
      have q1 := sq_pr (K := K) ht1'
      have q2 := sq_pr (K := K) ht2'
      refine ⟨_, rfl, _, rfl, _, _, _, _, rfl, rfl, q2, at0, _, _, rfl, rfl, mx 10 (10 * (i + 1)) ab b1 (by omega), _, rfl, _, _, _, _, rfl, rfl, q1, at0, _, _, rfl, rfl, _, rfl, _, rfl, _, _, _, _, rfl, rfl, q2, at1, _, _, rfl, rfl, mx 10 (10 * (i + 1)) ab b2 (by omega), _, rfl, _, _, _, _, rfl, rfl, q1, at1, _, _, rfl, rfl, (by show 2 ≤ sizeLine; decide), fun t3 nt3 => ?_⟩
      have s5 : Same H4 (upd H4 t3 (pr (hh n (rt n) (i + 1)) (kk n (rt n) (i + 1)))) := same_new nt3
      refine ⟨_, rfl, _, rfl, t2, t3, as ++ [t2], _, _, _, rfl, sm'.trans s5, s5 _ _ hp0', s5 _ _ ht2', upd_same, ?_, fr'.same s5⟩
      rw [List.map_append]
      exact s5 _ _ hp'
    · obtain ⟨t1, t2, as, y6, y7, y8, rfl, sm, hp0, ht1, ht2, hp, fr⟩ := hG
      exact ⟨_, rfl, q p as _ sm np1 hp fr⟩
end
/-! fractions, of what is looked at first -/
section
variable {P : Program} {w : World} {K : PySem.W.Frag} {mg : Str → Option Value} {base : Heap}
def spFractions : Sp := fun vs H Q _ => ∃ n m : Int, vs = [.int n, .int m] ∧ Rootn n ∧ 0 ≤ m ∧ m ≤ 200 ∧ ∀ p as H', Same H H' → H p = none → H' p = some (.lst (as.map V.ref)) → Frs n H' as m.toNat → Q (.ref p) H'
theorem ok_fractions {f : Addr} {fd : FuncData} (F : FunD K "fractions" "fractions" (defArgs s_fractions) (defBody s_fractions) (defScope s_fractions) [.int 10] [] f fd) (T : Tb mg) (D_need_number : Dn P w K mg base "need_number" 2 ["thing", "least", "most"] [] spNeed) (D_need_root : Dn P w K mg base "need_root" 3 ["number"] [] spNeedRoot)
    (D_fractions_of : Dn P w K mg base "fractions_of" 3 ["number", "many"] [] spFracsOf) : FnOk P w K mg base CX0 4 f fd ["number", "many"] spFractions := by
  refine F.ok sc_fractions (fun vs H Q E h => ?_) (fun cdv A outer s H vs Q E hr h => ?_)
  · obtain ⟨n, m, rfl, _⟩ := h
    rfl
  · obtain ⟨n, m, rfl, R, m0, m1, q⟩ := h
    refine ⟨_, PSs.nox (pss_cons (ps_expr (pe_callD D_need_number hr (by decide) (by rfl) (pa_cons (pv 0) (pa_cons pe_int (pa_cons (pe_globI (by rfl) T.g_MOST) pa_nil)))))
      (pss_cons (ps_expr (pe_callD D_need_number hr (by decide) (by rfl) (pa_cons (pv 1) (pa_cons pe_int (pa_cons (pe_globI (by rfl) T.g_MOST_FRACTIONS) pa_nil)))))
      (pss_cons (ps_expr (pe_callD D_need_root hr (by decide) (by rfl) (pa_cons (pv 0) pa_nil)))
      (pss_one (ps_ret (pe_callD D_fractions_of hr (by decide) (by rfl) (pa_cons (pv 0) (pa_cons (pv 1) pa_nil)))))))), ?_⟩
    refine ⟨_, rfl, n, 2, .int 100000, rfl, R.two, .inr ⟨_, rfl, R.most⟩, ?_⟩
    refine ⟨_, rfl, m, 0, .int 200, rfl, m0, .inr ⟨_, rfl, m1⟩, ?_⟩
    exact ⟨_, rfl, n, rfl, R, _, rfl, _, rfl, n, m, rfl, R, m0, by omega, q⟩
end
/-! rootladder.pairs -/
section
variable {P : Program} {w : World} {K : PySem.W.Frag} {mg : Str → Option Value} {base : Heap}
def wth (n x y : Int) : Int := x * x - n * y * y
def pr1 (n x y z v : Int) : Int := x * z + n * y * v
def pr2 (x y z v : Int) : Int := x * v + y * z
theorem n17 {n : Int} (h0 : 0 ≤ n) (h1 : n ≤ 100000) : n.natAbs < 2 ^ 17 := by omega
theorem pr_big {n x y z v : Int} {B C : Nat} (h0 : 0 ≤ n) (h1 : n ≤ 100000) (hx : x.natAbs < 2 ^ B) (hy : y.natAbs < 2 ^ B) (hz : z.natAbs < 2 ^ C) (hv : v.natAbs < 2 ^ C) : (pr1 n x y z v).natAbs < 2 ^ (B + C + 18) ∧ (pr2 x y z v).natAbs < 2 ^ (B + C + 18) := by
  have a1 := wide_lt hx hz
  have a2 := wide_lt (wide_lt (n17 h0 h1) hy) hv
  have a3 := wide_lt hx hv
  have a4 := wide_lt hy hz
  have e1 : 2 ^ (17 + B + C) = 2 ^ 17 * 2 ^ (B + C) := by rw [show 17 + B + C = 17 + (B + C) by omega, Nat.pow_add]
  have e2 : 2 ^ (B + C + 18) = 2 ^ (B + C) * 2 ^ 18 := Nat.pow_add ..
  unfold pr1 pr2
  rw [e1] at a2
  rw [e2]
  generalize 2 ^ (B + C) = D at *
  omega
def spWorthOf : Sp := fun vs H Q _ => ∃ (n x y : Int) (t : Addr) (B : Nat), vs = [.int n, .ref t] ∧ 0 ≤ n ∧ n ≤ 100000 ∧ H t = some (pr x y) ∧ x.natAbs < 2 ^ B ∧ y.natAbs < 2 ^ B ∧ B ≤ 40000000 ∧ Q (.int (wth n x y)) H
theorem ok_worth_of {f : Addr} {fd : FuncData} (F : Fun K "worth_of" "worth_of" s_worth_of f fd) : FnOk P w K mg base CX0 1 f fd ["number", "pair"] spWorthOf := by
  refine F.ok sc_worth_of (fun vs H Q E h => ?_) (fun cdv A outer s H vs Q E hr h => ?_)
  · obtain ⟨n, x, y, t, B, rfl, _⟩ := h
    rfl
  · obtain ⟨n, x, y, t, B, rfl, n0, n1, ht, hx, hy, hB, q⟩ := h
    refine ⟨_, (pss_one (ps_ret (pe_op op_sub (pe_op op_mulX (pe_ix (ixt (K := K) rfl) (pv 1) pe_int (fun _ _ => rfl)) (pe_ix (ixt (K := K) rfl) (pv 1) pe_int (fun _ _ => rfl))) (pe_op op_mulX (pe_op op_mulX (pv 0) (pe_ix (ixt (K := K) rfl) (pv 1) pe_int (fun _ _ => rfl))) (pe_ix (ixt (K := K) rfl) (pv 1) pe_int (fun _ _ => rfl)))))), ?_⟩
    have st : SqT K H t [.int x, .int y] := .inl (.inl ht)
    refine ⟨_, rfl, _, _, _, _, rfl, rfl, st, at0, _, rfl, _, _, _, _, rfl, rfl, st, at0, _, _, rfl, rfl, mx B B hx hx (by omega), ?_⟩
    exact ⟨_, rfl, _, rfl, _, _, _, _, rfl, rfl, st, at1, _, _, rfl, rfl, mx 17 B (n17 n0 n1) hy (by omega), _, rfl, _, _, _, _, rfl, rfl, st, at1, _, _, rfl, rfl, mx (17 + B) B (wide_lt (n17 n0 n1) hy) hy (by omega), _, _, rfl, rfl, q⟩
end
section
variable {P : Program} {w : World} {K : PySem.W.Frag} {mg : Str → Option Value} {base : Heap}
def spProduct : Sp := fun vs H Q _ => ∃ (n x y z v : Int) (t u : Addr) (B C : Nat), vs = [.int n, .ref t, .ref u] ∧ 0 ≤ n ∧ n ≤ 100000 ∧ H t = some (pr x y) ∧ H u = some (pr z v) ∧ x.natAbs < 2 ^ B ∧ y.natAbs < 2 ^ B ∧ z.natAbs < 2 ^ C ∧ v.natAbs < 2 ^ C ∧ B + C ≤ 90000000 ∧
  ∀ p, H p = none → Q (.ref p) (upd H p (pr (pr1 n x y z v) (pr2 x y z v)))
theorem ok_product {f : Addr} {fd : FuncData} (F : Fun K "product" "product" s_product f fd) : FnOk P w K mg base CX0 1 f fd ["number", "one", "other"] spProduct := by
  refine F.ok sc_product (fun vs H Q E h => ?_) (fun cdv A outer s H vs Q E hr h => ?_)
  · obtain ⟨n, x, y, z, v, t, u, B, C, rfl, _⟩ := h
    rfl
  · obtain ⟨n, x, y, z, v, t, u, B, C, rfl, n0, n1, ht, hu, hx, hy, hz, hv, hB, q⟩ := h
    refine ⟨_, (pss_one (ps_ret (pe_tup (pa_cons (pe_op op_add (pe_op op_mulX (pe_ix (ixt (K := K) rfl) (pv 1) pe_int (fun _ _ => rfl)) (pe_ix (ixt (K := K) rfl) (pv 2) pe_int (fun _ _ => rfl))) (pe_op op_mulX (pe_op op_mulX (pv 0) (pe_ix (ixt (K := K) rfl) (pv 1) pe_int (fun _ _ => rfl))) (pe_ix (ixt (K := K) rfl) (pv 2) pe_int (fun _ _ => rfl)))) (pa_cons (pe_op op_add (pe_op op_mulX (pe_ix (ixt (K := K) rfl) (pv 1) pe_int (fun _ _ => rfl)) (pe_ix (ixt (K := K) rfl) (pv 2) pe_int (fun _ _ => rfl))) (pe_op op_mulX (pe_ix (ixt (K := K) rfl) (pv 1) pe_int (fun _ _ => rfl)) (pe_ix (ixt (K := K) rfl) (pv 2) pe_int (fun _ _ => rfl)))) pa_nil))))), ?_⟩
    have st : SqT K H t [.int x, .int y] := .inl (.inl ht)
    have su : SqT K H u [.int z, .int v] := .inl (.inl hu)
    refine ⟨_, rfl, _, _, _, _, rfl, rfl, st, at0, _, rfl, _, _, _, _, rfl, rfl, su, at0, _, _, rfl, rfl, mx B C hx hz (by omega), ?_⟩
    refine ⟨_, rfl, _, rfl, _, _, _, _, rfl, rfl, st, at1, _, _, rfl, rfl, mx 17 B (n17 n0 n1) hy (by omega), _, rfl, _, _, _, _, rfl, rfl, su, at1, _, _, rfl, rfl, mx (17 + B) C (wide_lt (n17 n0 n1) hy) hv (by omega), _, _, rfl, rfl, ?_⟩
    refine ⟨_, rfl, _, _, _, _, rfl, rfl, st, at0, _, rfl, _, _, _, _, rfl, rfl, su, at1, _, _, rfl, rfl, mx B C hx hv (by omega), ?_⟩
    exact ⟨_, rfl, _, _, _, _, rfl, rfl, st, at1, _, rfl, _, _, _, _, rfl, rfl, su, at0, _, _, rfl, rfl, mx B C hy hz (by omega), _, _, rfl, rfl, (by show 2 ≤ sizeLine; decide), q⟩
end
/-! need_pair, of a pair -/
section
variable {P : Program} {w : World} {K : PySem.W.Frag} {mg : Str → Option Value} {base : Heap}
theorem kit_tt {K : PySem.W.Frag} : PySem.W.kitOne K (.type "tuple") (.type "tuple") = some true := kit_ty (by decide +kernel)
theorem ty_pr {K : PySem.W.Frag} {H : Hp} {t : Addr} {xs : List V} (h : H t = some (.tup xs)) : TyX K H (.ref t) (.type "tuple") := .base (.tup h)
def spNeedPair : Sp := fun vs H Q _ => ∃ (x y : Int) (t : Addr), vs = [.ref t] ∧ H t = some (pr x y) ∧ Q .non H
theorem ok_need_pair {f : Addr} {fd : FuncData} (F : Fun K "need_pair" "need_pair" s_need_pair f fd) (T : Tb mg) (D_is_number : Dn P w K mg base "is_number" 1 ["thing"] [] spIsNum) : FnOk P w K mg base CX0 2 f fd ["thing"] spNeedPair := by
  refine F.ok sc_need_pair (fun vs H Q E h => ?_) (fun cdv A outer s H vs Q E hr h => ?_)
  · obtain ⟨x, y, t, rfl, _⟩ := h
    rfl
  · obtain ⟨x, y, t, rfl, ht, q⟩ := h
    refine ⟨_, (pss_one (ps_if (PW.pt (pw_or (pt_not (pt_val (pe_callB (id := "isinstance") (isi_rule (K := K) rfl) (by rfl) T.b_isinstance (by decide +kernel) (pa_cons (pv 0) (pa_cons (pe_bltn (v := .ty "tuple") (by rfl) T.b_tuple (by decide +kernel) rfl) pa_nil))))) (pw_or (pt_cmpR op_ne (pe_callB (id := "len") (len_rule (K := K) rfl) (by rfl) T.b_len (by decide +kernel) (pa_cons (pv 0) pa_nil)) pe_int (nomark _)) (pw_or (pt_not (pt_val (pe_callD D_is_number hr (by decide) (by rfl) (pa_cons (pe_ix (ixt (K := K) rfl) (pv 0) pe_int (fun _ _ => rfl)) pa_nil)))) (pw_or1 (pt_not (pt_val (pe_callD D_is_number hr (by decide) (by rfl) (pa_cons (pe_ix (ixt (K := K) rfl) (pv 0) pe_int (fun _ _ => rfl)) pa_nil)))))))))
        (pss_one ps_never) pss_nil)), ?_⟩
    have st : SqT K H t [.int x, .int y] := .inl (.inl ht)
    refine ⟨_, rfl, _, _, _, _, _, rfl, .ty _, ty_pr ht, kit_tt, _, rfl, ifF rfl ?_⟩
    refine ⟨_, rfl, t, _, rfl, .inr st, rfl, _, rfl, ifF rfl ?_⟩
    refine ⟨_, rfl, _, _, _, _, rfl, rfl, st, at0, x, rfl, _, rfl, ifF rfl ?_⟩
    exact ⟨_, rfl, _, _, _, _, rfl, rfl, st, at1, y, rfl, _, rfl, ifF rfl q⟩
end
/-! worth of what is looked at first -/
section
variable {P : Program} {w : World} {K : PySem.W.Frag} {mg : Str → Option Value} {base : Heap}
def spWorth : Sp := fun vs H Q _ => ∃ (n x y : Int) (t : Addr) (B : Nat), vs = [.int n, .ref t] ∧ Rootn n ∧ H t = some (pr x y) ∧ x.natAbs < 2 ^ B ∧ y.natAbs < 2 ^ B ∧ B ≤ 40000000 ∧ Q (.int (wth n x y)) H
theorem ok_worth {f : Addr} {fd : FuncData} (F : Fun K "worth" "worth" s_worth f fd) (D_need_root : Dn P w K mg base "need_root" 3 ["number"] [] spNeedRoot) (D_need_pair : Dn P w K mg base "need_pair" 2 ["thing"] [] spNeedPair)
    (D_worth_of : Dn P w K mg base "worth_of" 1 ["number", "pair"] [] spWorthOf) : FnOk P w K mg base CX0 4 f fd ["number", "pair"] spWorth := by
  refine F.ok sc_worth (fun vs H Q E h => ?_) (fun cdv A outer s H vs Q E hr h => ?_)
  · obtain ⟨n, x, y, t, B, rfl, _⟩ := h
    rfl
  · obtain ⟨n, x, y, t, B, rfl, R, ht, hx, hy, hB, q⟩ := h
    refine ⟨_, (pss_cons (ps_expr (pe_callD D_need_root hr (by decide) (by rfl) (pa_cons (pv 0) pa_nil)))
      (pss_cons (ps_expr (pe_callD D_need_pair hr (by decide) (by rfl) (pa_cons (pv 1) pa_nil)))
      (pss_one (ps_ret (pe_callD D_worth_of hr (by decide) (by rfl) (pa_cons (pv 0) (pa_cons (pv 1) pa_nil))))))), ?_⟩
    exact ⟨_, rfl, n, rfl, R, _, rfl, x, y, t, rfl, ht, _, rfl, _, rfl, n, x, y, t, B, rfl, by have := R.two; omega, R.most, ht, hx, hy, hB, q⟩
end
/-! times -/
section
variable {P : Program} {w : World} {K : PySem.W.Frag} {mg : Str → Option Value} {base : Heap}
def spTimes : Sp := fun vs H Q _ => ∃ (n x y z v : Int) (t u : Addr) (B C : Nat), vs = [.int n, .ref t, .ref u] ∧ Rootn n ∧ H t = some (pr x y) ∧ H u = some (pr z v) ∧ x.natAbs < 2 ^ B ∧ y.natAbs < 2 ^ B ∧ z.natAbs < 2 ^ C ∧ v.natAbs < 2 ^ C ∧ B + C ≤ 90000000 ∧
  ∀ p, H p = none → Q (.ref p) (upd H p (pr (pr1 n x y z v) (pr2 x y z v)))
theorem ok_times {f : Addr} {fd : FuncData} (F : Fun K "times" "times" s_times f fd) (D_need_root : Dn P w K mg base "need_root" 3 ["number"] [] spNeedRoot) (D_need_pair : Dn P w K mg base "need_pair" 2 ["thing"] [] spNeedPair)
    (D_product : Dn P w K mg base "product" 1 ["number", "one", "other"] [] spProduct) : FnOk P w K mg base CX0 4 f fd ["number", "one", "other"] spTimes := by
  refine F.ok sc_times (fun vs H Q E h => ?_) (fun cdv A outer s H vs Q E hr h => ?_)
  · obtain ⟨n, x, y, z, v, t, u, B, C, rfl, _⟩ := h
    rfl
  · obtain ⟨n, x, y, z, v, t, u, B, C, rfl, R, ht, hu, hx, hy, hz, hv, hB, q⟩ := h
    refine ⟨_, (pss_cons (ps_expr (pe_callD D_need_root hr (by decide) (by rfl) (pa_cons (pv 0) pa_nil)))
      (pss_cons (ps_expr (pe_callD D_need_pair hr (by decide) (by rfl) (pa_cons (pv 1) pa_nil)))
      (pss_cons (ps_expr (pe_callD D_need_pair hr (by decide) (by rfl) (pa_cons (pv 2) pa_nil)))
      (pss_one (ps_ret (pe_callD D_product hr (by decide) (by rfl) (pa_cons (pv 0) (pa_cons (pv 1) (pa_cons (pv 2) pa_nil))))))))), ?_⟩
    exact ⟨_, rfl, n, rfl, R, _, rfl, x, y, t, rfl, ht, _, rfl, z, v, u, rfl, hu, _, rfl, _, rfl, _, rfl, n, x, y, z, v, t, u, B, C, rfl, by have := R.two; omega, R.most, ht, hu, hx, hy, hz, hv, hB, q⟩
end
/-! rootladder.solving: the least one -/
section
variable {P : Program} {w : World} {K : PySem.W.Frag} {mg : Str → Option Value} {base : Heap}
def spFirst : Sp := fun vs H Q _ => ∃ n : Int, vs = [.int n] ∧ Rootn n ∧ ∀ l t H', Last n (rt n) l → Same H H' → H' t = some (pr (hh n (rt n) l) (kk n (rt n) l)) → Q (.ref t) H'
theorem ok_first_of {f : Addr} {fd : FuncData} (F : Fun K "first_of" "first_of" s_first_of f fd) (T : Tb mg) (D_round_of : Dn P w K mg base "round_of" 2 ["number"] [] spRoundOf) (D_fractions_of : Dn P w K mg base "fractions_of" 3 ["number", "many"] [] spFracsOf) :
    FnOk P w K mg base CX0 4 f fd ["number"] spFirst := by
  refine F.ok sc_first_of (fun vs H Q E h => ?_) (fun cdv A outer s H vs Q E hr h => ?_)
  · obtain ⟨n, rfl, _⟩ := h
    rfl
  · obtain ⟨n, rfl, R, q⟩ := h
    refine ⟨_, (pss_one (ps_ret (pe_ix (ixl (K := K) rfl) (pe_callD D_fractions_of hr (by decide) (by rfl) (pa_cons (pv 0) (pa_cons (pe_callB (id := "len") (len_rule (K := K) rfl) (by rfl) T.b_len (by decide +kernel) (pa_cons (pe_callD D_round_of hr (by decide) (by rfl) (pa_cons (pv 0) pa_nil)) pa_nil)) pa_nil))) (pe_un un_neg pe_int) (fun _ _ => rfl)))), ?_⟩
    refine ⟨_, rfl, _, rfl, n, rfl, R, fun l p H1 L s1 np hp => ?_⟩
    have lsm := last_small R L
    have hln : ((quots n (l + 1)).map V.int).length = l + 1 := by rw [List.length_map, quots_len]
    refine ⟨p, _, rfl, .inl (SqL.of hp), n, _, rfl, R, by omega, by rw [hln]; omega, fun p2 as H2 s2 np2 hp2 fr => ?_⟩
    rw [hln] at fr
    have flen := fr.len
    rw [Int.toNat_natCast] at flen
    have hl : l < as.length := by omega
    have hat : atI (as.map V.ref) (-1) = some (.ref as[l]) := by
      have e : as = as.take l ++ [as[l]] := by
        rw [← List.take_succ_eq_append_getElem hl, List.take_of_length_le (by omega)]
      have e2 : as.map V.ref = (as.take l).map V.ref ++ [.ref as[l]] := by
        rw [← List.map_singleton, ← List.map_append, ← e]
      rw [e2]
      exact atI_last _ _
    exact ⟨_, rfl, p2, _, _, _, rfl, rfl, SqL.of hp2, hat, q l _ _ L (s1.trans s2) (fr.at_ l _ (List.getElem?_eq_getElem hl))⟩
theorem wth_first {n : Int} {l : Nat} (R : Rootn n) (L : Last n (rt n) l) : wth n (hh n (rt n) l) (kk n (rt n) l) = - sg l := by
  unfold wth
  rw [Int.mul_assoc]
  exact first_worth R.good L
theorem sg_odd {l : Nat} (h : l % 2 = 1) : sg l = -1 := by
  rcases sg_mod l with ⟨e, _⟩ | ⟨_, s⟩
  · omega
  · exact s
theorem sg_even {l : Nat} (h : ¬ l % 2 = 1) : sg l = 1 := by
  rcases sg_mod l with ⟨_, s⟩ | ⟨e, _⟩
  · exact s
  · omega
def spLeast : Sp := fun vs H Q _ => ∃ n : Int, vs = [.int n] ∧ Rootn n ∧ ∀ l t H', Last n (rt n) l → Same H H' → H' t = some (pr (leastP n (rt n) l).1 (leastP n (rt n) l).2) → Q (.ref t) H'
theorem ok_least_one_of {f : Addr} {fd : FuncData} (F : Fun K "least_one_of" "least_one_of" s_least_one_of f fd) (D_first_of : Dn P w K mg base "first_of" 4 ["number"] [] spFirst) (D_worth_of : Dn P w K mg base "worth_of" 1 ["number", "pair"] [] spWorthOf)
    (D_product : Dn P w K mg base "product" 1 ["number", "one", "other"] [] spProduct) : FnOk P w K mg base CX0 5 f fd ["number"] spLeast := by
  refine F.ok sc_least_one_of (fun vs H Q E h => ?_) (fun cdv A outer s H vs Q E hr h => ?_)
  · obtain ⟨n, rfl, _⟩ := h
    rfl
  · obtain ⟨n, rfl, R, q⟩ := h
    have n0 : 0 ≤ n := by have := R.two; omega
    refine ⟨_, (pss_cons (ps_set (i := 1) sc_least_one_of.nd rfl (.inl rfl) (pe_callD D_first_of hr (by decide) (by rfl) (pa_cons (pv 0) pa_nil)))
      (pss_cons (ps_if (pt_cmpR op_eq (pe_callD D_worth_of hr (by decide) (by rfl) (pa_cons (pv 0) (pa_cons (pv 1) pa_nil))) pe_int (nomark _))
        (pss_one (ps_ret (pv 1))) pss_nil)
      (pss_one (ps_ret (pe_callD D_product hr (by decide) (by rfl) (pa_cons (pv 0) (pa_cons (pv 1) (pa_cons (pv 1) pa_nil)))))))), ?_⟩
    refine ⟨_, rfl, n, rfl, R, fun l t H1 L s1 ht => ?_⟩
    have lsm := last_small R L
    obtain ⟨b1, b2, _, _⟩ := hk_big R l
    have hw := wth_first R L
    refine ⟨_, rfl, _, rfl, n, _, _, t, 10 * (l + 1), rfl, n0, R.most, ht, b1, b2, by omega, rfl, _, rfl, if2 (fun hc => ?_) (fun hc => ?_)⟩
    · rw [dec_int, hw, decide_eq_true_eq] at hc
      have ho : l % 2 = 1 := by
        by_cases e : l % 2 = 1
        · exact e
        · rw [sg_even e] at hc
          exact absurd hc (by decide)
      refine ⟨_, rfl, q l t _ L s1 ?_⟩
      unfold leastP
      rw [if_pos ho]
      exact ht
    · rw [dec_int, hw, decide_eq_false_iff_not] at hc
      have he : ¬ l % 2 = 1 := fun e => by
        rw [sg_odd e] at hc
        exact hc rfl
      refine ⟨_, rfl, _, rfl, _, rfl, n, _, _, _, _, t, t, 10 * (l + 1), 10 * (l + 1), rfl, n0, R.most, ht, ht, b1, b2, b1, b2, by omega, fun p np => q l p _ L (s1.trans (same_new np)) ?_⟩
      unfold leastP
      rw [if_neg he]
      exact upd_same
theorem ok_least_one {f : Addr} {fd : FuncData} (F : Fun K "least_one" "least_one" s_least_one f fd) (D_need_root : Dn P w K mg base "need_root" 3 ["number"] [] spNeedRoot) (D_least_one_of : Dn P w K mg base "least_one_of" 5 ["number"] [] spLeast) :
    FnOk P w K mg base CX0 6 f fd ["number"] spLeast := by
  refine F.ok sc_least_one (fun vs H Q E h => ?_) (fun cdv A outer s H vs Q E hr h => ?_)
  · obtain ⟨n, rfl, _⟩ := h
    rfl
  · obtain ⟨n, rfl, R, q⟩ := h
    refine ⟨_, (pss_cons (ps_expr (pe_callD D_need_root hr (by decide) (by rfl) (pa_cons (pv 0) pa_nil)))
      (pss_one (ps_ret (pe_callD D_least_one_of hr (by decide) (by rfl) (pa_cons (pv 0) pa_nil))))), ?_⟩
    exact ⟨_, rfl, n, rfl, R, _, rfl, n, rfl, R, q⟩
theorem least_big {n : Int} {l : Nat} (R : Rootn n) (L : Last n (rt n) l) : ∃ B : Nat, B ≤ 4000100 ∧ (leastP n (rt n) l).1.natAbs < 2 ^ B ∧ (leastP n (rt n) l).2.natAbs < 2 ^ B := by
  have lsm := last_small R L
  obtain ⟨b1, b2, _, _⟩ := hk_big R l
  by_cases h : l % 2 = 1
  · refine ⟨10 * (l + 1), by omega, ?_⟩
    unfold leastP
    rw [if_pos h]
    exact ⟨b1, b2⟩
  · refine ⟨10 * (l + 1) + 10 * (l + 1) + 18, by omega, ?_⟩
    unfold leastP
    rw [if_neg h]
    exact pr_big (by have := R.two; omega) R.most b1 b2 b1 b2
end
/-! the least pair with worth -1 -/
section
variable {P : Program} {w : World} {K : PySem.W.Frag} {mg : Str → Option Value} {base : Heap}
def spLess : Sp := fun vs H Q _ => ∃ n : Int, vs = [.int n] ∧ Rootn n ∧ ∀ l H', Last n (rt n) l → Same H H' → (l % 2 = 1 → Q .non H') ∧ ∀ t, ¬ l % 2 = 1 → H' t = some (pr (hh n (rt n) l) (kk n (rt n) l)) → Q (.ref t) H'
theorem ok_least_less_one {f : Addr} {fd : FuncData} (F : Fun K "least_less_one" "least_less_one" s_least_less_one f fd) (D_need_root : Dn P w K mg base "need_root" 3 ["number"] [] spNeedRoot) (D_first_of : Dn P w K mg base "first_of" 4 ["number"] [] spFirst)
    (D_worth_of : Dn P w K mg base "worth_of" 1 ["number", "pair"] [] spWorthOf) : FnOk P w K mg base CX0 5 f fd ["number"] spLess := by
  refine F.ok sc_least_less_one (fun vs H Q E h => ?_) (fun cdv A outer s H vs Q E hr h => ?_)
  · obtain ⟨n, rfl, _⟩ := h
    rfl
  · obtain ⟨n, rfl, R, q⟩ := h
    have n0 : 0 ≤ n := by have := R.two; omega
    refine ⟨_, (pss_cons (ps_expr (pe_callD D_need_root hr (by decide) (by rfl) (pa_cons (pv 0) pa_nil)))
      (pss_cons (ps_set (i := 1) sc_least_less_one.nd rfl (.inl rfl) (pe_callD D_first_of hr (by decide) (by rfl) (pa_cons (pv 0) pa_nil)))
      (pss_cons (ps_if (pt_cmpR op_eq (pe_callD D_worth_of hr (by decide) (by rfl) (pa_cons (pv 0) (pa_cons (pv 1) pa_nil))) pe_int (nomark _))
        (pss_one (ps_ret pe_non)) pss_nil)
      (pss_one (ps_ret (pv 1)))))), ?_⟩
    refine ⟨_, rfl, n, rfl, R, _, rfl, n, rfl, R, fun l t H1 L s1 ht => ?_⟩
    have lsm := last_small R L
    obtain ⟨b1, b2, _, _⟩ := hk_big R l
    have hw := wth_first R L
    refine ⟨_, rfl, _, rfl, n, _, _, t, 10 * (l + 1), rfl, n0, R.most, ht, b1, b2, by omega, rfl, _, rfl, if2 (fun hc => ?_) (fun hc => ?_)⟩
    · rw [dec_int, hw, decide_eq_true_eq] at hc
      refine (q l H1 L s1).1 ?_
      by_cases e : l % 2 = 1
      · exact e
      · rw [sg_even e] at hc
        exact absurd hc (by decide)
    · rw [dec_int, hw, decide_eq_false_iff_not] at hc
      exact ⟨_, rfl, (q l H1 L s1).2 t (fun e => hc (by rw [sg_odd e]; rfl)) ht⟩
end
section
theorem kit_tt' {K : PySem.W.Frag} : PySem.W.kitOne K (.type "tuple") (.type "tuple") = some true := kit_ty (by decide +kernel)
theorem dp_pr {K : PySem.W.Frag} {H : Hp} {t : Addr} {x y : Int} (h : H t = some (.tup [.int x, .int y])) : Dp K H (.ref t) (.tuple [.int x, .int y]) := .tup (SqT.of h) (.cons (.int x) (.cons (.int y) .nil))
theorem eqv_pr (x y : Int) : PyData.eqv (.tuple [.int x, .int y]) (.tuple [.int x, .int y]) = true := SeqAt.eqv_refl _ rfl
end
/-! rows of pairs -/
section
/-- as are the first m places of a row of pairs -/
structure Row (f : Nat → Int × Int) (H : Hp) (as : List Addr) (m : Nat) : Prop where
  len : as.length = m
  at_ : ∀ i t, as[i]? = some t → H t = some (pr (f i).1 (f i).2)
theorem Row.same {f : Nat → Int × Int} {H H' : Hp} {as : List Addr} {m : Nat} (h : Row f H as m) (s : Same H H') : Row f H' as m := ⟨h.len, fun i t e => s _ _ (h.at_ i t e)⟩
/-- one more, on the list that is at p -/
theorem Row.more {f : Nat → Int × Int} {H : Hp} {as : List Addr} {m : Nat} {p t : Addr} {xs : List V} {o : List V} (h : Row f H as m) (hp : H p = some (.lst xs)) (ht : H t = some (pr (f m).1 (f m).2)) : Row f (upd H p (.lst o)) (as ++ [t]) (m + 1) := by
  have hl := h.len
  refine ⟨by rw [List.length_append, hl]; rfl, fun j u e => ?_⟩
  by_cases hj : j < as.length
  · rw [List.getElem?_append_left hj] at e
    have z := h.at_ j u e
    rw [upd_ne (ne_of z hp (by intro z; cases z))]
    exact z
  · rw [List.getElem?_append_right (by omega)] at e
    have hj0 : j - as.length = 0 := by
      by_cases q : j - as.length = 0
      · exact q
      · rw [List.getElem?_eq_none (by rw [List.length_singleton]; omega)] at e
        cases e
    rw [hj0] at e
    have et : t = u := Option.some.inj e
    have ej : j = m := by omega
    subst et ej
    rw [upd_ne (ne_of ht hp (by intro z; cases z))]
    exact ht
theorem Row.over {f : Nat → Int × Int} {H : Hp} {as : List Addr} {m : Nat} {p : Addr} {xs o : List V} (h : Row f H as m) (hp : H p = some (.lst xs)) : Row f (upd H p (.lst o)) as m := ⟨h.len, fun j u e => by
  have z := h.at_ j u e
  rw [upd_ne (ne_of z hp (by intro z; cases z))]
  exact z⟩
theorem dpAll_of {K : PySem.W.Frag} {H : Hp} : ∀ {as : List Addr} {ds : List PyData}, as.length = ds.length → (∀ (i : Nat) t d, as[i]? = some t → ds[i]? = some d → Dp K H (.ref t) d) → DpAll K H (as.map V.ref) ds
  | [], [], _, _ => .nil
  | [], _ :: _, h, _ => by simp at h
  | _ :: _, [], h, _ => by simp at h
  | a :: as, d :: ds, h, k => .cons (k 0 a d rfl rfl) (dpAll_of (Nat.succ.inj h) fun i t e h1 h2 => k (i + 1) t e h1 h2)
def dRow (f : Nat → Int × Int) (m : Nat) : List PyData := (List.range m).map (fun i => .tuple [.int (f i).1, .int (f i).2])
theorem dp_row {K : PySem.W.Frag} {f : Nat → Int × Int} {H : Hp} {p : Addr} {as : List Addr} {m : Nat} (h : H p = some (.lst (as.map V.ref))) (r : Row f H as m) : Dp K H (.ref p) (.list (dRow f m)) := by
  refine .lst (SqL.of h) (dpAll_of ?_ fun i t d h1 h2 => ?_)
  · unfold dRow
    rw [List.length_map, List.length_range, r.len]
  · unfold dRow at h2
    rw [List.getElem?_map] at h2
    have hi : i < m := by
      have := (List.getElem?_eq_some_iff.mp h1).1
      rw [r.len] at this
      exact this
    rw [List.getElem?_range hi] at h2
    have e := Option.some.inj h2
    subst e
    exact dp_pr (r.at_ i t h1)
theorem shaped_row (f : Nat → Int × Int) (m : Nat) : SeqAt.shaped (.list (dRow f m)) = true := by
  have key : ∀ l : List Nat, PyData.canLayAll0 (l.map (fun i => PyData.tuple [.int (f i).1, .int (f i).2])) = true ∧ PyData.depthAll (l.map (fun i => PyData.tuple [.int (f i).1, .int (f i).2])) ≤ 2 := fun l => by
    induction l with
    | nil => exact ⟨rfl, by simp [PyData.depthAll]⟩
    | cons i l ih =>
      refine ⟨?_, ?_⟩
      · rw [List.map_cons]
        show (PyData.canLay0 (.tuple [.int (f i).1, .int (f i).2]) && PyData.canLayAll0 _) = true
        rw [ih.1]
        rfl
      · rw [List.map_cons]
        have := ih.2
        simp only [PyData.depthAll, PyData.depth] at this ⊢
        omega
  obtain ⟨a, b⟩ := key (List.range m)
  unfold SeqAt.shaped
  rw [Bool.and_eq_true]
  refine ⟨a, decide_eq_true ?_⟩
  unfold dRow
  simp only [PyData.depth]
  omega
theorem row_ref {as : List Addr} {i : Nat} {x : V} (h : (as.map V.ref)[i]? = some x) : ∃ t, as[i]? = some t ∧ x = .ref t := by
  rw [List.getElem?_map] at h
  cases e : as[i]? with
  | none => rw [e] at h; cases h
  | some t =>
    rw [e] at h
    exact ⟨t, rfl, (Option.some.inj h).symm⟩
end
/-! rootladder.solving: ones -/
section
variable {P : Program} {w : World} {K : PySem.W.Frag} {mg : Str → Option Value} {base : Heap}
/-- the powers of the least one -/
def pws (n : Int) (l : Nat) : Nat → Int × Int := pw n (leastP n (rt n) l).1 (leastP n (rt n) l).2
theorem pw_big {n X Y : Int} {B : Nat} (h0 : 0 ≤ n) (h1 : n ≤ 100000) (hX : X.natAbs < 2 ^ B) (hY : Y.natAbs < 2 ^ B) : ∀ k : Nat, (pw n X Y k).1.natAbs < 2 ^ ((k + 1) * (B + 18)) ∧ (pw n X Y k).2.natAbs < 2 ^ ((k + 1) * (B + 18))
  | 0 => by
    rw [Nat.zero_add, Nat.one_mul]
    exact ⟨Nat.lt_of_lt_of_le hX (Nat.pow_le_pow_right (by decide) (by omega)), Nat.lt_of_lt_of_le hY (Nat.pow_le_pow_right (by decide) (by omega))⟩
  | k + 1 => by
    obtain ⟨a, b⟩ := pw_big h0 h1 hX hY k
    have z := pr_big h0 h1 a b hX hY
    rw [show (k + 1) * (B + 18) + B + 18 = (k + 1 + 1) * (B + 18) by rw [Nat.succ_mul (k + 1)]; omega] at z
    exact z
def spOnes : Sp := fun vs H Q _ => ∃ n m : Int, vs = [.int n, .int m] ∧ Rootn n ∧ 0 ≤ m ∧ m ≤ 20 ∧ ∀ l p as H', Last n (rt n) l → Same H H' → H p = none → H' p = some (.lst (as.map V.ref)) → Row (pws n l) H' as m.toNat → Q (.ref p) H'
theorem ok_ones {f : Addr} {fd : FuncData} (F : FunD K "ones" "ones" (defArgs s_ones) (defBody s_ones) (defScope s_ones) [.int 5] [] f fd) (T : Tb mg) (D_need_number : Dn P w K mg base "need_number" 2 ["thing", "least", "most"] [] spNeed) (D_need_root : Dn P w K mg base "need_root" 3 ["number"] [] spNeedRoot)
    (D_least_one_of : Dn P w K mg base "least_one_of" 5 ["number"] [] spLeast) (D_product : Dn P w K mg base "product" 1 ["number", "one", "other"] [] spProduct) : FnOk P w K mg base CX0 6 f fd ["number", "many"] spOnes := by
  refine F.ok sc_ones (fun vs H Q E h => ?_) (fun cdv A outer s H vs Q E hr h => ?_)
  · obtain ⟨n, m, rfl, _⟩ := h
    rfl
  · obtain ⟨n, m, rfl, R, m0, m1, q⟩ := h
    have n0 : 0 ≤ n := by have := R.two; omega
    refine ⟨_, PSs.nox (pss_cons (ps_expr (pe_callD D_need_number hr (by decide) (by rfl) (pa_cons (pv 0) (pa_cons pe_int (pa_cons (pe_globI (by rfl) T.g_MOST) pa_nil)))))
      (pss_cons (ps_expr (pe_callD D_need_number hr (by decide) (by rfl) (pa_cons (pv 1) (pa_cons pe_int (pa_cons (pe_globI (by rfl) T.g_MOST_ONES) pa_nil)))))
      (pss_cons (ps_expr (pe_callD D_need_root hr (by decide) (by rfl) (pa_cons (pv 0) pa_nil)))
      (pss_cons (ps_set (i := 2) sc_ones.nd rfl (.inl rfl) (pe_callD D_least_one_of hr (by decide) (by rfl) (pa_cons (pv 0) pa_nil)))
      (pss_cons (ps_set (i := 3) sc_ones.nd rfl (.inl rfl) (pe_lst pa_nil))
      (pss_cons (ps_set (i := 4) sc_ones.nd rfl (.inl rfl) (pv 2))
      (pss_cons (ps_for PassesOwn.never rfl (pi_range1 (by rfl) T.b_range (pa_cons (pv 1) pa_nil)) (pg_name (i := 5) sc_ones.nd rfl (.inl rfl))
        (pss_cons (ps_expr (pe_bm PySem.F.plainAttrs_list PySem.F.slot_list_append PySem.F.type_list_append mt_append (pv 3) (pa_cons (pv 4) pa_nil)))
      (pss_one (ps_set (i := 4) sc_ones.nd rfl (.inl rfl) (pe_callD D_product hr (by decide) (by rfl) (pa_cons (pv 0) (pa_cons (pv 4) (pa_cons (pv 2) pa_nil))))))))
      (pss_one (ps_ret (pv 3)))))))))), ?_⟩
    refine ⟨_, rfl, n, 2, .int 100000, rfl, R.two, .inr ⟨_, rfl, R.most⟩, ?_⟩
    refine ⟨_, rfl, m, 0, .int 20, rfl, m0, .inr ⟨_, rfl, m1⟩, ?_⟩
    refine ⟨_, rfl, n, rfl, R, _, rfl, n, rfl, R, fun l t H1 L s1 ht => ?_⟩
    obtain ⟨B, hB, bX, bY⟩ := least_big R L
    refine ⟨Nat.zero_le _, fun p np => ?_⟩
    have s2 : Same H1 (upd H1 p (.lst [])) := same_new np
    have np0 : H p = none := s1.free np
    have ht2 := s2 _ _ ht
    refine ⟨_, rfl, _, rfl, m, rfl, by omega, by omega, for_range (lo := 0) (n := m.toNat) (fun i σ H' => ∃ (u : Addr) (as : List Addr) (y5 : Option V), σ = [some (.int n), some (.int m), some (.ref t), some (.ref p), some (.ref u), y5] ∧ Same H H' ∧ H' t = some (pr (leastP n (rt n) l).1 (leastP n (rt n) l).2) ∧
        H' u = some (pr (pws n l i).1 (pws n l i).2) ∧ H' p = some (.lst (as.map V.ref)) ∧ Row (pws n l) H' as i) ⟨t, [], none, rfl, s1.trans s2, ht2, ht2, upd_same, rfl, fun i t e => by simp at e⟩ (fun i σ H' hi hG => ?_) (fun σ H' hG => ?_)⟩
    · obtain ⟨u, as, y5, rfl, sm, ht, hu, hp, row⟩ := hG
      have hl := row.len
      refine ⟨.ref p, rfl, .inl ⟨rfl, _, SqL.of hp⟩, _, rfl, p, _, _, rfl, rfl, hp, sz (by rw [List.length_map]; omega), ?_⟩
      have row' := Row.more (o := as.map V.ref ++ [.ref u]) row hp hu
      have ht' := (upd_ne (o := .lst (as.map V.ref ++ [.ref u])) (ne_of ht hp (by intro z; cases z))).trans ht
      have hu' := (upd_ne (o := .lst (as.map V.ref ++ [.ref u])) (ne_of hu hp (by intro z; cases z))).trans hu
      have sm' : Same H (upd H' p (.lst (as.map V.ref ++ [.ref u]))) := same_mut sm np0
      have hp' : (upd H' p (.lst (as.map V.ref ++ [.ref u]))) p = some (.lst (as.map V.ref ++ [.ref u])) := upd_same
      generalize (upd H' p (.lst (as.map V.ref ++ [.ref u]))) = H2 at *
      obtain ⟨c1, c2⟩ := pw_big n0 R.most bX bY i
      have hi20 : (i + 1) * (B + 18) ≤ 20 * (B + 18) := Nat.mul_le_mul_right _ (by omega)
      refine ⟨_, rfl, _, rfl, _, rfl, n, _, _, _, _, u, t, (i + 1) * (B + 18), B, rfl, n0, R.most, hu', ht', c1, c2, bX, bY, by omega, fun v nv => ?_⟩
      have s3 := same_new (o := pr (pws n l (i + 1)).1 (pws n l (i + 1)).2) nv
      refine ⟨v, as ++ [u], _, rfl, sm'.trans s3, s3 _ _ ht', upd_same, ?_, row'.same s3⟩
      rw [List.map_append]
      exact s3 _ _ hp'
    · obtain ⟨u, as, y5, rfl, sm, ht, hu, hp, row⟩ := hG
      exact ⟨_, rfl, q l p as _ L sm np0 hp row⟩
end
/-! rootladder.solving: reach -/
section
variable {P : Program} {w : World} {K : PySem.W.Frag} {mg : Str → Option Value} {base : Heap}
theorem Frs.over {n : Int} {H : Hp} {as : List Addr} {m : Nat} {p : Addr} {xs o : List V} (h : Frs n H as m) (hp : H p = some (.lst xs)) : Frs n (upd H p (.lst o)) as m := ⟨h.len, fun j u e => by
  have z := h.at_ j u e
  rw [upd_ne (ne_of z hp (by intro z; cases z))]
  exact z⟩
def spBySize : Sp := fun vs H Q _ => ∃ (t : Addr) (x y : Int), vs = [.ref t] ∧ H t = some (pr x y) ∧ Q (.int y) H
theorem ok_by_size {f : Addr} {fd : FuncData} (F : Fun K "by_size" "by_size" s_by_size f fd) : FnOk P w K mg base CX0 1 f fd ["pair"] spBySize := by
  refine F.ok sc_by_size (fun vs H Q E h => ?_) (fun cdv A outer s H vs Q E hr h => ?_)
  · obtain ⟨t, x, y, rfl, _⟩ := h
    rfl
  · obtain ⟨t, x, y, rfl, ht, q⟩ := h
    refine ⟨_, (pss_one (ps_ret (pe_ix (ixt (K := K) rfl) (pv 0) pe_int (fun _ _ => rfl)))), ?_⟩
    have st := sq_pr (K := K) ht
    exact ⟨_, rfl, t, _, _, _, rfl, rfl, st, at1, q⟩
/-- one more, of a row -/
def put (f : Nat → Int × Int) (m : Nat) (z : Int × Int) : Nat → Int × Int := fun i => if i = m then z else f i
theorem put_at {f : Nat → Int × Int} {m : Nat} {z : Int × Int} : put f m z m = z := by
  unfold put
  rw [if_pos rfl]
theorem put_lt {f : Nat → Int × Int} {m i : Nat} {z : Int × Int} (h : i < m) : put f m z i = f i := by
  unfold put
  rw [if_neg (by omega)]
theorem Row.put {f : Nat → Int × Int} {H : Hp} {as : List Addr} {m : Nat} {z : Int × Int} (h : Row f H as m) : Row (put f m z) H as m := ⟨h.len, fun i t e => by
  have hi := (List.getElem?_eq_some_iff.mp e).1
  rw [h.len] at hi
  rw [put_lt hi]
  exact h.at_ i t e⟩
/-- what is found up to a place -/
structure Some_ (n : Int) (l : Nat) (c : Int) (J : Nat) (B : Int) (f : Nat → Int × Int) (m : Nat) : Prop where
  sound : ∀ i, i < m → Cand n (rt n) l c (f i).1 (f i).2
  all : ∀ (j : Nat) (b : Int), (j < J ∨ (j = J ∧ b < B)) → 1 ≤ b → own n (rt n) j * b * b = c → ∃ i, i < m ∧ f i = (hh n (rt n) j * b, kk n (rt n) j * b)
  few : m ≤ 20 * J + (B - 1).toNat
theorem Some_.skip {n c B : Int} {l J m : Nat} {f : Nat → Int × Int} (h : Some_ n l c J B f m) (hb : 1 ≤ B) (hn : own n (rt n) J * B * B ≠ c) : Some_ n l c J (B + 1) f m := ⟨h.sound, fun j b hj b1 e => by
  refine h.all j b ?_ b1 e
  rcases hj with hj | ⟨rfl, hb⟩
  · exact .inl hj
  · refine .inr ⟨rfl, ?_⟩
    by_cases q : b = B
    · rw [q] at e
      exact absurd e hn
    · omega, by have := h.few; omega⟩
theorem Some_.put {n c B : Int} {l J m : Nat} {f : Nat → Int × Int} (h : Some_ n l c J B f m) (hJ : J < 2 * (l + 1)) (hb : 1 ≤ B) (e : own n (rt n) J * B * B = c) : Some_ n l c J (B + 1) (put f m (hh n (rt n) J * B, kk n (rt n) J * B)) (m + 1) := ⟨fun i hi => by
  by_cases q : i = m
  · rw [q, put_at]
    exact ⟨J, B, hJ, hb, e, rfl, rfl⟩
  · rw [put_lt (by omega)]
    exact h.sound i (by omega), fun j b hj b1 e' => by
  by_cases q : j = J ∧ b = B
  · obtain ⟨rfl, rfl⟩ := q
    exact ⟨m, by omega, put_at⟩
  · obtain ⟨i, h1, h2⟩ := h.all j b (by
      rcases hj with hj | ⟨rfl, hb⟩
      · exact .inl hj
      · refine .inr ⟨rfl, ?_⟩
        by_cases q2 : b = B
        · exact absurd ⟨rfl, q2⟩ q
        · omega) b1 e'
    exact ⟨i, by omega, by rw [put_lt h1]; exact h2⟩, by have := h.few; omega⟩
theorem Some_.next {n c B : Int} {l J m : Nat} {f : Nat → Int × Int} (G : Good n (rt n)) (h : Some_ n l c J B f m) (hb : 1 ≤ B) (hB : B ≤ 21) (stop : ab c < B * B) : Some_ n l c (J + 1) 1 f m := ⟨h.sound, fun j b hj b1 e => by
  refine h.all j b ?_ b1 e
  rcases hj with hj | ⟨_, hb⟩
  · by_cases q : j < J
    · exact .inl q
    · have ej : j = J := by omega
      subst ej
      refine .inr ⟨rfl, ?_⟩
      have := ab_of (own_big G j) e
      by_cases q2 : b < B
      · exact q2
      · have := Int.mul_le_mul (show B ≤ b by omega) (show B ≤ b by omega) (by omega) (by omega)
        omega
  · omega, by have := h.few; omega⟩
theorem small_by {B c : Int} (h : B * B ≤ ab c) (hc : ab c ≤ 316) : B ≤ 17 := by
  by_cases q : B ≤ 17
  · exact q
  · have := Int.mul_le_mul (show (18 : Int) ≤ B by omega) (show (18 : Int) ≤ B by omega) (by omega) (by omega)
    omega
def spReach : Sp := fun vs H Q _ => ∃ n c : Int, vs = [.int n, .int c] ∧ Rootn n ∧ c ≠ 0 ∧ c * c < n ∧ ∀ l H', Last n (rt n) l → Same H H' → ((∀ x y, ¬ Cand n (rt n) l c x y) → Q .non H') ∧ ∀ x y t, Reach n (rt n) l c x y → H' t = some (pr x y) → Q (.ref t) H'
theorem ok_reach {f : Addr} {fd : FuncData} (F : Fun K "reach" "reach" s_reach f fd) (T : Tb mg) (D_is_number : Dn P w K mg base "is_number" 1 ["thing"] [] spIsNum) (D_need_number : Dn P w K mg base "need_number" 2 ["thing", "least", "most"] [] spNeed)
    (D_need_root : Dn P w K mg base "need_root" 3 ["number"] [] spNeedRoot) (D_round_of : Dn P w K mg base "round_of" 2 ["number"] [] spRoundOf) (D_fractions_of : Dn P w K mg base "fractions_of" 3 ["number", "many"] [] spFracsOf)
    (D_worth_of : Dn P w K mg base "worth_of" 1 ["number", "pair"] [] spWorthOf) (D_by_size : Dn P w K mg base "by_size" 1 ["pair"] [] spBySize) : FnOk P w K mg base CX0 4 f fd ["number", "told"] spReach := by
  obtain ⟨fb, fdb, dsb, Fb, hmb, hkb, hbb, hdb⟩ := D_by_size.ex
  cases hdb
  refine F.ok sc_reach (fun vs H Q E h => ?_) (fun cdv A outer s H vs Q E hr h => ?_)
  · obtain ⟨n, c, rfl, _⟩ := h
    rfl
  · obtain ⟨n, c, rfl, R, c0, c1, q⟩ := h
    have n0 : 0 ≤ n := by have := R.two; omega
    have nm := R.most
    have G := R.good
    obtain ⟨cl, cu⟩ := told_in G c1
    have r316 := R.r316
    have ac : ab c ≤ 316 := by unfold ab; split <;> omega
    have cb : c.natAbs < 2 ^ 10 := by omega
    refine ⟨_, PSs.nox (pss_cons (ps_expr (pe_callD D_need_number hr (by decide) (by rfl) (pa_cons (pv 0) (pa_cons pe_int (pa_cons (pe_globI (by rfl) T.g_MOST) pa_nil)))))
      (pss_cons (ps_if (pt_not (pt_val (pe_callD D_is_number hr (by decide) (by rfl) (pa_cons (pv 1) pa_nil))))
        (pss_one ps_never) pss_nil)
      (pss_cons (ps_expr (pe_callD D_need_root hr (by decide) (by rfl) (pa_cons (pv 0) pa_nil)))
      (pss_cons (ps_if (PW.pt (pw_or (pt_cmpR op_eq (pv 1) pe_int (nomark _)) (pw_or1 (pt_cmpR op_ge (pe_op op_mulX (pv 1) (pv 1)) (pv 0) (nomark _)))))
        (pss_one ps_never) pss_nil)
      (pss_cons (ps_set (i := 2) sc_reach.nd rfl (.inl rfl) (pe_lst pa_nil))
      (pss_cons (ps_for PassesOwn.never rfl (pi_list (pe_callD D_fractions_of hr (by decide) (by rfl) (pa_cons (pv 0) (pa_cons (pe_op op_mulX pe_int (pe_callB (id := "len") (len_rule (K := K) rfl) (by rfl) T.b_len (by decide +kernel) (pa_cons (pe_callD D_round_of hr (by decide) (by rfl) (pa_cons (pv 0) pa_nil)) pa_nil))) pa_nil)))) (pg_name (i := 3) sc_reach.nd rfl (.inl rfl))
        (pss_cons (ps_set (i := 4) sc_reach.nd rfl (.inl rfl) (pe_callD D_worth_of hr (by decide) (by rfl) (pa_cons (pv 0) (pa_cons (pv 3) pa_nil))))
      (pss_cons (ps_set (i := 5) sc_reach.nd rfl (.inl rfl) pe_int)
      (pss_one (ps_while PassesOwn.never (pt_cmpR op_le (pe_op op_mulX (pv 5) (pv 5)) (pe_callB (id := "abs") call_abs (by rfl) T.b_abs (by decide +kernel) (pa_cons (pv 1) pa_nil)) (nomark _))
        (pss_cons (ps_if (pt_cmpR op_eq (pe_op op_mulX (pe_op op_mulX (pv 4) (pv 5)) (pv 5)) (pv 1) (nomark _))
        (pss_one (ps_expr (pe_bm PySem.F.plainAttrs_list PySem.F.slot_list_append PySem.F.type_list_append mt_append (pv 2) (pa_cons (pe_tup (pa_cons (pe_op op_mulX (pe_ix (ixt (K := K) rfl) (pv 3) pe_int (fun _ _ => rfl)) (pv 5)) (pa_cons (pe_op op_mulX (pe_ix (ixt (K := K) rfl) (pv 3) pe_int (fun _ _ => rfl)) (pv 5)) pa_nil))) pa_nil)))) pss_nil)
      (pss_one (ps_aug (i := 5) sc_reach.nd rfl (.inl rfl) pe_int ip_add))))))))
      (pss_cons (ps_if (pt_cmpR (op_eqD hr.units) (pv 2) (pe_lst pa_nil) (nomark _))
        (pss_one (ps_ret pe_non)) pss_nil)
      (pss_one (ps_ret (pe_callBK (call_minKey Fb (hr.mono (by decide)) hbb) (by rfl) T.b_min rfl (pa_cons (pv 2) pa_nil) (pk_cons (pe_glob (v := .ref fb) (by rfl) hmb rfl) pk_nil))))))))))), ?_⟩
    refine ⟨_, rfl, n, 2, .int 100000, rfl, R.two, .inr ⟨_, rfl, R.most⟩, ?_⟩
    refine ⟨_, rfl, c, rfl, _, rfl, ifF rfl ?_⟩
    refine ⟨_, rfl, n, rfl, R, ?_⟩
    refine ⟨_, rfl, rfl, _, rfl, ifF ?_ ?_⟩
    · rw [dec_int]
      exact decide_eq_false c0
    refine ⟨_, rfl, _, rfl, _, _, rfl, rfl, mx 10 10 cb cb, _, rfl, _, _, rfl, rfl, _, rfl, ifF (decide_eq_false (by omega)) ?_⟩
    -- some = []
    refine ⟨Nat.zero_le _, fun p np => ?_⟩
    have s1 : Same H (upd H p (.lst [])) := same_new np
    have hp1 : (upd H p (.lst [])) p = some (.lst []) := upd_same
    show tSeq _ _ _ _ (upd H p (.lst []))
    generalize (upd H p (.lst [])) = H1 at *
    refine ⟨_, rfl, _, rfl, n, rfl, R, fun l p0 H2 L s2 np0 hp0 => ?_⟩
    have lsm := last_small R L
    have hln : ((quots n (l + 1)).map V.int).length = l + 1 := by rw [List.length_map, quots_len]
    refine ⟨p0, _, rfl, .inl (SqL.of hp0), _, _, rfl, rfl, mx 4 20 (by decide) (by rw [hln]; omega), n, _, rfl, R, by omega, by rw [hln]; omega, fun p2 as H3 s3 np2 hp2 fr => ?_⟩
    rw [hln] at fr
    have flen := fr.len
    have e2L : ((2 : Int) * ((l + 1 : Nat) : Int)).toNat = 2 * (l + 1) := by omega
    rw [e2L] at fr flen
    have hpp : p2 ≠ p := fun e => by
      have := s2.trans s3 p _ hp1
      rw [← e] at this
      have z := s2 _ _ hp1
      rw [e] at np2
      rw [np2] at z
      cases z
    refine ⟨p2, rfl, ⟨_, SqL.of hp2⟩, for_list (K := K) (a := p2) (xs := as.map V.ref) (fun i σ H' => ∃ (f : Nat → Int × Int) (bs : List Addr) (m : Nat) (y3 y4 y5 : Option V), σ = [some (.int n), some (.int c), some (.ref p), y3, y4, y5] ∧ Same H H' ∧
        H' p2 = some (.lst (as.map V.ref)) ∧ Frs n H' as (2 * (l + 1)) ∧ H' p = some (.lst (bs.map V.ref)) ∧ Row f H' bs m ∧ Some_ n l c i 1 f m)
      ⟨fun _ => (0, 0), [], 0, none, none, none, rfl, s1.trans (s2.trans s3), hp2, fr, s3 _ _ (s2 _ _ hp1), ⟨rfl, fun i t e => by simp at e⟩, ⟨fun i hi => absurd hi (Nat.not_lt_zero _), fun j b hj b1 e => by omega, Nat.zero_le _⟩⟩ (fun i σ H' _ hG => ?_) (fun i x σ H' hx hG => ?_) (fun σ H' hG => ?_)⟩
    · obtain ⟨_, _, _, _, _, _, _, _, hp2', _⟩ := hG
      exact SqL.of hp2'
    · obtain ⟨f, bs, m, y3, y4, y5, rfl, sm, hp2, fr, hp, row, so⟩ := hG
      obtain ⟨t, hat, rfl⟩ := row_ref hx
      have hi : i < 2 * (l + 1) := by
        have := (List.getElem?_eq_some_iff.mp hat).1
        rw [flen] at this
        exact this
      have ht := fr.at_ i t hat
      obtain ⟨b1, b2, _, _⟩ := hk_big R i
      have S := small_at R i
      have q0 := S.q0
      have q1 := S.q1
      have ew : wth n (hh n (rt n) i) (kk n (rt n) i) = own n (rt n) i := by
        have := own_eq G i
        unfold wth
        rw [Int.mul_assoc]
        exact this
      have ob : (own n (rt n) i).natAbs < 2 ^ 10 := by
        unfold own
        rcases sg_mod i with ⟨_, s⟩ | ⟨_, s⟩ <;> rw [s] <;> omega
      refine ⟨_, rfl, _, rfl, n, _, _, t, 10 * (i + 1), rfl, n0, nm, ht, b1, b2, by omega, ?_⟩
      rw [ew]
      -- while by * by <= abs(told)
      refine ⟨fun k σ H'' => ∃ (B : Int) (f : Nat → Int × Int) (bs : List Addr) (m : Nat), σ = [some (.int n), some (.int c), some (.ref p), some (.ref t), some (.int (own n (rt n) i)), some (.int B)] ∧ Same H H'' ∧
        H'' p2 = some (.lst (as.map V.ref)) ∧ Frs n H'' as (2 * (l + 1)) ∧ H'' p = some (.lst (bs.map V.ref)) ∧ Row f H'' bs m ∧ Some_ n l c i B f m ∧ 1 ≤ B ∧ B ≤ 18 ∧ k = (20 - B).toNat,
        ⟨_, 1, f, bs, m, rfl, sm, hp2, fr, hp, row, so, by decide, by decide, rfl⟩, fun k σ H'' hW => ?_⟩
      obtain ⟨B, f, bs, m, rfl, sm, hp2, fr, hp, row, so, B1, B18, rfl⟩ := hW
      have Bb : B.natAbs < 2 ^ 5 := by omega
      refine ⟨_, rfl, _, rfl, _, _, rfl, rfl, mx 5 5 Bb Bb, _, rfl, _, rfl, _, _, rfl, rfl, _, rfl, ite2 (fun hc => ?_) (fun hc => ?_)⟩
      · rw [decide_eq_true_eq] at hc
        have B17 := small_by (c := c) hc ac
        refine ⟨fun σ' H3 => ∃ m', m' < _ ∧ ∃ (B : Int) (f : Nat → Int × Int) (bs : List Addr) (m : Nat), σ' = [some (.int n), some (.int c), some (.ref p), some (.ref t), some (.int (own n (rt n) i)), some (.int B)] ∧ Same H H3 ∧
          H3 p2 = some (.lst (as.map V.ref)) ∧ Frs n H3 as (2 * (l + 1)) ∧ H3 p = some (.lst (bs.map V.ref)) ∧ Row f H3 bs m ∧ Some_ n l c i B f m ∧ 1 ≤ B ∧ B ≤ 18 ∧ m' = (20 - B).toNat, fun _ _ h => h, ?_⟩
        refine ⟨_, rfl, _, rfl, _, _, rfl, rfl, mx 10 5 ob Bb, _, rfl, _, _, rfl, rfl, mx 15 5 (wide_lt ob Bb) Bb, _, rfl, rfl, _, rfl, if2 (fun hd => ?_) (fun hd => ?_)⟩
        · rw [dec_int, decide_eq_true_eq] at hd
          have st := sq_pr (K := K) (fr.at_ i t hat)
          have few := so.few
          have hl := row.len
          refine ⟨.ref p, rfl, .inl ⟨rfl, _, SqL.of hp⟩, _, rfl, _, _, _, _, rfl, rfl, st, at0, _, rfl, _, _, rfl, rfl, mx (10 * (i + 1)) 5 b1 Bb (by omega), _, rfl, _, _, _, _, rfl, rfl, st, at1, _, rfl, _, _, rfl, rfl, mx (10 * (i + 1)) 5 b2 Bb (by omega), (by show 2 ≤ sizeLine; decide), fun u nu => ?_⟩
          have s4 : Same H'' (upd H'' u (pr (hh n (rt n) i * B) (kk n (rt n) i * B))) := same_new nu
          have hu : (upd H'' u (pr (hh n (rt n) i * B) (kk n (rt n) i * B))) u = some (pr (hh n (rt n) i * B) (kk n (rt n) i * B)) := upd_same
          have hp4 := s4 _ _ hp
          have hp24 := s4 _ _ hp2
          have fr4 := fr.same s4
          have row4 := row.same s4
          have sm4 := sm.trans s4
          refine ⟨p, _, _, rfl, rfl, hp4, Nat.lt_of_le_of_lt (show (bs.map V.ref).length ≤ 9000000 by rw [List.length_map]; omega) (by decide), ?_⟩
          refine ⟨_, rfl, _, _, rfl, rfl, _, (by show (20 - (B + 1)).toNat < _; omega), B + 1, _, bs ++ [u], m + 1, rfl, same_mut sm4 np, (upd_ne hpp).trans hp24, fr4.over hp4, ?_, Row.more (f := put f m (hh n (rt n) i * B, kk n (rt n) i * B)) row4.put hp4 (by rw [put_at]; exact hu), so.put hi B1 hd, by omega, by omega, rfl⟩
          rw [List.map_append]
          exact upd_same
        · rw [dec_int, decide_eq_false_iff_not] at hd
          exact ⟨_, rfl, _, _, rfl, rfl, _, (by show (20 - (B + 1)).toNat < _; omega), B + 1, f, bs, m, rfl, sm, hp2, fr, hp, row, so.skip B1 hd, by omega, by omega, rfl⟩
      · rw [decide_eq_true_eq] at hc
        have hc : ¬ B * B ≤ ab c := hc
        exact ⟨f, bs, m, _, _, _, rfl, sm, hp2, fr, hp, row, so.next G B1 (by omega) (by omega)⟩
    · obtain ⟨f, bs, m, y3, y4, y5, rfl, sm, hp2, fr, hp, row, so⟩ := hG
      rw [List.length_map, flen] at so
      have hl := row.len
      refine ⟨_, rfl, Nat.zero_le _, fun e ne => ?_⟩
      have s5 : Same H' (upd H' e (.lst [])) := same_new ne
      refine ⟨_, _, dp_row (s5 _ _ hp) (row.same s5), .lst (SqL.of upd_same) .nil, shaped_row _ _, rfl, _, rfl, if2 (fun hz => ?_) (fun hz => ?_)⟩
      · have m0 : m = 0 := by
          cases m with
          | zero => rfl
          | succ k =>
            unfold dRow at hz
            rw [List.range_succ_eq_map] at hz
            exact absurd (show false = true from hz) (by decide)
        refine (q l _ L (sm.trans s5)).1 fun x y ⟨j, b, hj, hb, hc, _⟩ => ?_
        obtain ⟨i, hi, _⟩ := so.all j b (.inl hj) hb hc
        omega
      · have m0 : 0 < m := by
          cases m with
          | zero => exact absurd (show true = false from hz) (by decide)
          | succ k => omega
        refine ⟨_, rfl, p, bs.map V.ref, fun i => (f i).2, rfl, rfl, SqL.of (s5 _ _ hp), by rw [List.length_map]; omega, fun i x hx H6 s6 => ?_, fun i x H6 hx low s6 => ?_⟩
        · obtain ⟨t, hat, rfl⟩ := row_ref hx
          exact ⟨t, _, _, rfl, s6 _ _ (s5 _ _ (row.at_ i t hat)), rfl, rfl⟩
        · obtain ⟨t, hat, rfl⟩ := row_ref hx
          have hi := (List.getElem?_eq_some_iff.mp hat).1
          refine (q l H6 L (sm.trans (s5.trans s6))).2 _ _ t ⟨so.sound i (by omega), fun x' y' hc => ?_⟩ (s6 _ _ (s5 _ _ (row.at_ i t hat)))
          obtain ⟨j, b, hj, hb, he, _, ey⟩ := hc
          obtain ⟨k, hk, ek⟩ := so.all j b (.inl hj) hb he
          have : (f i).2 ≤ (f k).2 := low k (by rw [List.length_map]; omega)
          rw [ek] at this
          rw [ey]
          exact this
end
/-! what is refused -/
section
variable {P : Program} {w : World} {K : PySem.W.Frag} {mg : Str → Option Value} {base : Heap} {C1 C2 : Addr}
def spOr (a b : Sp) : Sp := fun vs H Q E => a vs H Q E ∨ b vs H Q E
/-- good ways raise nothing, bad ways raise -/
theorem orX {k : Nat} {f : Addr} {fd : FuncData} {ps : List Str} {a b : Sp} (F : FnOk P w K mg base CX0 k f fd ps a) (G : FnOk P w K mg base (L2.CX P w) k f fd ps b) : FnOk P w K mg base (L2.CX P w) k f fd ps (spOr a b) := by
  refine ⟨fun vs H Q E h => h.elim (F.len vs H Q E) (G.len vs H Q E), fun A outer s H args us vs Q E hr he hb hv h => ?_⟩
  rcases h with h | h
  · refine codeAny_mono (F.run A outer s H args us vs Q E hr he hb hv h) fun r s' hq => ?_
    match r, hq with
    | .error _, hq => exact False.elim hq
    | .ok .next, hq => exact False.elim hq
    | .ok .brk, hq => exact False.elim hq
    | .ok .cont, hq => exact False.elim hq
    | .ok (.ret u), hq => exact hq
  · exact G.run A outer s H args us vs Q E hr he hb hv h
/-- a thing that is no number -/
def NotNum (K : PySem.W.Frag) (H : Hp) (x : V) : Prop := ∃ (T : String) (b : Bool), TyX K H x (.type T) ∧ kitB T "int" = some b ∧ (b = true → kitB T "bool" = some true)
def spIsNumG (K : PySem.W.Frag) : Sp := fun vs H Q _ => ∃ x, vs = [x] ∧ ((∃ n : Int, x = .int n) ∧ Q (.bl true) H ∨ NotNum K H x ∧ Q (.bl false) H)
theorem ok_is_numberG {f : Addr} {fd : FuncData} (F : Fun K "is_number" "is_number" s_is_number f fd) (T : Tb mg) : FnOk P w K mg base CX0 1 f fd ["thing"] (spIsNumG K) := by
  refine F.ok sc_is_number (fun vs H Q E h => ?_) (fun cdv A outer s H vs Q E hr h => ?_)
  · obtain ⟨n, rfl, _⟩ := h
    rfl
  · obtain ⟨x, rfl, h⟩ := h
    refine ⟨_, (pss_one (ps_ret (pe_and (pe_callB (id := "isinstance") (isi_rule (K := K) rfl) (by rfl) T.b_isinstance (by decide +kernel) (pa_cons (pv 0) (pa_cons (pe_bltn (v := .ty "int") (by rfl) T.b_int (by decide +kernel) rfl) pa_nil))) (pe_one (pe_not (pe_callB (id := "isinstance") (isi_rule (K := K) rfl) (by rfl) T.b_isinstance (by decide +kernel) (pa_cons (pv 0) (pa_cons (pe_bltn (v := .ty "bool") (by rfl) T.b_bool (by decide +kernel) rfl) pa_nil)))))))), ?_⟩
    rcases h with ⟨⟨n, rfl⟩, q⟩ | ⟨⟨T, b, ty, h1, h2⟩, q⟩
    · refine ⟨_, rfl, _, _, _, _, _, rfl, .ty _, ty_int, kit_ii, _, rfl, ifT rfl ?_⟩
      exact ⟨_, rfl, _, _, _, _, _, rfl, .ty _, ty_int, kit_ib, _, rfl, q⟩
    · refine ⟨_, rfl, _, _, _, _, _, rfl, .ty _, ty, kit_ty h1, ?_⟩
      cases b with
      | true => exact ⟨_, rfl, ifT rfl ⟨_, rfl, _, _, _, _, _, rfl, .ty _, ty, kit_ty (h2 rfl), _, rfl, q⟩⟩
      | false => exact ⟨_, rfl, ifF rfl q⟩
def NumBad (K : PySem.W.Frag) (H : Hp) (x : V) (l : Int) (m : V) : Prop := NotNum K H x ∨ ∃ n : Int, x = .int n ∧ (n < l ∨ l ≤ n ∧ ∃ k : Int, m = .int k ∧ k < n)
def spBadNeed (K : PySem.W.Frag) (C1 : Addr) : Sp := fun vs H _ E => ∃ (x : V) (l : Int) (m : V), vs = [x, .int l, m] ∧ NumBad K H x l m ∧ E (.ref C1) none H
theorem bad_need_number {f : Addr} {fd : FuncData} (F : FunD K "need_number" "need_number" (defArgs s_need_number) (defBody s_need_number) (defScope s_need_number) [.non] [] f fd) (XC_NoNumber : XCls K mg "NoNumber" C1)
    (DG_is_number : Dn P w K mg base "is_number" 1 ["thing"] [] (spIsNumG K)) : FnOk P w K mg base (L2.CX P w) 2 f fd ["thing", "least", "most"] (spBadNeed K C1) := by
  refine F.ok sc_need_number (fun vs H Q E h => ?_) (fun cdv A outer s H vs Q E hr h => ?_)
  · obtain ⟨n, l, m, rfl, _⟩ := h
    rfl
  · obtain ⟨x, l, m, rfl, h, e⟩ := h
    refine ⟨_, (pss_one (ps_if (PW.pt (pw_or (pt_not (pt_val (pe_callD DG_is_number hr (by decide) (by rfl) (pa_cons (pv 0) pa_nil)))) (pw_or (pt_cmpR op_lt (pv 0) (pv 1) (nomark _)) (pw_or1 (PW.pt (pw_and (pt_cmpR op_notN (pv 2) pe_non (nomark _)) (pw_and1 (pt_cmpR op_gt (pv 0) (pv 2) (nomark _)))))))))
        (pss_one (ps_raiseX XC_NoNumber rfl (takes_of rfl rfl rfl rfl) (by rfl))) pss_nil)), ?_⟩
    rcases h with hN | ⟨n, rfl, h⟩
    · exact ⟨_, rfl, x, rfl, .inr ⟨hN, _, rfl, ifT rfl e⟩⟩
    · refine ⟨_, rfl, _, rfl, .inl ⟨⟨n, rfl⟩, _, rfl, ifF rfl ?_⟩⟩
      rcases h with h | ⟨h0, k, rfl, h⟩
      · exact ⟨_, rfl, _, rfl, _, _, rfl, rfl, _, rfl, ifT (decide_eq_true h) e⟩
      · refine ⟨_, rfl, _, rfl, _, _, rfl, rfl, _, rfl, ifF (decide_eq_false (by omega)) ?_⟩
        refine ⟨_, rfl, rfl, _, rfl, ifT rfl ?_⟩
        exact ⟨_, rfl, _, rfl, _, _, rfl, rfl, _, rfl, ifT (decide_eq_true h) e⟩
/-- a square within the bounds -/
structure Sqr (n : Int) : Prop where
  two : 2 ≤ n
  most : n ≤ 100000
  sq : rt n * rt n = n
def spBadRoot (K : PySem.W.Frag) (C1 C2 : Addr) : Sp := fun vs H _ E => ∃ x : V, vs = [x] ∧ (NumBad K H x 2 (.int 100000) ∧ E (.ref C1) none H ∨ (∃ n : Int, x = .int n ∧ Sqr n) ∧ E (.ref C2) none H)
theorem bad_need_root {f : Addr} {fd : FuncData} (F : Fun K "need_root" "need_root" s_need_root f fd) (T : Tb mg) (XC_NoRoot : XCls K mg "NoRoot" C2) (DX_need_number : DnX P w K mg base "need_number" 2 ["thing", "least", "most"] [] (spOr spNeed (spBadNeed K C1)))
    (D_rooted : Dn P w K mg base "rooted" 1 ["number"] [] spRooted) : FnOk P w K mg base (L2.CX P w) 3 f fd ["number"] (spBadRoot K C1 C2) := by
  refine F.okX sc_need_root (fun vs H Q E h => ?_) (fun cdv A outer s H vs Q E hr h => ?_)
  · obtain ⟨x, rfl, _⟩ := h
    rfl
  · obtain ⟨x, rfl, h⟩ := h
    refine ⟨_, (pss_cons (ps_expr (pe_callX DX_need_number hr (by decide) (by rfl) (takes_of rfl rfl rfl rfl) (pa_cons (pv 0) (pa_cons pe_int (pa_cons (pe_globI (by rfl) T.g_MOST) pa_nil)))))
      (pss_one (ps_if (pt_cmpR op_eq (pe_op op_mulX (pe_callD D_rooted hr (by decide) (by rfl) (pa_cons (pv 0) pa_nil)) (pe_callD D_rooted hr (by decide) (by rfl) (pa_cons (pv 0) pa_nil))) (pv 0) (nomark _))
        (pss_one (ps_raiseX XC_NoRoot rfl (takes_of rfl rfl rfl rfl) (by rfl))) pss_nil))), ?_⟩
    rcases h with ⟨hb, e⟩ | ⟨⟨n, rfl, S⟩, e⟩
    · exact ⟨_, rfl, .inr ⟨x, 2, _, rfl, hb, e⟩⟩
    · have h1 := S.two
      have h2 := S.most
      have big : n < 2 ^ 1000 := Int.lt_of_le_of_lt h2 (by decide +kernel)
      have rb := rt_big (show 0 ≤ n by omega) big
      refine ⟨_, rfl, .inl ⟨n, 2, .int 100000, rfl, h1, .inr ⟨_, rfl, h2⟩, ?_⟩⟩
      refine ⟨_, rfl, n, rfl, by omega, big, _, rfl, n, rfl, by omega, big, _, _, rfl, rfl, mx 1003 1003 rb rb, _, rfl, rfl, _, rfl, ifT ?_ e⟩
      rw [dec_int]
      exact decide_eq_true S.sq
def spBadWhole (K : PySem.W.Frag) (C1 : Addr) : Sp := fun vs H _ E => ∃ x : V, vs = [x] ∧ NumBad K H x 0 .non ∧ E (.ref C1) none H
theorem bad_whole_root {f : Addr} {fd : FuncData} (F : Fun K "whole_root" "whole_root" s_whole_root f fd) (DX_need_number_d : DnX P w K mg base "need_number" 2 ["thing", "least", "most"] [.non] (spOr spNeed (spBadNeed K C1))) : FnOk P w K mg base (L2.CX P w) 3 f fd ["number"] (spBadWhole K C1) := by
  refine F.okX sc_whole_root (fun vs H Q E h => ?_) (fun cdv A outer s H vs Q E hr h => ?_)
  · obtain ⟨x, rfl, _⟩ := h
    rfl
  · obtain ⟨x, rfl, hb, e⟩ := h
    exact ⟨_, (pss_cons (ps_expr (pe_callX DX_need_number_d hr (by decide) (by rfl) (takes_of rfl rfl rfl rfl) (pa_cons (pv 0) (pa_cons pe_int pa_nil))))
      pss_never), _, rfl, .inr ⟨x, 0, .non, rfl, hb, e⟩⟩
theorem bad_is_square {f : Addr} {fd : FuncData} (F : Fun K "is_square" "is_square" s_is_square f fd) (DX_need_number_d : DnX P w K mg base "need_number" 2 ["thing", "least", "most"] [.non] (spOr spNeed (spBadNeed K C1))) : FnOk P w K mg base (L2.CX P w) 3 f fd ["number"] (spBadWhole K C1) := by
  refine F.okX sc_is_square (fun vs H Q E h => ?_) (fun cdv A outer s H vs Q E hr h => ?_)
  · obtain ⟨x, rfl, _⟩ := h
    rfl
  · obtain ⟨x, rfl, hb, e⟩ := h
    exact ⟨_, (pss_cons (ps_expr (pe_callX DX_need_number_d hr (by decide) (by rfl) (takes_of rfl rfl rfl rfl) (pa_cons (pv 0) (pa_cons pe_int pa_nil))))
      pss_never), _, rfl, .inr ⟨x, 0, .non, rfl, hb, e⟩⟩
theorem bad_ladder {f : Addr} {fd : FuncData} (F : Fun K "ladder" "ladder" s_ladder f fd) (DX_need_root : DnX P w K mg base "need_root" 3 ["number"] [] (spOr spNeedRoot (spBadRoot K C1 C2))) : FnOk P w K mg base (L2.CX P w) 4 f fd ["number"] (spBadRoot K C1 C2) := by
  refine F.okX sc_ladder (fun vs H Q E h => ?_) (fun cdv A outer s H vs Q E hr h => ?_)
  · obtain ⟨x, rfl, _⟩ := h
    rfl
  · obtain ⟨x, rfl, h⟩ := h
    exact ⟨_, (pss_cons (ps_expr (pe_callX DX_need_root hr (by decide) (by rfl) (takes_of rfl rfl rfl rfl) (pa_cons (pv 0) pa_nil)))
      pss_never), _, rfl, .inr ⟨x, rfl, h⟩⟩
theorem bad_least_one {f : Addr} {fd : FuncData} (F : Fun K "least_one" "least_one" s_least_one f fd) (DX_need_root : DnX P w K mg base "need_root" 3 ["number"] [] (spOr spNeedRoot (spBadRoot K C1 C2))) : FnOk P w K mg base (L2.CX P w) 6 f fd ["number"] (spBadRoot K C1 C2) := by
  refine F.okX sc_least_one (fun vs H Q E h => ?_) (fun cdv A outer s H vs Q E hr h => ?_)
  · obtain ⟨x, rfl, _⟩ := h
    rfl
  · obtain ⟨x, rfl, h⟩ := h
    exact ⟨_, (pss_cons (ps_expr (pe_callX DX_need_root hr (by decide) (by rfl) (takes_of rfl rfl rfl rfl) (pa_cons (pv 0) pa_nil)))
      pss_never), _, rfl, .inr ⟨x, rfl, h⟩⟩
theorem bad_least_less_one {f : Addr} {fd : FuncData} (F : Fun K "least_less_one" "least_less_one" s_least_less_one f fd) (DX_need_root : DnX P w K mg base "need_root" 3 ["number"] [] (spOr spNeedRoot (spBadRoot K C1 C2))) : FnOk P w K mg base (L2.CX P w) 5 f fd ["number"] (spBadRoot K C1 C2) := by
  refine F.okX sc_least_less_one (fun vs H Q E h => ?_) (fun cdv A outer s H vs Q E hr h => ?_)
  · obtain ⟨x, rfl, _⟩ := h
    rfl
  · obtain ⟨x, rfl, h⟩ := h
    exact ⟨_, (pss_cons (ps_expr (pe_callX DX_need_root hr (by decide) (by rfl) (takes_of rfl rfl rfl rfl) (pa_cons (pv 0) pa_nil)))
      pss_never), _, rfl, .inr ⟨x, rfl, h⟩⟩
/-- a number and a count -/
def spBadMany (K : PySem.W.Frag) (C1 C2 : Addr) (k : Int) : Sp := fun vs H _ E => ∃ x m : V, vs = [x, m] ∧ (NumBad K H x 2 (.int 100000) ∧ E (.ref C1) none H ∨ (∃ n : Int, x = .int n ∧ 2 ≤ n ∧ n ≤ 100000) ∧ NumBad K H m 0 (.int k) ∧ E (.ref C1) none H ∨
  (∃ n j : Int, x = .int n ∧ m = .int j ∧ Sqr n ∧ 0 ≤ j ∧ j ≤ k) ∧ E (.ref C2) none H)
theorem bad_fractions {f : Addr} {fd : FuncData} (F : FunD K "fractions" "fractions" (defArgs s_fractions) (defBody s_fractions) (defScope s_fractions) [.int 10] [] f fd) (T : Tb mg) (DX_need_number : DnX P w K mg base "need_number" 2 ["thing", "least", "most"] [] (spOr spNeed (spBadNeed K C1)))
    (DX_need_root : DnX P w K mg base "need_root" 3 ["number"] [] (spOr spNeedRoot (spBadRoot K C1 C2))) : FnOk P w K mg base (L2.CX P w) 4 f fd ["number", "many"] (spBadMany K C1 C2 200) := by
  refine F.ok sc_fractions (fun vs H Q E h => ?_) (fun cdv A outer s H vs Q E hr h => ?_)
  · obtain ⟨x, m, rfl, _⟩ := h
    rfl
  · obtain ⟨x, m, rfl, h⟩ := h
    refine ⟨_, (pss_cons (ps_expr (pe_callX DX_need_number hr (by decide) (by rfl) (takes_of rfl rfl rfl rfl) (pa_cons (pv 0) (pa_cons pe_int (pa_cons (pe_globI (by rfl) T.g_MOST) pa_nil)))))
      (pss_cons (ps_expr (pe_callX DX_need_number hr (by decide) (by rfl) (takes_of rfl rfl rfl rfl) (pa_cons (pv 1) (pa_cons pe_int (pa_cons (pe_globI (by rfl) T.g_MOST_FRACTIONS) pa_nil)))))
      (pss_cons (ps_expr (pe_callX DX_need_root hr (by decide) (by rfl) (takes_of rfl rfl rfl rfl) (pa_cons (pv 0) pa_nil)))
      pss_never))), ?_⟩
    rcases h with ⟨hb, e⟩ | ⟨⟨n, rfl, h1, h2⟩, hb, e⟩ | ⟨⟨n, j, rfl, rfl, S, j0, j1⟩, e⟩
    · exact ⟨_, rfl, .inr ⟨x, 2, _, rfl, hb, e⟩⟩
    · exact ⟨_, rfl, .inl ⟨n, 2, .int 100000, rfl, h1, .inr ⟨_, rfl, h2⟩, _, rfl, .inr ⟨m, 0, _, rfl, hb, e⟩⟩⟩
    · exact ⟨_, rfl, .inl ⟨n, 2, .int 100000, rfl, S.two, .inr ⟨_, rfl, S.most⟩, _, rfl, .inl ⟨j, 0, .int 200, rfl, j0, .inr ⟨_, rfl, j1⟩, _, rfl, .inr ⟨_, rfl, .inr ⟨⟨n, rfl, S⟩, e⟩⟩⟩⟩⟩
theorem bad_ones {f : Addr} {fd : FuncData} (F : FunD K "ones" "ones" (defArgs s_ones) (defBody s_ones) (defScope s_ones) [.int 5] [] f fd) (T : Tb mg) (DX_need_number : DnX P w K mg base "need_number" 2 ["thing", "least", "most"] [] (spOr spNeed (spBadNeed K C1)))
    (DX_need_root : DnX P w K mg base "need_root" 3 ["number"] [] (spOr spNeedRoot (spBadRoot K C1 C2))) : FnOk P w K mg base (L2.CX P w) 6 f fd ["number", "many"] (spBadMany K C1 C2 20) := by
  refine F.ok sc_ones (fun vs H Q E h => ?_) (fun cdv A outer s H vs Q E hr h => ?_)
  · obtain ⟨x, m, rfl, _⟩ := h
    rfl
  · obtain ⟨x, m, rfl, h⟩ := h
    refine ⟨_, (pss_cons (ps_expr (pe_callX DX_need_number hr (by decide) (by rfl) (takes_of rfl rfl rfl rfl) (pa_cons (pv 0) (pa_cons pe_int (pa_cons (pe_globI (by rfl) T.g_MOST) pa_nil)))))
      (pss_cons (ps_expr (pe_callX DX_need_number hr (by decide) (by rfl) (takes_of rfl rfl rfl rfl) (pa_cons (pv 1) (pa_cons pe_int (pa_cons (pe_globI (by rfl) T.g_MOST_ONES) pa_nil)))))
      (pss_cons (ps_expr (pe_callX DX_need_root hr (by decide) (by rfl) (takes_of rfl rfl rfl rfl) (pa_cons (pv 0) pa_nil)))
      pss_never))), ?_⟩
    rcases h with ⟨hb, e⟩ | ⟨⟨n, rfl, h1, h2⟩, hb, e⟩ | ⟨⟨n, j, rfl, rfl, S, j0, j1⟩, e⟩
    · exact ⟨_, rfl, .inr ⟨x, 2, _, rfl, hb, e⟩⟩
    · exact ⟨_, rfl, .inl ⟨n, 2, .int 100000, rfl, h1, .inr ⟨_, rfl, h2⟩, _, rfl, .inr ⟨m, 0, _, rfl, hb, e⟩⟩⟩
    · exact ⟨_, rfl, .inl ⟨n, 2, .int 100000, rfl, S.two, .inr ⟨_, rfl, S.most⟩, _, rfl, .inl ⟨j, 0, .int 20, rfl, j0, .inr ⟨_, rfl, j1⟩, _, rfl, .inr ⟨_, rfl, .inr ⟨⟨n, rfl, S⟩, e⟩⟩⟩⟩⟩
/-- a number and a worth -/
def spBadReach (K : PySem.W.Frag) (C1 C2 : Addr) : Sp := fun vs H _ E => ∃ x c : V, vs = [x, c] ∧ (NumBad K H x 2 (.int 100000) ∧ E (.ref C1) none H ∨ (∃ n : Int, x = .int n ∧ 2 ≤ n ∧ n ≤ 100000) ∧ NotNum K H c ∧ E (.ref C1) none H ∨
  (∃ n j : Int, x = .int n ∧ c = .int j ∧ Sqr n) ∧ E (.ref C2) none H ∨ (∃ n j : Int, x = .int n ∧ c = .int j ∧ Rootn n ∧ (j = 0 ∨ n ≤ j * j) ∧ j.natAbs < 2 ^ 100) ∧ E (.ref C1) none H)
theorem bad_reach {f : Addr} {fd : FuncData} (F : Fun K "reach" "reach" s_reach f fd) (T : Tb mg) (XC_NoNumber : XCls K mg "NoNumber" C1) (DG_is_number : Dn P w K mg base "is_number" 1 ["thing"] [] (spIsNumG K)) (DX_need_number : DnX P w K mg base "need_number" 2 ["thing", "least", "most"] [] (spOr spNeed (spBadNeed K C1)))
    (DX_need_root : DnX P w K mg base "need_root" 3 ["number"] [] (spOr spNeedRoot (spBadRoot K C1 C2))) : FnOk P w K mg base (L2.CX P w) 4 f fd ["number", "told"] (spBadReach K C1 C2) := by
  refine F.okX sc_reach (fun vs H Q E h => ?_) (fun cdv A outer s H vs Q E hr h => ?_)
  · obtain ⟨x, c, rfl, _⟩ := h
    rfl
  · obtain ⟨x, c, rfl, h⟩ := h
    refine ⟨_, (pss_cons (ps_expr (pe_callX DX_need_number hr (by decide) (by rfl) (takes_of rfl rfl rfl rfl) (pa_cons (pv 0) (pa_cons pe_int (pa_cons (pe_globI (by rfl) T.g_MOST) pa_nil)))))
      (pss_cons (ps_if (pt_not (pt_val (pe_callD DG_is_number hr (by decide) (by rfl) (pa_cons (pv 1) pa_nil))))
        (pss_one (ps_raiseX XC_NoNumber rfl (takes_of rfl rfl rfl rfl) (by rfl))) pss_nil)
      (pss_cons (ps_expr (pe_callX DX_need_root hr (by decide) (by rfl) (takes_of rfl rfl rfl rfl) (pa_cons (pv 0) pa_nil)))
      (pss_cons (ps_if (PW.pt (pw_or (pt_cmpR op_eq (pv 1) pe_int (nomark _)) (pw_or1 (pt_cmpR op_ge (pe_op op_mulX (pv 1) (pv 1)) (pv 0) (nomark _)))))
        (pss_one (ps_raiseX XC_NoNumber rfl (takes_of rfl rfl rfl rfl) (by rfl))) pss_nil)
      pss_never)))), ?_⟩
    rcases h with ⟨hb, e⟩ | ⟨⟨n, rfl, h1, h2⟩, hb, e⟩ | ⟨⟨n, j, rfl, rfl, S⟩, e⟩ | ⟨⟨n, j, rfl, rfl, R, hj, jb⟩, e⟩
    · exact ⟨_, rfl, .inr ⟨x, 2, _, rfl, hb, e⟩⟩
    · exact ⟨_, rfl, .inl ⟨n, 2, .int 100000, rfl, h1, .inr ⟨_, rfl, h2⟩, _, rfl, c, rfl, .inr ⟨hb, _, rfl, ifT rfl e⟩⟩⟩
    · exact ⟨_, rfl, .inl ⟨n, 2, .int 100000, rfl, S.two, .inr ⟨_, rfl, S.most⟩, _, rfl, _, rfl, .inl ⟨⟨j, rfl⟩, _, rfl, ifF rfl ⟨_, rfl, .inr ⟨_, rfl, .inr ⟨⟨n, rfl, S⟩, e⟩⟩⟩⟩⟩⟩
    · refine ⟨_, rfl, .inl ⟨n, 2, .int 100000, rfl, R.two, .inr ⟨_, rfl, R.most⟩, _, rfl, _, rfl, .inl ⟨⟨j, rfl⟩, _, rfl, ifF rfl ⟨_, rfl, .inl ⟨n, rfl, R, ?_⟩⟩⟩⟩⟩
      refine ⟨_, rfl, rfl, _, rfl, if2 (fun _ => e) (fun h0 => ?_)⟩
      rw [dec_int, decide_eq_false_iff_not] at h0
      exact ⟨_, rfl, _, rfl, _, _, rfl, rfl, mx 100 100 jb jb, _, rfl, _, _, rfl, rfl, _, rfl, ifT (decide_eq_true (by omega)) e⟩
/-- no pair -/
def PairBad (K : PySem.W.Frag) (H : Hp) (x : V) : Prop := (∃ T : String, TyX K H x (.type T) ∧ kitB T "tuple" = some false) ∨ ∃ (a : Addr) (ys : List V), x = .ref a ∧ H a = some (.tup ys) ∧ (ys.length ≠ 2 ∨ ∃ y z : V, ys = [y, z] ∧ (NotNum K H y ∨ (∃ n : Int, y = .int n) ∧ NotNum K H z))
def spBadPair (K : PySem.W.Frag) (C1 : Addr) : Sp := fun vs H _ E => ∃ x : V, vs = [x] ∧ PairBad K H x ∧ E (.ref C1) none H
theorem bad_need_pair {f : Addr} {fd : FuncData} (F : Fun K "need_pair" "need_pair" s_need_pair f fd) (T : Tb mg) (XC_NoNumber : XCls K mg "NoNumber" C1) (DG_is_number : Dn P w K mg base "is_number" 1 ["thing"] [] (spIsNumG K)) : FnOk P w K mg base (L2.CX P w) 2 f fd ["thing"] (spBadPair K C1) := by
  refine F.okX sc_need_pair (fun vs H Q E h => ?_) (fun cdv A outer s H vs Q E hr h => ?_)
  · obtain ⟨x, rfl, _⟩ := h
    rfl
  · obtain ⟨x, rfl, h, e⟩ := h
    refine ⟨_, (pss_one (ps_if (PW.pt (pw_or (pt_not (pt_val (pe_callB (id := "isinstance") (isi_rule (K := K) rfl) (by rfl) T.b_isinstance (by decide +kernel) (pa_cons (pv 0) (pa_cons (pe_bltn (v := .ty "tuple") (by rfl) T.b_tuple (by decide +kernel) rfl) pa_nil))))) (pw_or (pt_cmpR op_ne (pe_callB (id := "len") (len_rule (K := K) rfl) (by rfl) T.b_len (by decide +kernel) (pa_cons (pv 0) pa_nil)) pe_int (nomark _)) (pw_or (pt_not (pt_val (pe_callD DG_is_number hr (by decide) (by rfl) (pa_cons (pe_ix (ixt (K := K) rfl) (pv 0) pe_int (fun _ _ => rfl)) pa_nil)))) (pw_or1 (pt_not (pt_val (pe_callD DG_is_number hr (by decide) (by rfl) (pa_cons (pe_ix (ixt (K := K) rfl) (pv 0) pe_int (fun _ _ => rfl)) pa_nil)))))))))
        (pss_one (ps_raiseX XC_NoNumber rfl (takes_of rfl rfl rfl rfl) (by rfl))) pss_nil)), ?_⟩
    rcases h with ⟨T, ty, h⟩ | ⟨a, ys, rfl, ha, h⟩
    · exact ⟨_, rfl, _, _, _, _, _, rfl, .ty _, ty, kit_ty h, _, rfl, ifT rfl e⟩
    · refine ⟨_, rfl, _, _, _, _, _, rfl, .ty _, ty_pr ha, kit_tt, _, rfl, ifF rfl ?_⟩
      refine ⟨_, rfl, a, _, rfl, .inr (SqT.of ha), rfl, _, rfl, if2 (fun _ => e) (fun hl => ?_)⟩
      have hl2 : ys.length = 2 := by
        rw [dec_int] at hl
        by_cases q : ((ys.length : Nat) : Int) = 2
        · omega
        · rw [decide_eq_false q] at hl
          exact absurd hl (by decide)
      rcases h with h | ⟨y, z, rfl, h⟩
      · exact absurd hl2 h
      · have st : SqT K H a [y, z] := SqT.of ha
        rcases h with h | ⟨⟨n, rfl⟩, h⟩
        · exact ⟨_, rfl, _, _, _, _, rfl, rfl, st, at0, y, rfl, .inr ⟨h, _, rfl, ifT rfl e⟩⟩
        · refine ⟨_, rfl, _, _, _, _, rfl, rfl, st, at0, _, rfl, .inl ⟨⟨n, rfl⟩, _, rfl, ifF rfl ?_⟩⟩
          exact ⟨_, rfl, _, _, _, _, rfl, rfl, st, at1, z, rfl, .inr ⟨h, _, rfl, ifT rfl e⟩⟩
def spBadWorth (K : PySem.W.Frag) (C1 C2 : Addr) : Sp := fun vs H Q E => ∃ x p : V, vs = [x, p] ∧ (spBadRoot K C1 C2 [x] H Q E ∨ (∃ n : Int, x = .int n ∧ Rootn n) ∧ PairBad K H p ∧ E (.ref C1) none H)
theorem bad_worth {f : Addr} {fd : FuncData} (F : Fun K "worth" "worth" s_worth f fd) (DX_need_root : DnX P w K mg base "need_root" 3 ["number"] [] (spOr spNeedRoot (spBadRoot K C1 C2))) (DX_need_pair : DnX P w K mg base "need_pair" 2 ["thing"] [] (spOr spNeedPair (spBadPair K C1))) :
    FnOk P w K mg base (L2.CX P w) 4 f fd ["number", "pair"] (spBadWorth K C1 C2) := by
  refine F.okX sc_worth (fun vs H Q E h => ?_) (fun cdv A outer s H vs Q E hr h => ?_)
  · obtain ⟨x, p, rfl, _⟩ := h
    rfl
  · obtain ⟨x, p, rfl, h⟩ := h
    refine ⟨_, (pss_cons (ps_expr (pe_callX DX_need_root hr (by decide) (by rfl) (takes_of rfl rfl rfl rfl) (pa_cons (pv 0) pa_nil)))
      (pss_cons (ps_expr (pe_callX DX_need_pair hr (by decide) (by rfl) (takes_of rfl rfl rfl rfl) (pa_cons (pv 1) pa_nil)))
      pss_never)), ?_⟩
    rcases h with h | ⟨⟨n, rfl, R⟩, hb, e⟩
    · obtain ⟨x', ex, h⟩ := h
      exact ⟨_, rfl, .inr ⟨_, rfl, by cases ex; exact h⟩⟩
    · exact ⟨_, rfl, .inl ⟨n, rfl, R, _, rfl, .inr ⟨p, rfl, hb, e⟩⟩⟩
def spBadTimes (K : PySem.W.Frag) (C1 C2 : Addr) : Sp := fun vs H Q E => ∃ x p r : V, vs = [x, p, r] ∧ (spBadRoot K C1 C2 [x] H Q E ∨ (∃ n : Int, x = .int n ∧ Rootn n) ∧ PairBad K H p ∧ E (.ref C1) none H ∨
  (∃ n : Int, x = .int n ∧ Rootn n) ∧ (∃ (t : Addr) (y z : Int), p = .ref t ∧ H t = some (pr y z)) ∧ PairBad K H r ∧ E (.ref C1) none H)
theorem bad_times {f : Addr} {fd : FuncData} (F : Fun K "times" "times" s_times f fd) (DX_need_root : DnX P w K mg base "need_root" 3 ["number"] [] (spOr spNeedRoot (spBadRoot K C1 C2))) (DX_need_pair : DnX P w K mg base "need_pair" 2 ["thing"] [] (spOr spNeedPair (spBadPair K C1))) :
    FnOk P w K mg base (L2.CX P w) 4 f fd ["number", "one", "other"] (spBadTimes K C1 C2) := by
  refine F.okX sc_times (fun vs H Q E h => ?_) (fun cdv A outer s H vs Q E hr h => ?_)
  · obtain ⟨x, p, r, rfl, _⟩ := h
    rfl
  · obtain ⟨x, p, r, rfl, h⟩ := h
    refine ⟨_, (pss_cons (ps_expr (pe_callX DX_need_root hr (by decide) (by rfl) (takes_of rfl rfl rfl rfl) (pa_cons (pv 0) pa_nil)))
      (pss_cons (ps_expr (pe_callX DX_need_pair hr (by decide) (by rfl) (takes_of rfl rfl rfl rfl) (pa_cons (pv 1) pa_nil)))
      (pss_cons (ps_expr (pe_callX DX_need_pair hr (by decide) (by rfl) (takes_of rfl rfl rfl rfl) (pa_cons (pv 2) pa_nil)))
      pss_never))), ?_⟩
    rcases h with h | ⟨⟨n, rfl, R⟩, hb, e⟩ | ⟨⟨n, rfl, R⟩, ⟨t, y, z, rfl, ht⟩, hb, e⟩
    · obtain ⟨x', ex, h⟩ := h
      exact ⟨_, rfl, .inr ⟨_, rfl, by cases ex; exact h⟩⟩
    · exact ⟨_, rfl, .inl ⟨n, rfl, R, _, rfl, .inr ⟨p, rfl, hb, e⟩⟩⟩
    · exact ⟨_, rfl, .inl ⟨n, rfl, R, _, rfl, .inl ⟨y, z, t, rfl, ht, _, rfl, .inr ⟨r, rfl, hb, e⟩⟩⟩⟩
end
/-! the law: what is asked, what is said -/
section
variable {P : Program} {w : World} {K : PySem.W.Frag} {mg : Str → Option Value} {base : Heap} {C0 C1 C2 : Addr}
def Asks (K : PySem.W.Frag) (C1 C2 : Addr) (w : Int) (x s t : V) (H : Hp) (Q : Hp → Prop) (E : XK) : Prop :=
  (w = 0 ∧ spOr spWhole (spBadWhole K C1) [x] H (fun _ H' => Q H') E) ∨ (w = 1 ∧ spOr spIsSq (spBadWhole K C1) [x] H (fun _ H' => Q H') E) ∨
  (w = 2 ∧ spOr spLadder (spBadRoot K C1 C2) [x] H (fun _ H' => Q H') E) ∨ (w = 3 ∧ spOr spLeast (spBadRoot K C1 C2) [x] H (fun _ H' => Q H') E) ∨ (w = 4 ∧ spOr spLess (spBadRoot K C1 C2) [x] H (fun _ H' => Q H') E) ∨
  (w = 5 ∧ spOr spFractions (spBadMany K C1 C2 200) [x, s] H (fun _ H' => Q H') E) ∨ (w = 6 ∧ spOr spOnes (spBadMany K C1 C2 20) [x, s] H (fun _ H' => Q H') E) ∨ (w = 7 ∧ spOr spReach (spBadReach K C1 C2) [x, s] H (fun _ H' => Q H') E) ∨
  (w = 8 ∧ spOr spWorth (spBadWorth K C1 C2) [x, s] H (fun _ H' => Q H') E) ∨ (w = 9 ∧ spOr spTimes (spBadTimes K C1 C2) [x, s, t] H (fun _ H' => Q H') E)
def spAsked (K : PySem.W.Frag) (C1 C2 : Addr) : Sp := fun vs H Q E => ∃ (w : Int) (x s t : V), vs = [.int w, x, s, t] ∧ Asks K C1 C2 w x s t H (fun H' => Q .non H') E
theorem ok_law_asked {f : Addr} {fd : FuncData} (F : Fun K "_law_asked" "_law_asked" s_l_asked f fd)
    (DX_whole_root : DnX P w K mg base "whole_root" 3 ["number"] [] (spOr spWhole (spBadWhole K C1))) (DX_is_square : DnX P w K mg base "is_square" 3 ["number"] [] (spOr spIsSq (spBadWhole K C1))) (DX_ladder : DnX P w K mg base "ladder" 4 ["number"] [] (spOr spLadder (spBadRoot K C1 C2)))
    (DX_least_one : DnX P w K mg base "least_one" 6 ["number"] [] (spOr spLeast (spBadRoot K C1 C2))) (DX_least_less_one : DnX P w K mg base "least_less_one" 5 ["number"] [] (spOr spLess (spBadRoot K C1 C2))) (DX_fractions : DnX P w K mg base "fractions" 4 ["number", "many"] [] (spOr spFractions (spBadMany K C1 C2 200)))
    (DX_ones : DnX P w K mg base "ones" 6 ["number", "many"] [] (spOr spOnes (spBadMany K C1 C2 20))) (DX_reach : DnX P w K mg base "reach" 4 ["number", "told"] [] (spOr spReach (spBadReach K C1 C2))) (DX_worth : DnX P w K mg base "worth" 4 ["number", "pair"] [] (spOr spWorth (spBadWorth K C1 C2)))
    (DX_times : DnX P w K mg base "times" 4 ["number", "one", "other"] [] (spOr spTimes (spBadTimes K C1 C2))) : FnOk P w K mg base (L2.CX P w) 7 f fd ["_law_which", "_law_number_here", "_law_second", "_law_third"] (spAsked K C1 C2) := by
  refine F.okX sc_l_asked (fun vs H Q E h => ?_) (fun cdv A outer s H vs Q E hr h => ?_)
  · obtain ⟨w, x, s, t, rfl, _⟩ := h
    rfl
  · obtain ⟨w, x, s, t, rfl, h⟩ := h
    refine ⟨_, (pss_one (ps_if (pt_cmpR op_eq (pv 0) pe_int (nomark _))
        (pss_one (ps_expr (pe_callX DX_whole_root hr (by decide) (by rfl) (takes_of rfl rfl rfl rfl) (pa_cons (pv 1) pa_nil)))) (pss_one (ps_if (pt_cmpR op_eq (pv 0) pe_int (nomark _))
        (pss_one (ps_expr (pe_callX DX_is_square hr (by decide) (by rfl) (takes_of rfl rfl rfl rfl) (pa_cons (pv 1) pa_nil)))) (pss_one (ps_if (pt_cmpR op_eq (pv 0) pe_int (nomark _))
        (pss_one (ps_expr (pe_callX DX_ladder hr (by decide) (by rfl) (takes_of rfl rfl rfl rfl) (pa_cons (pv 1) pa_nil)))) (pss_one (ps_if (pt_cmpR op_eq (pv 0) pe_int (nomark _))
        (pss_one (ps_expr (pe_callX DX_least_one hr (by decide) (by rfl) (takes_of rfl rfl rfl rfl) (pa_cons (pv 1) pa_nil)))) (pss_one (ps_if (pt_cmpR op_eq (pv 0) pe_int (nomark _))
        (pss_one (ps_expr (pe_callX DX_least_less_one hr (by decide) (by rfl) (takes_of rfl rfl rfl rfl) (pa_cons (pv 1) pa_nil)))) (pss_one (ps_if (pt_cmpR op_eq (pv 0) pe_int (nomark _))
        (pss_one (ps_expr (pe_callX DX_fractions hr (by decide) (by rfl) (takes_of rfl rfl rfl rfl) (pa_cons (pv 1) (pa_cons (pv 2) pa_nil))))) (pss_one (ps_if (pt_cmpR op_eq (pv 0) pe_int (nomark _))
        (pss_one (ps_expr (pe_callX DX_ones hr (by decide) (by rfl) (takes_of rfl rfl rfl rfl) (pa_cons (pv 1) (pa_cons (pv 2) pa_nil))))) (pss_one (ps_if (pt_cmpR op_eq (pv 0) pe_int (nomark _))
        (pss_one (ps_expr (pe_callX DX_reach hr (by decide) (by rfl) (takes_of rfl rfl rfl rfl) (pa_cons (pv 1) (pa_cons (pv 2) pa_nil))))) (pss_one (ps_if (pt_cmpR op_eq (pv 0) pe_int (nomark _))
        (pss_one (ps_expr (pe_callX DX_worth hr (by decide) (by rfl) (takes_of rfl rfl rfl rfl) (pa_cons (pv 1) (pa_cons (pv 2) pa_nil))))) (pss_one (ps_expr (pe_callX DX_times hr (by decide) (by rfl) (takes_of rfl rfl rfl rfl) (pa_cons (pv 1) (pa_cons (pv 2) (pa_cons (pv 3) pa_nil)))))))))))))))))))))))), ?_⟩
    rcases h with ⟨rfl, h⟩ | ⟨rfl, h⟩ | ⟨rfl, h⟩ | ⟨rfl, h⟩ | ⟨rfl, h⟩ | ⟨rfl, h⟩ | ⟨rfl, h⟩ | ⟨rfl, h⟩ | ⟨rfl, h⟩ | ⟨rfl, h⟩
    · refine ⟨_, rfl, rfl, _, rfl, ifT rfl ?_⟩
      exact ⟨_, rfl,  h⟩
    · refine ⟨_, rfl, rfl, _, rfl, ifF rfl ?_⟩
      refine ⟨_, rfl, rfl, _, rfl, ifT rfl ?_⟩
      exact ⟨_, rfl,  h⟩
    · refine ⟨_, rfl, rfl, _, rfl, ifF rfl ?_⟩
      refine ⟨_, rfl, rfl, _, rfl, ifF rfl ?_⟩
      refine ⟨_, rfl, rfl, _, rfl, ifT rfl ?_⟩
      exact ⟨_, rfl,  h⟩
    · refine ⟨_, rfl, rfl, _, rfl, ifF rfl ?_⟩
      refine ⟨_, rfl, rfl, _, rfl, ifF rfl ?_⟩
      refine ⟨_, rfl, rfl, _, rfl, ifF rfl ?_⟩
      refine ⟨_, rfl, rfl, _, rfl, ifT rfl ?_⟩
      exact ⟨_, rfl,  h⟩
    · refine ⟨_, rfl, rfl, _, rfl, ifF rfl ?_⟩
      refine ⟨_, rfl, rfl, _, rfl, ifF rfl ?_⟩
      refine ⟨_, rfl, rfl, _, rfl, ifF rfl ?_⟩
      refine ⟨_, rfl, rfl, _, rfl, ifF rfl ?_⟩
      refine ⟨_, rfl, rfl, _, rfl, ifT rfl ?_⟩
      exact ⟨_, rfl,  h⟩
    · refine ⟨_, rfl, rfl, _, rfl, ifF rfl ?_⟩
      refine ⟨_, rfl, rfl, _, rfl, ifF rfl ?_⟩
      refine ⟨_, rfl, rfl, _, rfl, ifF rfl ?_⟩
      refine ⟨_, rfl, rfl, _, rfl, ifF rfl ?_⟩
      refine ⟨_, rfl, rfl, _, rfl, ifF rfl ?_⟩
      refine ⟨_, rfl, rfl, _, rfl, ifT rfl ?_⟩
      exact ⟨_, rfl, _, rfl,  h⟩
    · refine ⟨_, rfl, rfl, _, rfl, ifF rfl ?_⟩
      refine ⟨_, rfl, rfl, _, rfl, ifF rfl ?_⟩
      refine ⟨_, rfl, rfl, _, rfl, ifF rfl ?_⟩
      refine ⟨_, rfl, rfl, _, rfl, ifF rfl ?_⟩
      refine ⟨_, rfl, rfl, _, rfl, ifF rfl ?_⟩
      refine ⟨_, rfl, rfl, _, rfl, ifF rfl ?_⟩
      refine ⟨_, rfl, rfl, _, rfl, ifT rfl ?_⟩
      exact ⟨_, rfl, _, rfl,  h⟩
    · refine ⟨_, rfl, rfl, _, rfl, ifF rfl ?_⟩
      refine ⟨_, rfl, rfl, _, rfl, ifF rfl ?_⟩
      refine ⟨_, rfl, rfl, _, rfl, ifF rfl ?_⟩
      refine ⟨_, rfl, rfl, _, rfl, ifF rfl ?_⟩
      refine ⟨_, rfl, rfl, _, rfl, ifF rfl ?_⟩
      refine ⟨_, rfl, rfl, _, rfl, ifF rfl ?_⟩
      refine ⟨_, rfl, rfl, _, rfl, ifF rfl ?_⟩
      refine ⟨_, rfl, rfl, _, rfl, ifT rfl ?_⟩
      exact ⟨_, rfl, _, rfl,  h⟩
    · refine ⟨_, rfl, rfl, _, rfl, ifF rfl ?_⟩
      refine ⟨_, rfl, rfl, _, rfl, ifF rfl ?_⟩
      refine ⟨_, rfl, rfl, _, rfl, ifF rfl ?_⟩
      refine ⟨_, rfl, rfl, _, rfl, ifF rfl ?_⟩
      refine ⟨_, rfl, rfl, _, rfl, ifF rfl ?_⟩
      refine ⟨_, rfl, rfl, _, rfl, ifF rfl ?_⟩
      refine ⟨_, rfl, rfl, _, rfl, ifF rfl ?_⟩
      refine ⟨_, rfl, rfl, _, rfl, ifF rfl ?_⟩
      refine ⟨_, rfl, rfl, _, rfl, ifT rfl ?_⟩
      exact ⟨_, rfl, _, rfl,  h⟩
    · refine ⟨_, rfl, rfl, _, rfl, ifF rfl ?_⟩
      refine ⟨_, rfl, rfl, _, rfl, ifF rfl ?_⟩
      refine ⟨_, rfl, rfl, _, rfl, ifF rfl ?_⟩
      refine ⟨_, rfl, rfl, _, rfl, ifF rfl ?_⟩
      refine ⟨_, rfl, rfl, _, rfl, ifF rfl ?_⟩
      refine ⟨_, rfl, rfl, _, rfl, ifF rfl ?_⟩
      refine ⟨_, rfl, rfl, _, rfl, ifF rfl ?_⟩
      refine ⟨_, rfl, rfl, _, rfl, ifF rfl ?_⟩
      refine ⟨_, rfl, rfl, _, rfl, ifF rfl ?_⟩
      exact ⟨_, rfl, _, rfl, _, rfl,  h⟩
/-- what is told of a call -/
inductive Res | ok | num | root
def Res.nm : Res → Str
  | .ok => ""
  | .num => "number"
  | .root => "root"
def ways (C1 C2 : Addr) (H : Hp) (Q : Hp → Prop) (E : XK) : Res → Prop
  | .ok => ∀ H', Same H H' → Q H'
  | .num => E (.ref C1) none H
  | .root => E (.ref C2) none H
/-- what a caught thing is -/
def Caught (C1 C2 : Addr) (H : Hp) (v : V) : Res → Prop
  | .ok => v = .non
  | .num => ∃ a, v = .ref a ∧ H a = some (ExT (.ref C1) a)
  | .root => ∃ a, v = .ref a ∧ H a = some (ExT (.ref C2) a)
theorem ahead_false : ∀ (m : Nat) (z' : V), m < 1 → [V.bl false, V.bl true][m]? = some z' → eqV z' (V.bl true) = false
  | 0, _, _, e => by
    cases e
    rfl
  | _ + 1, _, h, _ => by omega
def spName (C1 C2 : Addr) : Sp := fun vs H Q _ => ∃ (v : V) (r : Res), vs = [v] ∧ Caught C1 C2 H v r ∧ ∀ H', Same H H' → Q (.str r.nm) H'
theorem ok_law_name {f : Addr} {fd : FuncData} (F : Fun K "_law_name" "_law_name" s_l_name f fd) (T : Tb mg) (N : XNames K C1 C2) (XC_NoNumber : XCls K mg "NoNumber" C1) (XC_NoRoot : XCls K mg "NoRoot" C2) : FnOk P w K mg base CX0 1 f fd ["_law_error"] (spName C1 C2) := by
  refine F.ok sc_l_name (fun vs H Q E h => ?_) (fun cdv A outer s H vs Q E hr h => ?_)
  · obtain ⟨v, r, rfl, _⟩ := h
    rfl
  · obtain ⟨v, r, rfl, hc, q⟩ := h
    refine ⟨_, (pss_cons (ps_set (i := 1) sc_l_name.nd rfl (.inl rfl) (pe_lst (pa_cons (pe_callB (id := "isinstance") (call_isiX (K := K) rfl) (by rfl) T.b_isinstance (by decide +kernel) (pa_cons (pv 0) (pa_cons (pe_glob (v := .ref C1) (by rfl) XC_NoNumber.g rfl) pa_nil))) (pa_cons (pe_callB (id := "isinstance") (call_isiX (K := K) rfl) (by rfl) T.b_isinstance (by decide +kernel) (pa_cons (pv 0) (pa_cons (pe_glob (v := .ref C2) (by rfl) XC_NoRoot.g rfl) pa_nil))) pa_nil))))
      (pss_cons (ps_if (pt_cmpR op_isN (pv 0) pe_non (nomark _))
        (pss_one (ps_ret pe_str)) pss_nil)
      (pss_cons (ps_if (PW.pt (pw_or (pt_cmpR op_ne (pe_bm PySem.F.plainAttrs_list PySem.F.slot_list_count PySem.F.type_list_count (mt_countV (K := K) rfl) (pv 1) (pa_cons pe_bl pa_nil)) pe_int (nomark _)) (pw_or1 (pt_not (pt_val (pe_callB (id := "isinstance") (call_isiX (K := K) rfl) (by rfl) T.b_isinstance (by decide +kernel) (pa_cons (pv 0) (pa_cons (pe_bltn (v := .ty "ValueError") (by rfl) T.b_ValueError (by decide +kernel) rfl) pa_nil))))))))
        (pss_one (ps_ret pe_str)) pss_nil)
      (pss_one (ps_ret (pe_ix (ixl (K := K) rfl) (pe_lst (pa_cons pe_str (pa_cons pe_str pa_nil))) (pe_bm PySem.F.plainAttrs_list PySem.F.slot_list_index PySem.F.type_list_index mt_index (pv 1) (pa_cons pe_bl pa_nil)) (fun _ _ => rfl))))))), ?_⟩
    cases r with
    | ok =>
      cases hc
      refine ⟨_, rfl, .inl ⟨_, _, _, _, _, rfl, .own _, .base .non, N.n1, ?_⟩⟩
      refine ⟨_, rfl, .inl ⟨_, _, _, _, _, rfl, .own _, .base .non, N.n2, ?_⟩⟩
      refine ⟨(by show 2 ≤ sizeLine; decide), fun p np => ?_⟩
      exact ⟨_, rfl, rfl, _, rfl, ifT rfl (q _ (same_new np))⟩
    | num =>
      obtain ⟨a, rfl, ha⟩ := hc
      refine ⟨_, rfl, .inr ⟨_, _, _, _, _, rfl, .own _, ha, N.e1, N.k11, ?_⟩⟩
      refine ⟨_, rfl, .inr ⟨_, _, _, _, _, rfl, .own _, ha, N.e1, N.k12, ?_⟩⟩
      refine ⟨(by show 2 ≤ sizeLine; decide), fun p np => ?_⟩
      have s1 : Same H (upd H p (.lst [.bl true, .bl false])) := same_new np
      have hp : (upd H p (.lst [.bl true, .bl false])) p = some (.lst [.bl true, .bl false]) := upd_same
      refine ⟨_, rfl, rfl, _, rfl, ifF rfl ?_⟩
      refine ⟨.ref p, rfl, .inl ⟨rfl, _, SqL.of hp⟩, p, _, _, rfl, rfl, SqL.of hp, rfl, rfl, rfl, _, rfl, ifF rfl ?_⟩
      refine ⟨_, rfl, .inr ⟨_, _, _, _, _, rfl, .ty _, s1 _ _ ha, N.e1, N.v1, _, rfl, ifF rfl ?_⟩⟩
      refine ⟨(by show 2 ≤ sizeLine; decide), fun z nz => ?_⟩
      have s2 : Same (upd H p (.lst [.bl true, .bl false])) (upd (upd H p (.lst [.bl true, .bl false])) z (.lst [.str "number", .str "root"])) := same_new nz
      refine ⟨.ref p, rfl, .inl ⟨rfl, _, SqL.of (s2 _ _ hp)⟩, p, _, .bl true, 0, .bl true, rfl, rfl, SqL.of (s2 _ _ hp), rfl, rfl, rfl, rfl, fun m z' hm hz => absurd hm (Nat.not_lt_zero _), ?_⟩
      exact ⟨z, _, _, _, rfl, rfl, SqL.of upd_same, rfl, q _ (s1.trans s2)⟩
    | root =>
      obtain ⟨a, rfl, ha⟩ := hc
      refine ⟨_, rfl, .inr ⟨_, _, _, _, _, rfl, .own _, ha, N.e2, N.k21, ?_⟩⟩
      refine ⟨_, rfl, .inr ⟨_, _, _, _, _, rfl, .own _, ha, N.e2, N.k22, ?_⟩⟩
      refine ⟨(by show 2 ≤ sizeLine; decide), fun p np => ?_⟩
      have s1 : Same H (upd H p (.lst [.bl false, .bl true])) := same_new np
      have hp : (upd H p (.lst [.bl false, .bl true])) p = some (.lst [.bl false, .bl true]) := upd_same
      refine ⟨_, rfl, rfl, _, rfl, ifF rfl ?_⟩
      refine ⟨.ref p, rfl, .inl ⟨rfl, _, SqL.of hp⟩, p, _, _, rfl, rfl, SqL.of hp, rfl, rfl, rfl, _, rfl, ifF rfl ?_⟩
      refine ⟨_, rfl, .inr ⟨_, _, _, _, _, rfl, .ty _, s1 _ _ ha, N.e2, N.v2, _, rfl, ifF rfl ?_⟩⟩
      refine ⟨(by show 2 ≤ sizeLine; decide), fun z nz => ?_⟩
      have s2 : Same (upd H p (.lst [.bl false, .bl true])) (upd (upd H p (.lst [.bl false, .bl true])) z (.lst [.str "number", .str "root"])) := same_new nz
      refine ⟨.ref p, rfl, .inl ⟨rfl, _, SqL.of (s2 _ _ hp)⟩, p, _, .bl true, 1, .bl true, rfl, rfl, SqL.of (s2 _ _ hp), rfl, rfl, rfl, rfl, ahead_false, ?_⟩
      exact ⟨z, _, _, _, rfl, rfl, SqL.of upd_same, rfl, q _ (s1.trans s2)⟩
/-- a verdict -/
def Verdict (K : PySem.W.Frag) (C1 C2 : Addr) (w : Int) (x s t : V) (H : Hp) (r : Res) : Prop := ∀ (Q : Hp → Prop) (E : XK), ways C1 C2 H Q E r → Asks K C1 C2 w x s t H Q E
def spSaid (K : PySem.W.Frag) (C1 C2 : Addr) : Sp := fun vs H Q _ => ∃ (w : Int) (x s t : V) (r : Res), vs = [.int w, x, s, t] ∧ Verdict K C1 C2 w x s t H r ∧ ∀ H', Same H H' → Q (.str r.nm) H'
theorem ok_law_said {f : Addr} {fd : FuncData} (F : Fun K "_law_said" "_law_said" s_l_said f fd) (gC0 : mg "RootError" = some (.ref C0)) (x1 : PySem.W.exmOne K (.ref C1) (.ref C0) = some true) (x2 : PySem.W.exmOne K (.ref C2) (.ref C0) = some true)
    (DX_law_asked : DnX P w K mg base "_law_asked" 7 ["_law_which", "_law_number_here", "_law_second", "_law_third"] [] (spAsked K C1 C2)) (D_law_name : Dn P w K mg base "_law_name" 1 ["_law_error"] [] (spName C1 C2)) :
    FnOk P w K mg base CX0 8 f fd ["_law_which", "_law_number_here", "_law_second", "_law_third"] (spSaid K C1 C2) := by
  refine F.ok sc_l_said (fun vs H Q E h => ?_) (fun cdv A outer s H vs Q E hr h => ?_)
  · obtain ⟨w, x, s, t, r, rfl, _⟩ := h
    rfl
  · obtain ⟨w, x, s, t, r, rfl, hv, q⟩ := h
    refine ⟨_, (pss_cons (ps_set (i := 4) sc_l_said.nd rfl (.inl rfl) pe_non)
      (pss_cons (ps_try_keep (i := 5) rfl rfl rfl sc_l_said.nd rfl rfl ⟨rfl, by decide, .inl gC0⟩ (fun W pn xe tk => (pss_one (ps_expr (pe_callXS DX_law_asked hr (by decide) (by rfl) tk (pa_cons (pv 0) (pa_cons (pv 1) (pa_cons (pv 2) (pa_cons (pv 3) pa_nil)))))))) (fun a oe cls pn => (pss_one (ps_set (i := 4) sc_l_said.nd rfl (.inl rfl) (pv 5)))))
      (pss_one (ps_ret (pe_callD D_law_name hr (by decide) (by rfl) (pa_cons (pv 4) pa_nil)))))), ?_⟩
    refine ⟨_, rfl, _, rfl, _, rfl, _, rfl, w, x, s, t, rfl, hv _ _ ?_⟩
    cases r with
    | ok => exact fun H' sm => ⟨_, rfl, _, .ok, rfl, rfl, fun H2 s2 => q _ (sm.trans s2)⟩
    | num => exact ⟨rfl, x1, fun a ha => ⟨_, rfl, _, rfl, _, .num, rfl, ⟨a, rfl, upd_same⟩, fun H2 s2 => q _ ((same_new ha).trans s2)⟩⟩
    | root => exact ⟨rfl, x2, fun a ha => ⟨_, rfl, _, rfl, _, .root, rfl, ⟨a, rfl, upd_same⟩, fun H2 s2 => q _ ((same_new ha).trans s2)⟩⟩
end
/-! verdicts -/
section
variable {K : PySem.W.Frag} {C1 C2 : Addr} {H : Hp}
theorem v_num01 {w : Int} {x s t : V} (hb : NumBad K H x 0 .non) (hw : w = 0 ∨ w = 1) : Verdict K C1 C2 w x s t H .num := fun Q E e => by
  rcases hw with rfl | rfl
  · exact .inl ⟨rfl, .inr ⟨x, rfl, hb, e⟩⟩
  · exact .inr (.inl ⟨rfl, .inr ⟨x, rfl, hb, e⟩⟩)
theorem v_num {w : Int} {x s t : V} (hb : NumBad K H x 2 (.int 100000)) (h1 : 2 ≤ w) (h2 : w ≤ 9) : Verdict K C1 C2 w x s t H .num := fun Q E e => by
  rcases (by omega : w = 2 ∨ w = 3 ∨ w = 4 ∨ w = 5 ∨ w = 6 ∨ w = 7 ∨ w = 8 ∨ w = 9) with rfl | rfl | rfl | rfl | rfl | rfl | rfl | rfl
  · exact .inr (.inr (.inl ⟨rfl, .inr ⟨x, rfl, .inl ⟨hb, e⟩⟩⟩))
  · exact .inr (.inr (.inr (.inl ⟨rfl, .inr ⟨x, rfl, .inl ⟨hb, e⟩⟩⟩)))
  · exact .inr (.inr (.inr (.inr (.inl ⟨rfl, .inr ⟨x, rfl, .inl ⟨hb, e⟩⟩⟩))))
  · exact .inr (.inr (.inr (.inr (.inr (.inl ⟨rfl, .inr ⟨x, s, rfl, .inl ⟨hb, e⟩⟩⟩)))))
  · exact .inr (.inr (.inr (.inr (.inr (.inr (.inl ⟨rfl, .inr ⟨x, s, rfl, .inl ⟨hb, e⟩⟩⟩))))))
  · exact .inr (.inr (.inr (.inr (.inr (.inr (.inr (.inl ⟨rfl, .inr ⟨x, s, rfl, .inl ⟨hb, e⟩⟩⟩)))))))
  · exact .inr (.inr (.inr (.inr (.inr (.inr (.inr (.inr (.inl ⟨rfl, .inr ⟨x, s, rfl, .inl ⟨x, rfl, .inl ⟨hb, e⟩⟩⟩⟩))))))))
  · exact .inr (.inr (.inr (.inr (.inr (.inr (.inr (.inr (.inr (⟨rfl, .inr ⟨x, s, t, rfl, .inl ⟨x, rfl, .inl ⟨hb, e⟩⟩⟩⟩)))))))))
/-- a second one that is good -/
structure GoodSec (H : Hp) (w : Int) (s : V) : Prop where
  n5 : w = 5 → s = .int 3
  n6 : w = 6 → s = .int 3
  n7 : w = 7 → s = .int 1
  pr : 8 ≤ w → ∃ t, s = .ref t ∧ H t = some (pr 1 1)
theorem GoodSec.same {H H' : Hp} {w : Int} {s : V} (h : GoodSec H w s) (sm : Same H H') : GoodSec H' w s := ⟨h.n5, h.n6, h.n7, fun q => by
  obtain ⟨t, e, ht⟩ := h.pr q
  exact ⟨t, e, sm _ _ ht⟩⟩
theorem v_root {w n : Int} {s : V} (S : Sqr n) (hs : GoodSec H w s) (h1 : 2 ≤ w) (h2 : w ≤ 9) : Verdict K C1 C2 w (.int n) s s H .root := fun Q E e => by
  rcases (by omega : w = 2 ∨ w = 3 ∨ w = 4 ∨ w = 5 ∨ w = 6 ∨ w = 7 ∨ w = 8 ∨ w = 9) with rfl | rfl | rfl | rfl | rfl | rfl | rfl | rfl
  · exact .inr (.inr (.inl ⟨rfl, .inr ⟨_, rfl, .inr ⟨⟨n, rfl, S⟩, e⟩⟩⟩))
  · exact .inr (.inr (.inr (.inl ⟨rfl, .inr ⟨_, rfl, .inr ⟨⟨n, rfl, S⟩, e⟩⟩⟩)))
  · exact .inr (.inr (.inr (.inr (.inl ⟨rfl, .inr ⟨_, rfl, .inr ⟨⟨n, rfl, S⟩, e⟩⟩⟩))))
  · have e0 : s = .int 3 := hs.n5 rfl
    subst e0
    exact .inr (.inr (.inr (.inr (.inr (.inl ⟨rfl, .inr ⟨_, _, rfl, .inr (.inr ⟨⟨n, 3, rfl, rfl, S, by decide, by decide⟩, e⟩)⟩⟩)))))
  · have e0 : s = .int 3 := hs.n6 rfl
    subst e0
    exact .inr (.inr (.inr (.inr (.inr (.inr (.inl ⟨rfl, .inr ⟨_, _, rfl, .inr (.inr ⟨⟨n, 3, rfl, rfl, S, by decide, by decide⟩, e⟩)⟩⟩))))))
  · have e0 : s = .int 1 := hs.n7 rfl
    subst e0
    exact .inr (.inr (.inr (.inr (.inr (.inr (.inr (.inl ⟨rfl, .inr ⟨_, _, rfl, .inr (.inr (.inl ⟨⟨n, 1, rfl, rfl, S⟩, e⟩))⟩⟩)))))))
  · obtain ⟨u, rfl, hu⟩ := hs.pr (by decide)
    exact .inr (.inr (.inr (.inr (.inr (.inr (.inr (.inr (.inl ⟨rfl, .inr ⟨_, _, rfl, .inl ⟨_, rfl, .inr ⟨⟨n, rfl, S⟩, e⟩⟩⟩⟩))))))))
  · obtain ⟨u, rfl, hu⟩ := hs.pr (by decide)
    exact .inr (.inr (.inr (.inr (.inr (.inr (.inr (.inr (.inr (⟨rfl, .inr ⟨_, _, _, rfl, .inl ⟨_, rfl, .inr ⟨⟨n, rfl, S⟩, e⟩⟩⟩⟩)))))))))
theorem v_ok01 {w n : Int} {s t : V} (n0 : 0 ≤ n) (big : n < 2 ^ 1000) (hw : w = 0 ∨ w = 1) : Verdict K C1 C2 w (.int n) s t H .ok := fun Q E q => by
  rcases hw with rfl | rfl
  · exact .inl ⟨rfl, .inl ⟨n, rfl, n0, big, q _ (Same.refl _)⟩⟩
  · exact .inr (.inl ⟨rfl, .inl ⟨n, rfl, n0, big, q _ (Same.refl _)⟩⟩)
theorem v_ok {w n : Int} {s : V} (R : Rootn n) (hs : GoodSec H w s) (h1 : 2 ≤ w) (h2 : w ≤ 9) : Verdict K C1 C2 w (.int n) s s H .ok := fun Q E q => by
  rcases (by omega : w = 2 ∨ w = 3 ∨ w = 4 ∨ w = 5 ∨ w = 6 ∨ w = 7 ∨ w = 8 ∨ w = 9) with rfl | rfl | rfl | rfl | rfl | rfl | rfl | rfl
  · exact .inr (.inr (.inl ⟨rfl, .inl ⟨n, rfl, R, fun l p u H' _ sm _ _ _ _ _ => q _ sm⟩⟩))
  · exact .inr (.inr (.inr (.inl ⟨rfl, .inl ⟨n, rfl, R, fun l u H' _ sm _ => q _ sm⟩⟩)))
  · exact .inr (.inr (.inr (.inr (.inl ⟨rfl, .inl ⟨n, rfl, R, fun l H' _ sm => ⟨fun _ => q _ sm, fun u _ _ => q _ sm⟩⟩⟩))))
  · have e0 : s = .int 3 := hs.n5 rfl
    subst e0
    exact .inr (.inr (.inr (.inr (.inr (.inl ⟨rfl, .inl ⟨n, 3, rfl, R, by decide, by decide, fun p as H' sm _ _ _ => q _ sm⟩⟩)))))
  · have e0 : s = .int 3 := hs.n6 rfl
    subst e0
    exact .inr (.inr (.inr (.inr (.inr (.inr (.inl ⟨rfl, .inl ⟨n, 3, rfl, R, by decide, by decide, fun l p as H' _ sm _ _ _ => q _ sm⟩⟩))))))
  · have e0 : s = .int 1 := hs.n7 rfl
    subst e0
    exact .inr (.inr (.inr (.inr (.inr (.inr (.inr (.inl ⟨rfl, .inl ⟨n, 1, rfl, R, by decide, R.two, fun l H' _ sm => ⟨fun _ => q _ sm, fun x y u _ _ => q _ sm⟩⟩⟩)))))))
  · obtain ⟨u, rfl, hu⟩ := hs.pr (by decide)
    exact .inr (.inr (.inr (.inr (.inr (.inr (.inr (.inr (.inl ⟨rfl, .inl ⟨n, 1, 1, u, 4, rfl, R, hu, by decide, by decide, by decide, q _ (Same.refl _)⟩⟩))))))))
  · obtain ⟨u, rfl, hu⟩ := hs.pr (by decide)
    exact .inr (.inr (.inr (.inr (.inr (.inr (.inr (.inr (.inr (⟨rfl, .inl ⟨n, 1, 1, 1, 1, u, u, 4, 4, rfl, R, hu, hu, by decide, by decide, by decide, by decide, by decide, fun p np => q _ (same_new np)⟩⟩)))))))))
theorem v5_sec {n : Int} {m t : V} (h1 : 2 ≤ n) (h2 : n ≤ 100000) (hb : NumBad K H m 0 (.int 200)) : Verdict K C1 C2 5 (.int n) m t H .num := fun Q E e => .inr (.inr (.inr (.inr (.inr (.inl ⟨rfl, .inr ⟨_, _, rfl, .inr (.inl ⟨⟨n, rfl, h1, h2⟩, hb, e⟩)⟩⟩)))))
theorem v5_ok {n j : Int} {t : V} (R : Rootn n) (j0 : 0 ≤ j) (j1 : j ≤ 200) : Verdict K C1 C2 5 (.int n) (.int j) t H .ok := fun Q E q => .inr (.inr (.inr (.inr (.inr (.inl ⟨rfl, .inl ⟨n, j, rfl, R, j0, j1, fun p as H' sm _ _ _ => q _ sm⟩⟩)))))
theorem v6_sec {n : Int} {m t : V} (h1 : 2 ≤ n) (h2 : n ≤ 100000) (hb : NumBad K H m 0 (.int 20)) : Verdict K C1 C2 6 (.int n) m t H .num := fun Q E e => .inr (.inr (.inr (.inr (.inr (.inr (.inl ⟨rfl, .inr ⟨_, _, rfl, .inr (.inl ⟨⟨n, rfl, h1, h2⟩, hb, e⟩)⟩⟩))))))
theorem v6_ok {n j : Int} {t : V} (R : Rootn n) (j0 : 0 ≤ j) (j1 : j ≤ 20) : Verdict K C1 C2 6 (.int n) (.int j) t H .ok := fun Q E q => .inr (.inr (.inr (.inr (.inr (.inr (.inl ⟨rfl, .inl ⟨n, j, rfl, R, j0, j1, fun l p as H' _ sm _ _ _ => q _ sm⟩⟩))))))
theorem v7_sec {n : Int} {c t : V} (h1 : 2 ≤ n) (h2 : n ≤ 100000) (hb : NotNum K H c) : Verdict K C1 C2 7 (.int n) c t H .num := fun Q E e => .inr (.inr (.inr (.inr (.inr (.inr (.inr (.inl ⟨rfl, .inr ⟨_, _, rfl, .inr (.inl ⟨⟨n, rfl, h1, h2⟩, hb, e⟩)⟩⟩)))))))
theorem v7_root {n j : Int} {t : V} (S : Sqr n) : Verdict K C1 C2 7 (.int n) (.int j) t H .root := fun Q E e => .inr (.inr (.inr (.inr (.inr (.inr (.inr (.inl ⟨rfl, .inr ⟨_, _, rfl, .inr (.inr (.inl ⟨⟨n, j, rfl, rfl, S⟩, e⟩))⟩⟩)))))))
theorem v7_far {n j : Int} {t : V} (R : Rootn n) (hj : j = 0 ∨ n ≤ j * j) (jb : j.natAbs < 2 ^ 100) : Verdict K C1 C2 7 (.int n) (.int j) t H .num := fun Q E e => .inr (.inr (.inr (.inr (.inr (.inr (.inr (.inl ⟨rfl, .inr ⟨_, _, rfl, .inr (.inr (.inr ⟨⟨n, j, rfl, rfl, R, hj, jb⟩, e⟩))⟩⟩)))))))
theorem v7_ok {n j : Int} {t : V} (R : Rootn n) (j0 : j ≠ 0) (j1 : j * j < n) : Verdict K C1 C2 7 (.int n) (.int j) t H .ok := fun Q E q => .inr (.inr (.inr (.inr (.inr (.inr (.inr (.inl ⟨rfl, .inl ⟨n, j, rfl, R, j0, j1, fun l H' _ sm => ⟨fun _ => q _ sm, fun x y u _ _ => q _ sm⟩⟩⟩)))))))
theorem v8_root {n : Int} {s t : V} (S : Sqr n) : Verdict K C1 C2 8 (.int n) s t H .root := fun Q E e => .inr (.inr (.inr (.inr (.inr (.inr (.inr (.inr (.inl ⟨rfl, .inr ⟨_, _, rfl, .inl ⟨_, rfl, .inr ⟨⟨n, rfl, S⟩, e⟩⟩⟩⟩))))))))
theorem v9_root {n : Int} {s t : V} (S : Sqr n) : Verdict K C1 C2 9 (.int n) s t H .root := fun Q E e => .inr (.inr (.inr (.inr (.inr (.inr (.inr (.inr (.inr (⟨rfl, .inr ⟨_, _, _, rfl, .inl ⟨_, rfl, .inr ⟨⟨n, rfl, S⟩, e⟩⟩⟩⟩)))))))))
theorem v8_pair {n : Int} {s t : V} (R : Rootn n) (hb : PairBad K H s) : Verdict K C1 C2 8 (.int n) s t H .num := fun Q E e => .inr (.inr (.inr (.inr (.inr (.inr (.inr (.inr (.inl ⟨rfl, .inr ⟨_, _, rfl, .inr ⟨⟨n, rfl, R⟩, hb, e⟩⟩⟩))))))))
theorem v9_pair {n : Int} {s t : V} (R : Rootn n) (hb : PairBad K H s) : Verdict K C1 C2 9 (.int n) s t H .num := fun Q E e => .inr (.inr (.inr (.inr (.inr (.inr (.inr (.inr (.inr (⟨rfl, .inr ⟨_, _, _, rfl, .inr (.inl ⟨⟨n, rfl, R⟩, hb, e⟩)⟩⟩)))))))))
theorem v9_pair2 {n : Int} {u : Addr} {y z : Int} {t : V} (R : Rootn n) (hu : H u = some (pr y z)) (hb : PairBad K H t) : Verdict K C1 C2 9 (.int n) (.ref u) t H .num := fun Q E e => .inr (.inr (.inr (.inr (.inr (.inr (.inr (.inr (.inr (⟨rfl, .inr ⟨_, _, _, rfl, .inr (.inr ⟨⟨n, rfl, R⟩, ⟨u, y, z, rfl, hu⟩, hb, e⟩)⟩⟩)))))))))
theorem v9_ok {n y z a b : Int} {u v : Addr} (R : Rootn n) (hu : H u = some (pr y z)) (hv : H v = some (pr a b)) (hy : y.natAbs < 2 ^ 200) (hz : z.natAbs < 2 ^ 200) (ha : a.natAbs < 2 ^ 200) (hb : b.natAbs < 2 ^ 200) : Verdict K C1 C2 9 (.int n) (.ref u) (.ref v) H .ok := fun Q E q => .inr (.inr (.inr (.inr (.inr (.inr (.inr (.inr (.inr (⟨rfl, .inl ⟨n, y, z, a, b, u, v, 200, 200, rfl, R, hu, hv, hy, hz, ha, hb, by decide, fun p np => q _ (same_new np)⟩⟩)))))))))
end
/-! the law: numbers -/
section
variable {P : Program} {w : World} {K : PySem.W.Frag} {mg : Str → Option Value} {base : Heap} {C0 C1 C2 : Addr}
theorem gen_ifS {c : TT} {t u t2 : TS} {D : Ends} {σ : L2.St} {H : Hp} (R : Bool → Hp → Prop) (h : ∀ Q' : Bool → Hp → Prop, (∀ b H2, R b H2 → Q' b H2) → c σ H Q') (k : ∀ b H2, R b H2 → if b = true then t { D with nx := t2 D } σ H2 else u { D with nx := t2 D } σ H2) : tSeq (tIfS c t u) t2 D σ H := h _ k
theorem gen_if {c : TT} {t u : TS} {D : Ends} {σ : L2.St} {H : Hp} (R : Bool → Hp → Prop) (h : ∀ Q' : Bool → Hp → Prop, (∀ b H2, R b H2 → Q' b H2) → c σ H Q') (k : ∀ b H2, R b H2 → if b = true then t D σ H2 else u D σ H2) : tIfS c t u D σ H := h _ k
theorem ne_same {v : V} : (!decide (v = v)) = false := by
  rw [decide_eq_true rfl]
  rfl
theorem eq_same {v : V} : decide (v = v) = true := decide_eq_true rfl
theorem tyX_same {H H' : Hp} {x : V} {T : Value} (s : Same H H') (h : TyX K H x T) : TyX K H' x T := by
  cases h with
  | base h =>
    cases h with
    | non => exact .base .non
    | bl b => exact .base (.bl b)
    | int i => exact .base (.int i)
    | str x => exact .base (.str x)
    | flt x => exact .base (.flt x)
    | lst e => exact .base (.lst (s _ _ e))
    | frz e => exact .base (.frz (s _ _ e))
    | tup e => exact .base (.tup (s _ _ e))
    | dK e => exact .base (.dK (s _ _ e))
    | dT e => exact .base (.dT (s _ _ e))
    | ins e cl ha hn htk hm => exact .base (.ins (s _ _ e) cl ha hn htk hm)
  | byt b => exact .byt b
  | set e => exact .set (s _ _ e)
  | kList e c => exact .kList e c
  | kTuple e c => exact .kTuple e c
  | kDict e c => exact .kDict e c
  | fTuple e => exact .fTuple (s _ _ e)
  | fDict e => exact .fDict (s _ _ e)
theorem NotNum.same {H H' : Hp} {x : V} (h : NotNum K H x) (s : Same H H') : NotNum K H' x := by
  obtain ⟨T, b, ty, h1, h2⟩ := h
  exact ⟨T, b, tyX_same s ty, h1, h2⟩
theorem NumBad.same {H H' : Hp} {x m : V} {l : Int} (h : NumBad K H x l m) (s : Same H H') : NumBad K H' x l m := h.elim (fun h => .inl (h.same s)) .inr
/-- a thing that is no number, or less than nought -/
def Odd (K : PySem.W.Frag) (H : Hp) (x : V) : Prop := (∃ n : Int, x = .int n ∧ n < 0) ∨ (∃ p, x = .bl p) ∨ ∃ T : String, TyX K H x (.type T) ∧ kitB T "int" = some false
theorem Odd.same {H H' : Hp} {x : V} (h : Odd K H x) (s : Same H H') : Odd K H' x := by
  rcases h with h | h | ⟨T, ty, h⟩
  · exact .inl h
  · exact .inr (.inl h)
  · exact .inr (.inr ⟨T, tyX_same s ty, h⟩)
theorem Odd.bad {H : Hp} {x m : V} {l : Int} (h : Odd K H x) (hl : 0 ≤ l) : NumBad K H x l m := by
  rcases h with ⟨n, rfl, hn⟩ | ⟨p, rfl⟩ | ⟨T, ty, h⟩
  · exact .inr ⟨n, rfl, .inl (by omega)⟩
  · exact .inl ⟨"bool", true, .base (.bl p), by decide +kernel, fun _ => by decide +kernel⟩
  · exact .inl ⟨T, false, ty, h, fun e => Bool.noConfusion e⟩
theorem one_bad {H : Hp} {m : V} {n : Int} (h : n < 2) : NumBad K H (.int n) 2 m := .inr ⟨n, rfl, .inl h⟩
theorem big_bad {H : Hp} {n : Int} (h : 100000 < n) : NumBad K H (.int n) 2 (.int 100000) := .inr ⟨n, rfl, .inr ⟨by omega, 100000, rfl, h⟩⟩
def spNums (K : PySem.W.Frag) : Sp := fun vs H Q _ => ∃ (x : V) (q g : Int), vs = [x, .int q, .int g] ∧ Odd K H x ∧ Sqr q ∧ Rootn g ∧ ∀ H', Same H H' → Q (.bl true) H'
theorem ok_law_numbers_right {f : Addr} {fd : FuncData} (F : Fun K "_law_numbers_right" "_law_numbers_right" s_l_numbers_right f fd) (T : Tb mg) (D_law_said : Dn P w K mg base "_law_said" 8 ["_law_which", "_law_number_here", "_law_second", "_law_third"] [] (spSaid K C1 C2)) :
    FnOk P w K mg base CX0 9 f fd ["_law_odd", "_law_square", "_law_good"] (spNums K) := by
  refine F.ok sc_l_numbers_right (fun vs H Q E h => ?_) (fun cdv A outer s H vs Q E hr h => ?_)
  · obtain ⟨x, q, g, rfl, _⟩ := h
    rfl
  · obtain ⟨x, q, g, rfl, O, S, R, out⟩ := h
    have g0 := R.two
    have gb := R.big
    refine ⟨_, (pss_cons (ps_for PassesOwn.never rfl (pi_range1 (by rfl) T.b_range (pa_cons pe_int pa_nil)) (pg_name (i := 3) sc_l_numbers_right.nd rfl (.inl rfl))
        (pss_cons (ps_if (pt_cmpR op_ne (pe_callD D_law_said hr (by decide) (by rfl) (pa_cons (pv 3) (pa_cons (pv 0) (pa_cons pe_non (pa_cons pe_non pa_nil))))) pe_str (nomark _))
        (pss_one (ps_ret pe_bl)) pss_nil)
      (pss_cons (ps_set (i := 4) sc_l_numbers_right.nd rfl (.inl rfl) (pe_ix (ixl (K := K) rfl) (pe_lst (pa_cons pe_non (pa_cons pe_non (pa_cons pe_non (pa_cons pe_non (pa_cons pe_non (pa_cons pe_int (pa_cons pe_int (pa_cons pe_int (pa_cons (pe_tup (pa_cons pe_int (pa_cons pe_int pa_nil))) (pa_cons (pe_tup (pa_cons pe_int (pa_cons pe_int pa_nil))) pa_nil))))))))))) (pv 3) (fun _ _ => rfl)))
      (pss_cons (ps_if (PW.pt (pw_and (pt_cmpR op_gt (pv 3) pe_int (nomark _)) (pw_and1 (pt_cmpR op_ne (pe_callD D_law_said hr (by decide) (by rfl) (pa_cons (pv 3) (pa_cons (pv 1) (pa_cons (pv 4) (pa_cons (pv 4) pa_nil))))) pe_str (nomark _)))))
        (pss_one (ps_ret pe_bl)) pss_nil)
      (pss_cons (ps_if (pt_cmpR op_ne (pe_callD D_law_said hr (by decide) (by rfl) (pa_cons (pv 3) (pa_cons (pv 2) (pa_cons (pv 4) (pa_cons (pv 4) pa_nil))))) pe_str (nomark _))
        (pss_one (ps_ret pe_bl)) pss_nil)
      (pss_one (ps_for PassesOwn.never rfl (pi_list (pe_lst (pa_cons pe_int (pa_cons pe_int (pa_cons pe_int pa_nil))))) (pg_name (i := 5) sc_l_numbers_right.nd rfl (.inl rfl))
        (pss_one (ps_if (PW.pt (pw_and (pt_cmpR op_gt (pv 3) pe_int (nomark _)) (pw_and1 (pt_cmpR op_ne (pe_callD D_law_said hr (by decide) (by rfl) (pa_cons (pv 3) (pa_cons (pv 5) (pa_cons (pv 4) (pa_cons (pv 4) pa_nil))))) pe_str (nomark _)))))
        (pss_one (ps_ret pe_bl)) pss_nil)))))))))
      (pss_one (ps_ret (pe_and (pe_cmpR op_eq (pe_callD D_law_said hr (by decide) (by rfl) (pa_cons pe_int (pa_cons pe_int (pa_cons pe_non (pa_cons pe_non pa_nil))))) pe_str (nomark _)) (pe_one (pe_cmpR op_eq (pe_callD D_law_said hr (by decide) (by rfl) (pa_cons pe_int (pa_cons (pe_op op_pow pe_int pe_int) (pa_cons pe_non (pa_cons pe_non pa_nil))))) pe_str (nomark _))))))), ?_⟩
    refine ⟨10, rfl, by decide, by decide, for_range (lo := 0) (n := 10) (fun i σ H' => Same H H' ∧ ∃ y3 y4 y5 : Option V, σ = [some x, some (.int q), some (.int g), y3, y4, y5]) ⟨Same.refl _, none, none, none, rfl⟩ (fun i σ H' hi hG => ?_) (fun σ H' hG => ?_)⟩
    · obtain ⟨sm, y3, y4, y5, rfl⟩ := hG
      have w0 : 0 ≤ (0 + (i : Nat) : Int) := by omega
      have w9 : (0 + (i : Nat) : Int) ≤ 9 := by omega
      have inv : ∀ (H2 : Hp) (a b c : Option V), Same H H2 → Same H H2 ∧ ∃ y3 y4 y5 : Option V, [some x, some (V.int q), some (.int g), a, b, c] = [some x, some (.int q), some (.int g), y3, y4, y5] := fun H2 a b c s2 => ⟨s2, a, b, c, rfl⟩
      generalize (0 + (i : Nat) : Int) = wh at *
      have O1 := O.same sm
      have first : Verdict K C1 C2 wh x .non .non H' .num := by
        by_cases h2 : 2 ≤ wh
        · exact v_num (O1.bad (by decide)) h2 w9
        · exact v_num01 (O1.bad (by decide)) (by omega)
      refine ⟨_, rfl, _, rfl, wh, x, .non, .non, .num, rfl, first, fun H1 s1 => ⟨rfl, _, rfl, ifF ne_same ?_⟩⟩
      have sm1 := sm.trans s1
      -- the second one
      refine ⟨(by show 2 ≤ sizeLine; decide), fun t1 nt1 => ⟨(by show 2 ≤ sizeLine; decide), fun t2 nt2 => ⟨(by show 10 ≤ sizeLine; decide), fun z nz => ?_⟩⟩⟩
      have s2 : Same H1 (upd H1 t1 (pr 1 1)) := same_new nt1
      have s3 : Same (upd H1 t1 (pr 1 1)) (upd (upd H1 t1 (pr 1 1)) t2 (pr 1 1)) := same_new nt2
      have ht1 : (upd H1 t1 (pr 1 1)) t1 = some (pr 1 1) := upd_same
      have ht2 : (upd (upd H1 t1 (pr 1 1)) t2 (pr 1 1)) t2 = some (pr 1 1) := upd_same
      have s4 : Same (upd (upd H1 t1 (pr 1 1)) t2 (pr 1 1)) (upd (upd (upd H1 t1 (pr 1 1)) t2 (pr 1 1)) z (.lst [.non, .non, .non, .non, .non, .int 3, .int 3, .int 1, .ref t1, .ref t2])) := same_new nz
      have hz : (upd (upd (upd H1 t1 (pr 1 1)) t2 (pr 1 1)) z (.lst [.non, .non, .non, .non, .non, .int 3, .int 3, .int 1, .ref t1, .ref t2])) z = some (.lst [.non, .non, .non, .non, .non, .int 3, .int 3, .int 1, .ref t1, .ref t2]) := upd_same
      have hg1 := s4 _ _ (s3 _ _ ht1)
      have hg2 := s4 _ _ ht2
      have sm4 := sm1.trans (s2.trans (s3.trans s4))
      refine ⟨_, rfl, ?_⟩
      show rIxL K (.ref z) (.int wh) (upd (upd (upd H1 t1 (pr 1 1)) t2 (pr 1 1)) z (.lst [.non, .non, .non, .non, .non, .int 3, .int 3, .int 1, .ref t1, .ref t2])) _
      generalize (upd (upd (upd H1 t1 (pr 1 1)) t2 (pr 1 1)) z (.lst [.non, .non, .non, .non, .non, .int 3, .int 3, .int 1, .ref t1, .ref t2])) = H4 at *
      obtain ⟨sec, hat, gs⟩ : ∃ sec, atI [V.non, .non, .non, .non, .non, .int 3, .int 3, .int 1, .ref t1, .ref t2] wh = some sec ∧ GoodSec H4 wh sec := by
        rcases (by omega : wh = 0 ∨ wh = 1 ∨ wh = 2 ∨ wh = 3 ∨ wh = 4 ∨ wh = 5 ∨ wh = 6 ∨ wh = 7 ∨ wh = 8 ∨ wh = 9) with rfl | rfl | rfl | rfl | rfl | rfl | rfl | rfl | rfl | rfl
        all_goals first
          | exact ⟨_, rfl, ⟨fun _ => rfl, fun e => absurd e (by decide), fun e => absurd e (by decide), fun e => absurd e (by decide)⟩⟩
          | exact ⟨_, rfl, ⟨fun e => absurd e (by decide), fun _ => rfl, fun e => absurd e (by decide), fun e => absurd e (by decide)⟩⟩
          | exact ⟨_, rfl, ⟨fun e => absurd e (by decide), fun e => absurd e (by decide), fun _ => rfl, fun e => absurd e (by decide)⟩⟩
          | exact ⟨_, rfl, ⟨fun e => absurd e (by decide), fun e => absurd e (by decide), fun e => absurd e (by decide), fun e => absurd e (by decide)⟩⟩
          | exact ⟨_, rfl, ⟨fun e => absurd e (by decide), fun e => absurd e (by decide), fun e => absurd e (by decide), fun _ => ⟨_, rfl, hg1⟩⟩⟩
          | exact ⟨_, rfl, ⟨fun e => absurd e (by decide), fun e => absurd e (by decide), fun e => absurd e (by decide), fun _ => ⟨_, rfl, hg2⟩⟩⟩
      refine ⟨z, _, _, _, rfl, rfl, SqL.of hz, hat, ?_⟩
      dsimp only
      refine go_next ?_
      have O4 := O.same sm4
      -- a square
      refine gen_ifS (fun b H5 => b = false ∧ Same H4 H5) (fun Q' k => ?_) (fun b H5 hb => ?_)
      · refine ⟨_, rfl, _, _, rfl, rfl, _, rfl, ifD (fun h1 => ?_) (fun h1 => k _ _ ⟨rfl, Same.refl _⟩)⟩
        refine ⟨_, rfl, _, rfl, _, rfl, _, rfl, wh, .int q, sec, sec, .root, rfl, v_root S gs (by omega) w9, fun H5 s5 => ⟨rfl, _, rfl, ?_⟩⟩
        show Q' (!decide (V.str "root" = V.str "root")) H5
        rw [ne_same]
        exact k _ _ ⟨rfl, s5⟩
      obtain ⟨rfl, s5⟩ := hb
      refine ifF rfl ?_
      have gs5 := gs.same s5
      -- what is good
      have good : Verdict K C1 C2 wh (.int g) sec sec H5 .ok := by
        by_cases h2 : 2 ≤ wh
        · exact v_ok R gs5 h2 w9
        · exact v_ok01 (by omega) gb (by omega)
      refine ⟨_, rfl, _, rfl, _, rfl, _, rfl, wh, .int g, sec, sec, .ok, rfl, good, fun H6 s6 => ⟨rfl, _, rfl, ifF ne_same ?_⟩⟩
      have sm6 := sm4.trans (s5.trans s6)
      -- numbers out of bounds
      refine ⟨(by show 3 ≤ sizeLine; decide), fun z2 nz2 => ?_⟩
      have s7 : Same H6 (upd H6 z2 (.lst [.int 0, .int 1, .int 100001])) := same_new nz2
      have hz2 : (upd H6 z2 (.lst [.int 0, .int 1, .int 100001])) z2 = some (.lst [.int 0, .int 1, .int 100001]) := upd_same
      refine ⟨z2, rfl, ⟨_, SqL.of upd_same⟩, for_list (K := K) (a := z2) (xs := [.int 0, .int 1, .int 100001]) (fun j σ H' => Same (upd H6 z2 (.lst [.int 0, .int 1, .int 100001])) H' ∧ ∃ y5 : Option V, σ = [some x, some (.int q), some (.int g), some (.int wh), some sec, y5]) ⟨Same.refl _, _, rfl⟩ (fun j σ H' _ hG => ?_) (fun j v σ H' hv hG => ?_) (fun σ H' hG => ?_)⟩
      · exact SqL.of (hG.1 _ _ hz2)
      · obtain ⟨sm7, y5, rfl⟩ := hG
        have hb : ∃ n : Int, v = .int n ∧ ∀ H, NumBad K H v 2 (.int 100000) := by
          match j, hv with
          | 0, hv =>
            cases hv
            exact ⟨_, rfl, fun H => one_bad (by decide)⟩
          | 1, hv =>
            cases hv
            exact ⟨_, rfl, fun H => one_bad (by decide)⟩
          | 2, hv =>
            cases hv
            exact ⟨_, rfl, fun H => big_bad (by decide)⟩
        obtain ⟨n, rfl, hb⟩ := hb
        refine gen_if (fun b H5 => b = false ∧ Same H' H5) (fun Q' k => ?_) (fun b H8 hb => ?_)
        · refine ⟨_, rfl, _, _, rfl, rfl, _, rfl, ifD (fun h1 => ?_) (fun h1 => k _ _ ⟨rfl, Same.refl _⟩)⟩
          refine ⟨_, rfl, _, rfl, _, rfl, _, rfl, wh, .int n, sec, sec, .num, rfl, v_num (hb _) (by omega) w9, fun H5 s5 => ⟨rfl, _, rfl, ?_⟩⟩
          show Q' (!decide (V.str "number" = V.str "number")) H5
          rw [ne_same]
          exact k _ _ ⟨rfl, s5⟩
        obtain ⟨rfl, s8⟩ := hb
        exact ifF rfl ⟨sm7.trans s8, _, rfl⟩
      · obtain ⟨sm7, y5, rfl⟩ := hG
        exact inv _ _ _ _ (sm6.trans (s7.trans sm7))
    · obtain ⟨sm, y3, y4, y5, rfl⟩ := hG
      refine ⟨0, .int 0, .non, .non, .ok, rfl, v_ok01 (by decide) (by decide +kernel) (.inl rfl), fun H1 s1 => ⟨rfl, _, rfl, ifT eq_same ?_⟩⟩
      refine ⟨_, _, rfl, rfl, ⟨by decide, by decide, by decide⟩, 1, .int (10 ^ (40 : Int).toNat), .non, .non, .ok, rfl, v_ok01 (by decide +kernel) (by decide +kernel) (.inr rfl), fun H2 s2 => ⟨rfl, ?_⟩⟩
      show Q (.bl (decide (V.str "" = V.str ""))) H2
      rw [eq_same]
      exact out _ (sm.trans (s1.trans s2))
end
/-! the law: the ends -/
section
variable {P : Program} {w : World} {K : PySem.W.Frag} {mg : Str → Option Value} {base : Heap} {C0 C1 C2 : Addr}
theorem root_2 : Rootn 2 := ⟨by decide, by decide, by
  rw [rt_uniq (n := 2) (a := 1) (by decide) (by decide) (by decide)]
  decide⟩
theorem root_top : Rootn 100000 := ⟨by decide, by decide, by
  rw [rt_uniq (n := 100000) (a := 316) (by decide) (by decide) (by decide)]
  decide⟩
def spEnds : Sp := fun vs H Q _ => vs = [] ∧ ∀ H', Same H H' → Q (.bl true) H'
theorem ok_law_ends_right {f : Addr} {fd : FuncData} (F : Fun K "_law_ends_right" "_law_ends_right" s_l_ends_right f fd) (T : Tb mg) (D_law_said : Dn P w K mg base "_law_said" 8 ["_law_which", "_law_number_here", "_law_second", "_law_third"] [] (spSaid K C1 C2)) :
    FnOk P w K mg base CX0 9 f fd [] spEnds := by
  refine F.ok sc_l_ends_right (fun vs H Q E h => ?_) (fun cdv A outer s H vs Q E hr h => ?_)
  · obtain ⟨rfl, _⟩ := h
    rfl
  · obtain ⟨rfl, out⟩ := h
    refine ⟨_, (pss_cons (ps_for PassesOwn.never rfl (pi_tup (pe_tup (pa_cons pe_int (pa_cons pe_int pa_nil)))) (pg_name (i := 0) sc_l_ends_right.nd rfl (.inl rfl))
        (pss_one (ps_for PassesOwn.never rfl (pi_range2 (by rfl) T.b_range (pa_cons pe_int (pa_cons pe_int pa_nil))) (pg_name (i := 1) sc_l_ends_right.nd rfl (.inl rfl))
        (pss_cons (ps_set (i := 2) sc_l_ends_right.nd rfl (.inl rfl) (pe_ix (ixl (K := K) rfl) (pe_lst (pa_cons pe_int (pa_cons pe_int (pa_cons pe_int (pa_cons pe_int (pa_cons pe_int (pa_cons pe_int (pa_cons (pe_tup (pa_cons pe_int (pa_cons pe_int pa_nil))) (pa_cons (pe_tup (pa_cons pe_int (pa_cons pe_int pa_nil))) pa_nil))))))))) (pe_op op_sub (pv 1) pe_int) (fun _ _ => rfl)))
      (pss_one (ps_if (pt_cmpR op_ne (pe_callD D_law_said hr (by decide) (by rfl) (pa_cons (pv 1) (pa_cons (pv 0) (pa_cons (pv 2) (pa_cons (pv 2) pa_nil))))) pe_str (nomark _))
        (pss_one (ps_ret pe_bl)) pss_nil))))))
      (pss_one (ps_ret pe_bl))), ?_⟩
    refine ⟨(by show 2 ≤ sizeLine; decide), fun e ne => ?_⟩
    have s0 : Same H (upd H e (.tup [.int 2, .int 100000])) := same_new ne
    have he : (upd H e (.tup [.int 2, .int 100000])) e = some (.tup [.int 2, .int 100000]) := upd_same
    refine ⟨e, rfl, ⟨_, SqT.of upd_same⟩, for_tup (K := K) (a := e) (xs := [.int 2, .int 100000]) (fun j σ H' => Same (upd H e (.tup [.int 2, .int 100000])) H' ∧ ∃ y0 y1 y2 : Option V, σ = [y0, y1, y2]) ⟨Same.refl _, none, none, none, rfl⟩ (fun j σ H' _ hG => ?_) (fun j v σ H' hv hG => ?_) (fun σ H' hG => ?_)⟩
    · exact SqT.of (hG.1 _ _ he)
    · obtain ⟨sm, y0, y1, y2, rfl⟩ := hG
      have hR : ∃ n : Int, v = .int n ∧ Rootn n := by
        match j, hv with
        | 0, hv =>
          cases hv
          exact ⟨_, rfl, root_2⟩
        | 1, hv =>
          cases hv
          exact ⟨_, rfl, root_top⟩
      obtain ⟨n, rfl, R⟩ := hR
      refine ⟨2, 10, rfl, ⟨by decide, by decide, by decide, by decide⟩, for_range (lo := 2) (n := 8) (fun i σ H3 => Same H' H3 ∧ ∃ y1 y2 : Option V, σ = [some (.int n), y1, y2]) ⟨Same.refl _, _, _, rfl⟩ (fun i σ H3 hi hG => ?_) (fun σ H3 hG => ?_)⟩
      · obtain ⟨sm3, z1, z2, rfl⟩ := hG
        have w0 : 2 ≤ (2 + (i : Nat) : Int) := by omega
        have w9 : (2 + (i : Nat) : Int) ≤ 9 := by omega
        generalize (2 + (i : Nat) : Int) = wh at *
        refine ⟨(by show 2 ≤ sizeLine; decide), fun t1 nt1 => ⟨(by show 2 ≤ sizeLine; decide), fun t2 nt2 => ⟨(by show 8 ≤ sizeLine; decide), fun z nz => ?_⟩⟩⟩
        have s2 : Same H3 (upd H3 t1 (pr 1 1)) := same_new nt1
        have s3 : Same (upd H3 t1 (pr 1 1)) (upd (upd H3 t1 (pr 1 1)) t2 (pr 1 1)) := same_new nt2
        have ht1 : (upd H3 t1 (pr 1 1)) t1 = some (pr 1 1) := upd_same
        have ht2 : (upd (upd H3 t1 (pr 1 1)) t2 (pr 1 1)) t2 = some (pr 1 1) := upd_same
        have s4 : Same (upd (upd H3 t1 (pr 1 1)) t2 (pr 1 1)) (upd (upd (upd H3 t1 (pr 1 1)) t2 (pr 1 1)) z (.lst [.int 3, .int 3, .int 3, .int 3, .int 3, .int 1, .ref t1, .ref t2])) := same_new nz
        have hz : (upd (upd (upd H3 t1 (pr 1 1)) t2 (pr 1 1)) z (.lst [.int 3, .int 3, .int 3, .int 3, .int 3, .int 1, .ref t1, .ref t2])) z = some (.lst [.int 3, .int 3, .int 3, .int 3, .int 3, .int 1, .ref t1, .ref t2]) := upd_same
        have hg1 := s4 _ _ (s3 _ _ ht1)
        have hg2 := s4 _ _ ht2
        have sm4 := sm3.trans (s2.trans (s3.trans s4))
        refine ⟨_, rfl, _, _, rfl, rfl, ?_⟩
        show rIxL K (.ref z) (.int (wh - 2)) (upd (upd (upd H3 t1 (pr 1 1)) t2 (pr 1 1)) z (.lst [.int 3, .int 3, .int 3, .int 3, .int 3, .int 1, .ref t1, .ref t2])) _
        generalize (upd (upd (upd H3 t1 (pr 1 1)) t2 (pr 1 1)) z (.lst [.int 3, .int 3, .int 3, .int 3, .int 3, .int 1, .ref t1, .ref t2])) = H4 at *
        obtain ⟨sec, hat, gs⟩ : ∃ sec, atI [V.int 3, .int 3, .int 3, .int 3, .int 3, .int 1, .ref t1, .ref t2] (wh - 2) = some sec ∧ GoodSec H4 wh sec := by
          rcases (by omega : wh = 2 ∨ wh = 3 ∨ wh = 4 ∨ wh = 5 ∨ wh = 6 ∨ wh = 7 ∨ wh = 8 ∨ wh = 9) with rfl | rfl | rfl | rfl | rfl | rfl | rfl | rfl
          all_goals first
            | exact ⟨_, rfl, ⟨fun _ => rfl, fun _ => rfl, fun e => absurd e (by decide), fun e => absurd e (by decide)⟩⟩
            | exact ⟨_, rfl, ⟨fun e => absurd e (by decide), fun e => absurd e (by decide), fun _ => rfl, fun e => absurd e (by decide)⟩⟩
            | exact ⟨_, rfl, ⟨fun e => absurd e (by decide), fun e => absurd e (by decide), fun e => absurd e (by decide), fun _ => ⟨_, rfl, hg1⟩⟩⟩
            | exact ⟨_, rfl, ⟨fun e => absurd e (by decide), fun e => absurd e (by decide), fun e => absurd e (by decide), fun _ => ⟨_, rfl, hg2⟩⟩⟩
        refine ⟨z, _, _, _, rfl, rfl, SqL.of hz, hat, ?_⟩
        exact ⟨_, rfl, _, rfl, _, rfl, _, rfl, wh, .int n, sec, sec, .ok, rfl, v_ok R gs w0 w9, fun H6 s6 => ⟨rfl, _, rfl, ifF ne_same ⟨sm4.trans s6, _, _, rfl⟩⟩⟩
      · obtain ⟨sm3, z1, z2, rfl⟩ := hG
        exact ⟨sm.trans sm3, _, _, _, rfl⟩
    · exact out _ (s0.trans hG.1)
end
/-! the law: second and third ones -/
section
variable {P : Program} {w : World} {K : PySem.W.Frag} {mg : Str → Option Value} {base : Heap} {C0 C1 C2 : Addr}
theorem PairBad.same {H H' : Hp} {x : V} (h : PairBad K H x) (s : Same H H') : PairBad K H' x := by
  rcases h with ⟨T, ty, h⟩ | ⟨a, ys, rfl, ha, h⟩
  · exact .inl ⟨T, tyX_same s ty, h⟩
  · refine .inr ⟨a, ys, rfl, s _ _ ha, ?_⟩
    rcases h with h | ⟨y, z, rfl, h⟩
    · exact .inl h
    · exact .inr ⟨y, z, rfl, h.elim (fun h => .inl (h.same s)) fun h => .inr ⟨h.1, h.2.same s⟩⟩
theorem bl_low {p : Bool} : decide ((if p = true then (1 : Int) else 0) < 0) = false := by cases p <;> rfl
theorem far_big {g c : Int} (G : Good g (rt g)) (hc : 0 ≤ c) : g ≤ (rt g + 1 + c) * (rt g + 1 + c) := by
  have hi := G.hi
  have r1 := G.r1
  have := Int.mul_le_mul (show rt g + 1 ≤ rt g + 1 + c by omega) (show rt g + 1 ≤ rt g + 1 + c by omega) (by omega) (by omega)
  omega
def spSeconds (K : PySem.W.Frag) : Sp := fun vs H Q _ => ∃ (x : V) (q g m : Int), vs = [x, .int q, .int g, .int m] ∧ Odd K H x ∧ Sqr q ∧ Rootn g ∧ 0 ≤ m ∧ m < 2147483629 ∧ ∀ H', Same H H' → Q (.bl true) H'
theorem ok_law_seconds_right {f : Addr} {fd : FuncData} (F : Fun K "_law_seconds_right" "_law_seconds_right" s_l_seconds_right f fd) (T : Tb mg) (D_law_root : Dn P w K mg base "_law_root" 1 ["_law_number_here"] [] spRooted) (D_law_said : Dn P w K mg base "_law_said" 8 ["_law_which", "_law_number_here", "_law_second", "_law_third"] [] (spSaid K C1 C2)) :
    FnOk P w K mg base CX0 9 f fd ["_law_odd", "_law_square", "_law_good", "_law_more"] (spSeconds K) := by
  refine F.ok sc_l_seconds_right (fun vs H Q E h => ?_) (fun cdv A outer s H vs Q E hr h => ?_)
  · obtain ⟨x, q, g, m, rfl, _⟩ := h
    rfl
  · obtain ⟨x, q, g, m, rfl, O, S, R, m0, m1, out⟩ := h
    have g2 := R.two
    have gm := R.most
    have gb := R.big
    have q2 := S.two
    have qm := S.most
    have G := R.good
    have r1 := G.r1
    have r316 := R.r316
    have lo := G.lo
    refine ⟨_, (pss_cons (ps_for PassesOwn.never rfl (pi_tup (pe_tup (pa_cons pe_int (pa_cons pe_int (pa_cons pe_int pa_nil))))) (pg_name (i := 4) sc_l_seconds_right.nd rfl (.inl rfl))
        (pss_cons (ps_set (i := 5) sc_l_seconds_right.nd rfl (.inl rfl) (pe_ifExp (PW.pt (pw_and (pt_cmpR op_eq (pv 4) pe_int (nomark _)) (pw_and (pt_val (pe_callB (id := "isinstance") (isi_rule (K := K) rfl) (by rfl) T.b_isinstance (by decide +kernel) (pa_cons (pv 0) (pa_cons (pe_bltn (v := .ty "int") (by rfl) T.b_int (by decide +kernel) rfl) pa_nil)))) (pw_and1 (pt_cmpR op_ltB (pv 0) pe_int (nomark _)))))) pe_non (pv 0)))
      (pss_one (ps_if (PW.pt (pw_or (pt_cmpR op_ne (pe_callD D_law_said hr (by decide) (by rfl) (pa_cons (pv 4) (pa_cons (pv 1) (pa_cons (pv 5) (pa_cons pe_non pa_nil))))) pe_str (nomark _)) (pw_or1 (pt_cmpR op_ne (pe_callD D_law_said hr (by decide) (by rfl) (pa_cons (pv 4) (pa_cons (pv 2) (pa_cons (pv 5) (pa_cons pe_non pa_nil))))) pe_str (nomark _)))))
        (pss_one (ps_ret pe_bl)) pss_nil))))
      (pss_cons (ps_for PassesOwn.never rfl (pi_tup (pe_tup (pa_cons (pe_tup (pa_cons pe_int (pa_cons pe_int pa_nil))) (pa_cons (pe_tup (pa_cons pe_int (pa_cons pe_int pa_nil))) pa_nil)))) (pg_tup rfl (pgs_cons (pg_name (i := 4) sc_l_seconds_right.nd rfl (.inl rfl)) (pgs_cons (pg_name (i := 6) sc_l_seconds_right.nd rfl (.inl rfl)) pgs_nil)))
        (pss_cons (ps_if (PW.pt (pw_or (pt_cmpR op_ne (pe_callD D_law_said hr (by decide) (by rfl) (pa_cons (pv 4) (pa_cons (pv 2) (pa_cons (pv 6) (pa_cons pe_non pa_nil))))) pe_str (nomark _)) (pw_or1 (pt_cmpR op_ne (pe_callD D_law_said hr (by decide) (by rfl) (pa_cons (pv 4) (pa_cons (pv 2) (pa_cons (pe_op op_add (pv 6) pe_int) (pa_cons pe_non pa_nil))))) pe_str (nomark _)))))
        (pss_one (ps_ret pe_bl)) pss_nil)
      (pss_one (ps_if (PW.pt (pw_or (pt_cmpR op_ne (pe_callD D_law_said hr (by decide) (by rfl) (pa_cons (pv 4) (pa_cons (pv 2) (pa_cons pe_int (pa_cons pe_non pa_nil))))) pe_str (nomark _)) (pw_or1 (pt_cmpR op_ne (pe_callD D_law_said hr (by decide) (by rfl) (pa_cons (pv 4) (pa_cons (pv 2) (pa_cons (pe_un un_neg pe_int) (pa_cons pe_non pa_nil))))) pe_str (nomark _)))))
        (pss_one (ps_ret pe_bl)) pss_nil))))
      (pss_cons (ps_set (i := 7) sc_l_seconds_right.nd rfl (.inl rfl) (pe_callD D_law_root hr (by decide) (by rfl) (pa_cons (pv 2) pa_nil)))
      (pss_cons (ps_for PassesOwn.never rfl (pi_list (pe_lst (pa_cons pe_int (pa_cons (pe_op op_add (pe_op op_add (pv 7) pe_int) (pe_op op_mod (pv 3) pe_int)) (pa_cons (pe_op op_sub (pe_op op_sub (pe_un un_neg pe_int) (pv 7)) (pe_op op_mod (pv 3) pe_int)) pa_nil))))) (pg_name (i := 8) sc_l_seconds_right.nd rfl (.inl rfl))
        (pss_one (ps_if (PW.pt (pw_or (pt_cmpR op_ne (pe_callD D_law_said hr (by decide) (by rfl) (pa_cons pe_int (pa_cons (pv 2) (pa_cons (pv 8) (pa_cons pe_non pa_nil))))) pe_str (nomark _)) (pw_or1 (pt_cmpR op_ne (pe_callD D_law_said hr (by decide) (by rfl) (pa_cons pe_int (pa_cons (pv 1) (pa_cons (pv 8) (pa_cons pe_non pa_nil))))) pe_str (nomark _)))))
        (pss_one (ps_ret pe_bl)) pss_nil)))
      (pss_cons (ps_if (PW.pt (pw_or (pt_cmpR op_ne (pe_callD D_law_said hr (by decide) (by rfl) (pa_cons pe_int (pa_cons (pv 2) (pa_cons (pv 7) (pa_cons pe_non pa_nil))))) pe_str (nomark _)) (pw_or1 (pt_cmpR op_ne (pe_callD D_law_said hr (by decide) (by rfl) (pa_cons pe_int (pa_cons (pv 2) (pa_cons (pe_op op_sub pe_int (pv 7)) (pa_cons pe_non pa_nil))))) pe_str (nomark _)))))
        (pss_one (ps_ret pe_bl)) pss_nil)
      (pss_cons (ps_set (i := 9) sc_l_seconds_right.nd rfl (.inl rfl) (pe_ix (ixl (K := K) rfl) (pe_lst (pa_cons pe_non (pa_cons pe_int (pa_cons (pe_lst (pa_cons pe_int (pa_cons pe_int pa_nil))) (pa_cons (pe_tup (pa_cons pe_int pa_nil)) (pa_cons (pe_tup (pa_cons pe_int (pa_cons pe_int (pa_cons pe_int pa_nil)))) (pa_cons (pe_tup (pa_cons pe_bl (pa_cons pe_int pa_nil))) (pa_cons (pe_tup (pa_cons pe_int (pa_cons pe_non pa_nil))) (pa_cons (pe_tup (pa_cons pe_str (pa_cons pe_int pa_nil))) (pa_cons (pe_tup (pa_cons pe_int (pa_cons (pe_lst (pa_cons pe_int pa_nil)) pa_nil))) (pa_cons pe_dnewK pa_nil))))))))))) (pe_op op_mod (pe_op op_fdivW (pv 3) pe_int) pe_int) (fun _ _ => rfl)))
      (pss_cons (ps_for PassesOwn.never rfl (pi_tup (pe_tup (pa_cons pe_int (pa_cons pe_int pa_nil)))) (pg_name (i := 4) sc_l_seconds_right.nd rfl (.inl rfl))
        (pss_one (ps_if (PW.pt (pw_or (pt_cmpR op_ne (pe_callD D_law_said hr (by decide) (by rfl) (pa_cons (pv 4) (pa_cons (pv 1) (pa_cons (pv 9) (pa_cons (pv 9) pa_nil))))) pe_str (nomark _)) (pw_or1 (pt_cmpR op_ne (pe_callD D_law_said hr (by decide) (by rfl) (pa_cons (pv 4) (pa_cons (pv 2) (pa_cons (pv 9) (pa_cons (pe_tup (pa_cons pe_int (pa_cons pe_int pa_nil))) pa_nil))))) pe_str (nomark _)))))
        (pss_one (ps_ret pe_bl)) pss_nil)))
      (pss_one (ps_ret (pe_and (pe_cmpR op_eq (pe_callD D_law_said hr (by decide) (by rfl) (pa_cons pe_int (pa_cons (pv 2) (pa_cons (pe_tup (pa_cons pe_int (pa_cons pe_int pa_nil))) (pa_cons (pv 9) pa_nil))))) pe_str (nomark _)) (pe_one (pe_cmpR op_eq (pe_callD D_law_said hr (by decide) (by rfl) (pa_cons pe_int (pa_cons (pv 2) (pa_cons (pe_tup (pa_cons (pe_un un_neg pe_int) (pa_cons (pe_op op_pow pe_int pe_int) pa_nil))) (pa_cons (pe_tup (pa_cons pe_int (pa_cons pe_int pa_nil))) pa_nil))))) pe_str (nomark _))))))))))))), ?_⟩
    -- for which in (5, 6, 7)
    refine ⟨(by show 3 ≤ sizeLine; decide), fun e ne => ?_⟩
    have s0 : Same H (upd H e (.tup [.int 5, .int 6, .int 7])) := same_new ne
    have he : (upd H e (.tup [.int 5, .int 6, .int 7])) e = some (.tup [.int 5, .int 6, .int 7]) := upd_same
    refine ⟨e, rfl, ⟨_, SqT.of upd_same⟩, for_tup (K := K) (a := e) (xs := [.int 5, .int 6, .int 7]) (fun j σ H' => Same (upd H e (.tup [.int 5, .int 6, .int 7])) H' ∧ ∃ y4 y5 : Option V, σ = [some x, some (.int q), some (.int g), some (.int m), y4, y5, none, none, none, none]) ⟨Same.refl _, none, none, rfl⟩ (fun j σ H' _ hG => ?_) (fun j v σ H' hv hG => ?_) (fun σ H' hG => ?_)⟩
    · exact SqT.of (hG.1 _ _ he)
    · obtain ⟨sm, y4, y5, rfl⟩ := hG
      have O1 := O.same (s0.trans sm)
      refine gen_set (fun v2 H2 => H2 = H' ∧ ∀ (H3 : Hp) (n : Int) (t : V), Same H' H3 → 2 ≤ n → n ≤ 100000 → ∃ wh : Int, v = .int wh ∧ Verdict K C1 C2 wh (.int n) v2 t H3 .num) (fun Q' k => ?_) (fun v2 H2 hv2 => ?_)
      · match j, hv with
        | 0, hv =>
          cases hv
          exact ⟨_, rfl, rfl, _, rfl, ifF rfl (ifF rfl ⟨_, rfl, k _ _ ⟨rfl, fun H3 n t s3 h1 h2 => ⟨_, rfl, v5_sec h1 h2 ((O1.same s3).bad (by decide))⟩⟩⟩)⟩
        | 1, hv =>
          cases hv
          exact ⟨_, rfl, rfl, _, rfl, ifF rfl (ifF rfl ⟨_, rfl, k _ _ ⟨rfl, fun H3 n t s3 h1 h2 => ⟨_, rfl, v6_sec h1 h2 ((O1.same s3).bad (by decide))⟩⟩⟩)⟩
        | 2, hv =>
          cases hv
          refine ⟨_, rfl, rfl, _, rfl, ifT rfl ?_⟩
          rcases O1 with ⟨n, rfl, hn⟩ | ⟨p, rfl⟩ | ⟨T, ty, h⟩
          · refine ⟨_, rfl, _, _, _, _, _, rfl, .ty _, ty_int, kit_ii, _, rfl, ifT rfl ?_⟩
            exact ⟨_, rfl, .inl ⟨n, 0, rfl, rfl, _, rfl, ifT (decide_eq_true hn) (k _ _ ⟨rfl, fun H3 n t s3 h1 h2 => ⟨_, rfl, v7_sec h1 h2 ⟨"NoneType", false, .base .non, by decide +kernel, fun e => Bool.noConfusion e⟩⟩⟩)⟩⟩
          · refine ⟨_, rfl, _, _, _, _, _, rfl, .ty _, ty_bl, kit_bi, _, rfl, ifT rfl ?_⟩
            exact ⟨_, rfl, .inr ⟨p, 0, rfl, rfl, _, rfl, ifF bl_low ⟨_, rfl, k _ _ ⟨rfl, fun H3 n t s3 h1 h2 => ⟨_, rfl, v7_sec h1 h2 ⟨"bool", true, .base (.bl p), by decide +kernel, fun _ => by decide +kernel⟩⟩⟩⟩⟩⟩
          · refine ⟨_, rfl, _, _, _, _, _, rfl, .ty _, ty, kit_ty h, _, rfl, ifF rfl (ifF rfl ⟨_, rfl, k _ _ ⟨rfl, fun H3 n t s3 h1 h2 => ⟨_, rfl, v7_sec h1 h2 ⟨T, false, tyX_same s3 ty, h, fun e => Bool.noConfusion e⟩⟩⟩⟩)⟩
      obtain ⟨rfl, hV⟩ := hv2
      obtain ⟨wh, rfl, V1⟩ := hV H2 q .non (Same.refl _) q2 qm
      refine ⟨_, rfl, _, rfl, _, rfl, wh, .int q, v2, .non, .num, rfl, V1, fun H3 s3 => ⟨rfl, _, rfl, ifF ne_same ?_⟩⟩
      obtain ⟨wh', ew, V2⟩ := hV H3 g .non s3 g2 gm
      cases ew
      exact ⟨_, rfl, _, rfl, _, rfl, wh, .int g, v2, .non, .num, rfl, V2, fun H4 s4 => ⟨rfl, _, rfl, ifF ne_same ⟨sm.trans (s3.trans s4), _, _, rfl⟩⟩⟩
    obtain ⟨sm, y4, y5, rfl⟩ := hG
    have sm1 := s0.trans sm
    clear he s0 sm
    -- for which, most in ((5, 200), (6, 20))
    refine ⟨(by show 2 ≤ sizeLine; decide), fun e1 ne1 => ⟨(by show 2 ≤ sizeLine; decide), fun e2 ne2 => ⟨(by show 2 ≤ sizeLine; decide), fun e3 ne3 => ?_⟩⟩⟩
    have b1 : Same H' (upd H' e1 (pr 5 200)) := same_new ne1
    have b2 : Same (upd H' e1 (pr 5 200)) (upd (upd H' e1 (pr 5 200)) e2 (pr 6 20)) := same_new ne2
    have c1 : (upd H' e1 (pr 5 200)) e1 = some (pr 5 200) := upd_same
    have c2 : (upd (upd H' e1 (pr 5 200)) e2 (pr 6 20)) e2 = some (pr 6 20) := upd_same
    have b3 : Same (upd (upd H' e1 (pr 5 200)) e2 (pr 6 20)) (upd (upd (upd H' e1 (pr 5 200)) e2 (pr 6 20)) e3 (.tup [.ref e1, .ref e2])) := same_new ne3
    have c3 : (upd (upd (upd H' e1 (pr 5 200)) e2 (pr 6 20)) e3 (.tup [.ref e1, .ref e2])) e3 = some (.tup [.ref e1, .ref e2]) := upd_same
    have d1 := b3 _ _ (b2 _ _ c1)
    have d2 := b3 _ _ c2
    have sm2 := sm1.trans (b1.trans (b2.trans b3))
    refine ⟨e3, rfl, ⟨_, SqT.of upd_same⟩, for_tup (K := K) (a := e3) (xs := [.ref e1, .ref e2]) (fun j σ H2 => Same (upd (upd (upd H' e1 (pr 5 200)) e2 (pr 6 20)) e3 (.tup [.ref e1, .ref e2])) H2 ∧ ∃ y4 y5 y6 : Option V, σ = [some x, some (.int q), some (.int g), some (.int m), y4, y5, y6, none, none, none]) ⟨Same.refl _, _, _, _, rfl⟩ (fun j σ H2 _ hG => ?_) (fun j v σ H2 hv hG => ?_) (fun σ H2 hG => ?_)⟩
    · exact SqT.of (hG.1 _ _ c3)
    · obtain ⟨sm, z4, z5, z6, rfl⟩ := hG
      obtain ⟨t, wh, M, rfl, ht, okV, badV⟩ : ∃ (t : Addr) (wh M : Int), v = .ref t ∧ H2 t = some (pr wh M) ∧ (∀ (H3 : Hp) (j : Int), 0 ≤ j → j ≤ M → Verdict K C1 C2 wh (.int g) (.int j) .non H3 .ok) ∧ ∀ (H3 : Hp) (j : Int), (j < 0 ∨ M < j) → Verdict K C1 C2 wh (.int g) (.int j) .non H3 .num := by
        match j, hv with
        | 0, hv =>
          cases hv
          exact ⟨_, 5, 200, rfl, sm _ _ d1, fun H3 j h1 h2 => v5_ok R h1 h2, fun H3 j h => v5_sec g2 gm (.inr ⟨j, rfl, h.elim .inl fun h => .inr ⟨by omega, _, rfl, h⟩⟩)⟩
        | 1, hv =>
          cases hv
          exact ⟨_, 6, 20, rfl, sm _ _ d2, fun H3 j h1 h2 => v6_ok R h1 h2, fun H3 j h => v6_sec g2 gm (.inr ⟨j, rfl, h.elim .inl fun h => .inr ⟨by omega, _, rfl, h⟩⟩)⟩
      have M0 : 0 ≤ M := by
        match j, hv with
        | 0, hv =>
          cases hv
          rw [sm _ _ d1] at ht
          cases ht
          decide
        | 1, hv =>
          cases hv
          rw [sm _ _ d2] at ht
          cases ht
          decide
      refine ⟨t, _, rfl, sq_pr ht, rfl, _, _, rfl, _, [], rfl, rfl, ?_⟩
      refine ⟨_, rfl, _, rfl, _, rfl, wh, .int g, .int M, .non, .ok, rfl, okV _ _ M0 (Int.le_refl _), fun H3 s3 => ⟨rfl, _, rfl, ifF ne_same ?_⟩⟩
      refine ⟨_, rfl, _, rfl, _, rfl, _, _, rfl, rfl, wh, .int g, .int (M + 1), .non, .num, rfl, badV _ _ (.inr (by omega)), fun H4 s4 => ⟨rfl, _, rfl, ifF ne_same ?_⟩⟩
      refine ⟨_, rfl, _, rfl, wh, .int g, .int 0, .non, .ok, rfl, okV _ _ (by decide) M0, fun H5 s5 => ⟨rfl, _, rfl, ifF ne_same ?_⟩⟩
      exact ⟨_, rfl, _, rfl, _, rfl, wh, .int g, .int (-1), .non, .num, rfl, badV _ _ (.inl (by decide)), fun H6 s6 => ⟨rfl, _, rfl, ifF ne_same ⟨sm.trans (s3.trans (s4.trans (s5.trans s6))), _, _, _, rfl⟩⟩⟩
    obtain ⟨sm, z4, z5, z6, rfl⟩ := hG
    have sm3 := sm2.trans sm
    clear c1 c2 c3 d1 d2 b1 b2 b3 sm sm2 sm1
    -- far
    refine ⟨_, rfl, g, rfl, by omega, gb, ?_⟩
    -- for told in [..]
    have c0 : 0 ≤ m % 100 := by omega
    have c99 : m % 100 ≤ 99 := by omega
    refine ⟨_, rfl, _, _, rfl, rfl, _, rfl, _, _, rfl, rfl, (by show (0 : Int) < 100; decide), _, _, rfl, rfl, ?_⟩
    refine ⟨_, rfl, _, rfl, _, _, rfl, rfl, _, rfl, _, _, rfl, rfl, (by show (0 : Int) < 100; decide), _, _, rfl, rfl, ?_⟩
    refine ⟨(by show 3 ≤ sizeLine; decide), fun e4 ne4 => ?_⟩
    have s4 : Same H2 (upd H2 e4 (.lst [.int 0, .int (rt g + 1 + m % 100), .int (-1 - rt g - m % 100)])) := same_new ne4
    have he4 : (upd H2 e4 (.lst [.int 0, .int (rt g + 1 + m % 100), .int (-1 - rt g - m % 100)])) e4 = some (.lst [.int 0, .int (rt g + 1 + m % 100), .int (-1 - rt g - m % 100)]) := upd_same
    refine ⟨e4, rfl, ⟨_, SqL.of upd_same⟩, for_list (K := K) (a := e4) (xs := [.int 0, .int (rt g + 1 + m % 100), .int (-1 - rt g - m % 100)]) (fun j σ H3 => Same (upd H2 e4 (.lst [.int 0, .int (rt g + 1 + m % 100), .int (-1 - rt g - m % 100)])) H3 ∧ ∃ y8 : Option V, σ = [some x, some (.int q), some (.int g), some (.int m), z4, z5, z6, some (.int (rt g)), y8, none])
      ⟨Same.refl _, _, rfl⟩ (fun j σ H3 _ hG => ?_) (fun j v σ H3 hv hG => ?_) (fun σ H3 hG => ?_)⟩
    · exact SqL.of (hG.1 _ _ he4)
    · obtain ⟨sm, y8, rfl⟩ := hG
      obtain ⟨d, rfl, hd, db⟩ : ∃ d : Int, v = .int d ∧ (d = 0 ∨ g ≤ d * d) ∧ d.natAbs < 2 ^ 100 := by
        match j, hv with
        | 0, hv =>
          cases hv
          exact ⟨_, rfl, .inl rfl, by decide⟩
        | 1, hv =>
          cases hv
          exact ⟨_, rfl, .inr (far_big G c0), by omega⟩
        | 2, hv =>
          cases hv
          refine ⟨_, rfl, .inr ?_, by omega⟩
          have := far_big G c0
          have e : (-1 - rt g - m % 100) * (-1 - rt g - m % 100) = (rt g + 1 + m % 100) * (rt g + 1 + m % 100) := by
            rw [show -1 - rt g - m % 100 = -(rt g + 1 + m % 100) by omega, Int.neg_mul_neg]
          omega
      refine ⟨_, rfl, _, rfl, 7, .int g, .int d, .non, .num, rfl, v7_far R hd db, fun H4 s4 => ⟨rfl, _, rfl, ifF ne_same ?_⟩⟩
      exact ⟨_, rfl, _, rfl, 7, .int q, .int d, .non, .root, rfl, v7_root S, fun H5 s5 => ⟨rfl, _, rfl, ifF ne_same ⟨sm.trans (s4.trans s5), _, rfl⟩⟩⟩
    obtain ⟨sm, y8, rfl⟩ := hG
    have sm4 := sm3.trans (s4.trans sm)
    clear he4 s4 sm sm3
    -- the farthest worths
    have rr : rt g * rt g < g := lo
    refine ⟨_, rfl, _, rfl, 7, .int g, .int (rt g), .non, .ok, rfl, v7_ok R (by omega) rr, fun H5 s5 => ⟨rfl, _, rfl, ifF ne_same ?_⟩⟩
    refine ⟨_, rfl, _, rfl, _, _, rfl, rfl, 7, .int g, .int (0 - rt g), .non, .ok, rfl, v7_ok R (by omega) (by rw [Int.zero_sub, Int.neg_mul_neg]; exact rr), fun H6 s6 => ⟨rfl, _, rfl, ifF ne_same ?_⟩⟩
    have sm6 := sm4.trans (s5.trans s6)
    clear s5 s6 sm4
    -- what is no pair
    refine ⟨(by show 2 ≤ sizeLine; decide), fun a1 na1 => ⟨(by show 1 ≤ sizeLine; decide), fun a2 na2 => ⟨(by show 3 ≤ sizeLine; decide), fun a3 na3 => ⟨(by show 2 ≤ sizeLine; decide), fun a4 na4 => ⟨(by show 2 ≤ sizeLine; decide), fun a5 na5 => ⟨(by show 2 ≤ sizeLine; decide), fun a6 na6 => ⟨(by show 1 ≤ sizeLine; decide), fun a7 na7 => ⟨(by show 2 ≤ sizeLine; decide), fun a8 na8 => fun a9 na9 => ⟨(by show 10 ≤ sizeLine; decide), fun z nz => ?_⟩⟩⟩⟩⟩⟩⟩⟩⟩
    have q1 : Same H6 (upd H6 a1 (.lst [.int 1, .int 1])) := same_new na1
    have g1 : (upd H6 a1 (.lst [.int 1, .int 1])) a1 = some (.lst [.int 1, .int 1]) := upd_same
    have q2 : Same (upd H6 a1 (.lst [.int 1, .int 1])) (upd (upd H6 a1 (.lst [.int 1, .int 1])) a2 (.tup [.int 1])) := same_new na2
    have g2 : (upd (upd H6 a1 (.lst [.int 1, .int 1])) a2 (.tup [.int 1])) a2 = some (.tup [.int 1]) := upd_same
    have q3 : Same (upd (upd H6 a1 (.lst [.int 1, .int 1])) a2 (.tup [.int 1])) (upd (upd (upd H6 a1 (.lst [.int 1, .int 1])) a2 (.tup [.int 1])) a3 (.tup [.int 1, .int 1, .int 1])) := same_new na3
    have g3 : (upd (upd (upd H6 a1 (.lst [.int 1, .int 1])) a2 (.tup [.int 1])) a3 (.tup [.int 1, .int 1, .int 1])) a3 = some (.tup [.int 1, .int 1, .int 1]) := upd_same
    have q4 : Same (upd (upd (upd H6 a1 (.lst [.int 1, .int 1])) a2 (.tup [.int 1])) a3 (.tup [.int 1, .int 1, .int 1])) (upd (upd (upd (upd H6 a1 (.lst [.int 1, .int 1])) a2 (.tup [.int 1])) a3 (.tup [.int 1, .int 1, .int 1])) a4 (.tup [.bl true, .int 1])) := same_new na4
    have g4 : (upd (upd (upd (upd H6 a1 (.lst [.int 1, .int 1])) a2 (.tup [.int 1])) a3 (.tup [.int 1, .int 1, .int 1])) a4 (.tup [.bl true, .int 1])) a4 = some (.tup [.bl true, .int 1]) := upd_same
    have q5 : Same (upd (upd (upd (upd H6 a1 (.lst [.int 1, .int 1])) a2 (.tup [.int 1])) a3 (.tup [.int 1, .int 1, .int 1])) a4 (.tup [.bl true, .int 1])) (upd (upd (upd (upd (upd H6 a1 (.lst [.int 1, .int 1])) a2 (.tup [.int 1])) a3 (.tup [.int 1, .int 1, .int 1])) a4 (.tup [.bl true, .int 1])) a5 (.tup [.int 1, .non])) := same_new na5
    have g5 : (upd (upd (upd (upd (upd H6 a1 (.lst [.int 1, .int 1])) a2 (.tup [.int 1])) a3 (.tup [.int 1, .int 1, .int 1])) a4 (.tup [.bl true, .int 1])) a5 (.tup [.int 1, .non])) a5 = some (.tup [.int 1, .non]) := upd_same
    have q6 : Same (upd (upd (upd (upd (upd H6 a1 (.lst [.int 1, .int 1])) a2 (.tup [.int 1])) a3 (.tup [.int 1, .int 1, .int 1])) a4 (.tup [.bl true, .int 1])) a5 (.tup [.int 1, .non])) (upd (upd (upd (upd (upd (upd H6 a1 (.lst [.int 1, .int 1])) a2 (.tup [.int 1])) a3 (.tup [.int 1, .int 1, .int 1])) a4 (.tup [.bl true, .int 1])) a5 (.tup [.int 1, .non])) a6 (.tup [.str "1", .int 1])) := same_new na6
    have g6 : (upd (upd (upd (upd (upd (upd H6 a1 (.lst [.int 1, .int 1])) a2 (.tup [.int 1])) a3 (.tup [.int 1, .int 1, .int 1])) a4 (.tup [.bl true, .int 1])) a5 (.tup [.int 1, .non])) a6 (.tup [.str "1", .int 1])) a6 = some (.tup [.str "1", .int 1]) := upd_same
    have q7 : Same (upd (upd (upd (upd (upd (upd H6 a1 (.lst [.int 1, .int 1])) a2 (.tup [.int 1])) a3 (.tup [.int 1, .int 1, .int 1])) a4 (.tup [.bl true, .int 1])) a5 (.tup [.int 1, .non])) a6 (.tup [.str "1", .int 1])) (upd (upd (upd (upd (upd (upd (upd H6 a1 (.lst [.int 1, .int 1])) a2 (.tup [.int 1])) a3 (.tup [.int 1, .int 1, .int 1])) a4 (.tup [.bl true, .int 1])) a5 (.tup [.int 1, .non])) a6 (.tup [.str "1", .int 1])) a7 (.lst [.int 1])) := same_new na7
    have g7 : (upd (upd (upd (upd (upd (upd (upd H6 a1 (.lst [.int 1, .int 1])) a2 (.tup [.int 1])) a3 (.tup [.int 1, .int 1, .int 1])) a4 (.tup [.bl true, .int 1])) a5 (.tup [.int 1, .non])) a6 (.tup [.str "1", .int 1])) a7 (.lst [.int 1])) a7 = some (.lst [.int 1]) := upd_same
    have q8 : Same (upd (upd (upd (upd (upd (upd (upd H6 a1 (.lst [.int 1, .int 1])) a2 (.tup [.int 1])) a3 (.tup [.int 1, .int 1, .int 1])) a4 (.tup [.bl true, .int 1])) a5 (.tup [.int 1, .non])) a6 (.tup [.str "1", .int 1])) a7 (.lst [.int 1])) (upd (upd (upd (upd (upd (upd (upd (upd H6 a1 (.lst [.int 1, .int 1])) a2 (.tup [.int 1])) a3 (.tup [.int 1, .int 1, .int 1])) a4 (.tup [.bl true, .int 1])) a5 (.tup [.int 1, .non])) a6 (.tup [.str "1", .int 1])) a7 (.lst [.int 1])) a8 (.tup [.int 1, .ref a7])) := same_new na8
    have g8 : (upd (upd (upd (upd (upd (upd (upd (upd H6 a1 (.lst [.int 1, .int 1])) a2 (.tup [.int 1])) a3 (.tup [.int 1, .int 1, .int 1])) a4 (.tup [.bl true, .int 1])) a5 (.tup [.int 1, .non])) a6 (.tup [.str "1", .int 1])) a7 (.lst [.int 1])) a8 (.tup [.int 1, .ref a7])) a8 = some (.tup [.int 1, .ref a7]) := upd_same
    have q9 : Same (upd (upd (upd (upd (upd (upd (upd (upd H6 a1 (.lst [.int 1, .int 1])) a2 (.tup [.int 1])) a3 (.tup [.int 1, .int 1, .int 1])) a4 (.tup [.bl true, .int 1])) a5 (.tup [.int 1, .non])) a6 (.tup [.str "1", .int 1])) a7 (.lst [.int 1])) a8 (.tup [.int 1, .ref a7])) (upd (upd (upd (upd (upd (upd (upd (upd (upd H6 a1 (.lst [.int 1, .int 1])) a2 (.tup [.int 1])) a3 (.tup [.int 1, .int 1, .int 1])) a4 (.tup [.bl true, .int 1])) a5 (.tup [.int 1, .non])) a6 (.tup [.str "1", .int 1])) a7 (.lst [.int 1])) a8 (.tup [.int 1, .ref a7])) a9 (.dK [])) := same_new na9
    have g9 : (upd (upd (upd (upd (upd (upd (upd (upd (upd H6 a1 (.lst [.int 1, .int 1])) a2 (.tup [.int 1])) a3 (.tup [.int 1, .int 1, .int 1])) a4 (.tup [.bl true, .int 1])) a5 (.tup [.int 1, .non])) a6 (.tup [.str "1", .int 1])) a7 (.lst [.int 1])) a8 (.tup [.int 1, .ref a7])) a9 (.dK [])) a9 = some (.dK []) := upd_same
    have q10 : Same (upd (upd (upd (upd (upd (upd (upd (upd (upd H6 a1 (.lst [.int 1, .int 1])) a2 (.tup [.int 1])) a3 (.tup [.int 1, .int 1, .int 1])) a4 (.tup [.bl true, .int 1])) a5 (.tup [.int 1, .non])) a6 (.tup [.str "1", .int 1])) a7 (.lst [.int 1])) a8 (.tup [.int 1, .ref a7])) a9 (.dK [])) (upd (upd (upd (upd (upd (upd (upd (upd (upd (upd H6 a1 (.lst [.int 1, .int 1])) a2 (.tup [.int 1])) a3 (.tup [.int 1, .int 1, .int 1])) a4 (.tup [.bl true, .int 1])) a5 (.tup [.int 1, .non])) a6 (.tup [.str "1", .int 1])) a7 (.lst [.int 1])) a8 (.tup [.int 1, .ref a7])) a9 (.dK [])) z (.lst [.non, .int 5, .ref a1, .ref a2, .ref a3, .ref a4, .ref a5, .ref a6, .ref a8, .ref a9])) := same_new nz
    have gz : (upd (upd (upd (upd (upd (upd (upd (upd (upd (upd H6 a1 (.lst [.int 1, .int 1])) a2 (.tup [.int 1])) a3 (.tup [.int 1, .int 1, .int 1])) a4 (.tup [.bl true, .int 1])) a5 (.tup [.int 1, .non])) a6 (.tup [.str "1", .int 1])) a7 (.lst [.int 1])) a8 (.tup [.int 1, .ref a7])) a9 (.dK [])) z (.lst [.non, .int 5, .ref a1, .ref a2, .ref a3, .ref a4, .ref a5, .ref a6, .ref a8, .ref a9])) z = some (.lst [.non, .int 5, .ref a1, .ref a2, .ref a3, .ref a4, .ref a5, .ref a6, .ref a8, .ref a9]) := upd_same
    have p1 := (q2.trans (q3.trans (q4.trans (q5.trans (q6.trans (q7.trans (q8.trans (q9.trans q10)))))))) _ _ g1
    have p2 := (q3.trans (q4.trans (q5.trans (q6.trans (q7.trans (q8.trans (q9.trans q10))))))) _ _ g2
    have p3 := (q4.trans (q5.trans (q6.trans (q7.trans (q8.trans (q9.trans q10)))))) _ _ g3
    have p4 := (q5.trans (q6.trans (q7.trans (q8.trans (q9.trans q10))))) _ _ g4
    have p5 := (q6.trans (q7.trans (q8.trans (q9.trans q10)))) _ _ g5
    have p6 := (q7.trans (q8.trans (q9.trans q10))) _ _ g6
    have p7 := (q8.trans (q9.trans q10)) _ _ g7
    have p8 := (q9.trans q10) _ _ g8
    have p9 := q10 _ _ g9
    have smz := sm6.trans (q1.trans (q2.trans (q3.trans (q4.trans (q5.trans (q6.trans (q7.trans (q8.trans (q9.trans q10)))))))))
    refine ⟨_, rfl, _, _, rfl, rfl, dv (by decide) (by decide), _, _, rfl, rfl, (by show (0 : Int) < 10; decide), ?_⟩
    show rIxL K (.ref z) (.int (m / 100 % 10)) (upd (upd (upd (upd (upd (upd (upd (upd (upd (upd H6 a1 (.lst [.int 1, .int 1])) a2 (.tup [.int 1])) a3 (.tup [.int 1, .int 1, .int 1])) a4 (.tup [.bl true, .int 1])) a5 (.tup [.int 1, .non])) a6 (.tup [.str "1", .int 1])) a7 (.lst [.int 1])) a8 (.tup [.int 1, .ref a7])) a9 (.dK [])) z (.lst [.non, .int 5, .ref a1, .ref a2, .ref a3, .ref a4, .ref a5, .ref a6, .ref a8, .ref a9])) _
    generalize (upd (upd (upd (upd (upd (upd (upd (upd (upd (upd H6 a1 (.lst [.int 1, .int 1])) a2 (.tup [.int 1])) a3 (.tup [.int 1, .int 1, .int 1])) a4 (.tup [.bl true, .int 1])) a5 (.tup [.int 1, .non])) a6 (.tup [.str "1", .int 1])) a7 (.lst [.int 1])) a8 (.tup [.int 1, .ref a7])) a9 (.dK [])) z (.lst [.non, .int 5, .ref a1, .ref a2, .ref a3, .ref a4, .ref a5, .ref a6, .ref a8, .ref a9])) = H10 at *
    obtain ⟨bad, hat, hbad⟩ : ∃ bad, atI [V.non, .int 5, .ref a1, .ref a2, .ref a3, .ref a4, .ref a5, .ref a6, .ref a8, .ref a9] (m / 100 % 10) = some bad ∧ PairBad K H10 bad := by
      rcases (by omega : m / 100 % 10 = 0 ∨ m / 100 % 10 = 1 ∨ m / 100 % 10 = 2 ∨ m / 100 % 10 = 3 ∨ m / 100 % 10 = 4 ∨ m / 100 % 10 = 5 ∨ m / 100 % 10 = 6 ∨ m / 100 % 10 = 7 ∨ m / 100 % 10 = 8 ∨ m / 100 % 10 = 9) with e | e | e | e | e | e | e | e | e | e <;> rw [e]
      · exact ⟨_, rfl, .inl ⟨"NoneType", .base .non, by decide +kernel⟩⟩
      · exact ⟨_, rfl, .inl ⟨"int", .base (.int 5), by decide +kernel⟩⟩
      · exact ⟨_, rfl, .inl ⟨"list", .base (.lst p1), by decide +kernel⟩⟩
      · exact ⟨_, rfl, .inr ⟨_, _, rfl, p2, .inl (by decide)⟩⟩
      · exact ⟨_, rfl, .inr ⟨_, _, rfl, p3, .inl (by decide)⟩⟩
      · exact ⟨_, rfl, .inr ⟨_, _, rfl, p4, .inr ⟨_, _, rfl, .inl ⟨"bool", true, .base (.bl true), by decide +kernel, fun _ => by decide +kernel⟩⟩⟩⟩
      · exact ⟨_, rfl, .inr ⟨_, _, rfl, p5, .inr ⟨_, _, rfl, .inr ⟨⟨1, rfl⟩, "NoneType", false, .base .non, by decide +kernel, fun e => Bool.noConfusion e⟩⟩⟩⟩
      · exact ⟨_, rfl, .inr ⟨_, _, rfl, p6, .inr ⟨_, _, rfl, .inl ⟨"str", false, .base (.str _), by decide +kernel, fun e => Bool.noConfusion e⟩⟩⟩⟩
      · exact ⟨_, rfl, .inr ⟨_, _, rfl, p8, .inr ⟨_, _, rfl, .inr ⟨⟨1, rfl⟩, "list", false, .base (.lst p7), by decide +kernel, fun e => Bool.noConfusion e⟩⟩⟩⟩
      · exact ⟨_, rfl, .inl ⟨"dict", .base (.dK p9), by decide +kernel⟩⟩
    refine ⟨z, _, _, _, rfl, rfl, SqL.of gz, hat, ?_⟩
    dsimp only
    refine go_next ?_
    -- for which in (8, 9)
    refine ⟨(by show 2 ≤ sizeLine; decide), fun e ne => ?_⟩
    have s0 : Same H10 (upd H10 e (.tup [.int 8, .int 9])) := same_new ne
    have he : (upd H10 e (.tup [.int 8, .int 9])) e = some (.tup [.int 8, .int 9]) := upd_same
    refine ⟨e, rfl, ⟨_, SqT.of upd_same⟩, for_tup (K := K) (a := e) (xs := [.int 8, .int 9]) (fun j σ H' => Same (upd H10 e (.tup [.int 8, .int 9])) H' ∧ ∃ y4 : Option V, σ = [some x, some (.int q), some (.int g), some (.int m), y4, z5, z6, some (.int (rt g)), y8, some bad]) ⟨Same.refl _, _, rfl⟩ (fun j σ H' _ hG => ?_) (fun j v σ H' hv hG => ?_) (fun σ H' hG => ?_)⟩
    · exact SqT.of (hG.1 _ _ he)
    · obtain ⟨sm, y4', rfl⟩ := hG
      obtain ⟨wh, rfl, rootV, pairV⟩ : ∃ wh : Int, v = .int wh ∧ (∀ (H3 : Hp) (s t : V), Verdict K C1 C2 wh (.int q) s t H3 .root) ∧ ∀ (H3 : Hp) (s t : V), PairBad K H3 s → Verdict K C1 C2 wh (.int g) s t H3 .num := by
        match j, hv with
        | 0, hv =>
          cases hv
          exact ⟨_, rfl, fun H3 s t => v8_root S, fun H3 s t h => v8_pair R h⟩
        | 1, hv =>
          cases hv
          exact ⟨_, rfl, fun H3 s t => v9_root S, fun H3 s t h => v9_pair R h⟩
      have hb1 := hbad.same (s0.trans sm)
      refine ⟨_, rfl, _, rfl, _, rfl, _, rfl, wh, .int q, bad, bad, .root, rfl, rootV _ _ _, fun H4 s4 => ⟨rfl, _, rfl, ifF ne_same ?_⟩⟩
      refine ⟨_, rfl, _, rfl, _, rfl, (by show 2 ≤ sizeLine; decide), fun u nu => ?_⟩
      have s5 : Same H4 (upd H4 u (pr 1 1)) := same_new nu
      exact ⟨wh, .int g, bad, .ref u, .num, rfl, pairV _ _ _ (hb1.same (s4.trans s5)), fun H6 s6 => ⟨rfl, _, rfl, ifF ne_same ⟨sm.trans (s4.trans (s5.trans s6)), _, rfl⟩⟩⟩
    obtain ⟨sm, y4', rfl⟩ := hG
    have smA := s0.trans sm
    -- the end
    refine ⟨_, rfl, (by show 2 ≤ sizeLine; decide), fun u nu => ?_⟩
    have t1 : Same H' (upd H' u (pr 1 1)) := same_new nu
    refine ⟨_, rfl, 9, .int g, .ref u, bad, .num, rfl, v9_pair2 R (y := 1) (z := 1) upd_same (hbad.same (smA.trans t1)), fun H11 s11 => ⟨rfl, _, rfl, ifT eq_same ?_⟩⟩
    refine ⟨_, rfl, _, rfl, _, _, rfl, rfl, ⟨by decide, by decide, by decide⟩, (by show 2 ≤ sizeLine; decide), fun u2 nu2 => ⟨(by show 2 ≤ sizeLine; decide), fun u3 nu3 => ?_⟩⟩
    have t2 : Same H11 (upd H11 u2 (pr (-1) (10 ^ (40 : Int).toNat))) := same_new nu2
    have t3 : Same (upd H11 u2 (pr (-1) (10 ^ (40 : Int).toNat))) (upd (upd H11 u2 (pr (-1) (10 ^ (40 : Int).toNat))) u3 (pr 0 0)) := same_new nu3
    refine ⟨9, .int g, .ref u2, .ref u3, .ok, rfl, v9_ok R (y := -1) (z := 10 ^ (40 : Int).toNat) (a := 0) (b := 0) (t3 _ _ upd_same) upd_same (by decide) (by decide +kernel) (by decide) (by decide), fun H12 s12 => ⟨rfl, ?_⟩⟩
    show Q (.bl (decide (V.str "" = V.str ""))) H12
    rw [eq_same]
    exact out _ (smz.trans (smA.trans (t1.trans (s11.trans (t2.trans (t3.trans s12))))))
end
/-! the law -/
section
variable {P : Program} {w : World} {K : PySem.W.Frag} {mg : Str → Option Value} {base : Heap} {C0 C1 C2 : Addr}
theorem sqr_of {s : Int} (h0 : 2 ≤ s) (h1 : s ≤ 316) : Sqr (s * s) := by
  have a := Int.mul_le_mul h0 h0 (by omega) (by omega)
  have b := Int.mul_le_mul h1 h1 (by omega) (by omega)
  refine ⟨by omega, by omega, ?_⟩
  have e : (s + 1) * (s + 1) = s * s + 2 * s + 1 := by grind
  rw [rt_uniq (n := s * s) (a := s) (by omega) (Int.le_refl _) (by omega)]
theorem ok_law {f : Addr} {fd : FuncData} (F : Fun K "law" "law" s_law f fd) (T : Tb mg) (D_law_mixed : Dn P w K mg base "_law_mixed" 1 ["_law_number_here", "_law_k"] [] spMixed)
    (D_law_number_by : Dn P w K mg base "_law_number_by" 2 ["_law_number_here", "_law_most"] [] spNumBy) (D_law_numbers_right : Dn P w K mg base "_law_numbers_right" 9 ["_law_odd", "_law_square", "_law_good"] [] (spNums K))
    (D_law_seconds_right : Dn P w K mg base "_law_seconds_right" 9 ["_law_odd", "_law_square", "_law_good", "_law_more"] [] (spSeconds K)) (D_law_ends_right : Dn P w K mg base "_law_ends_right" 9 [] [] spEnds) : FnOk P w K mg base CX0 10 f fd ["_law_script"] spLaw := by
  refine F.ok sc_law (fun vs H Q E h => ?_) (fun cdv A outer s H vs Q E hr h => ?_)
  · obtain ⟨a, ns, rfl, _⟩ := h
    rfl
  · obtain ⟨a, ns, rfl, hS, hlen, q⟩ := h
    refine ⟨_, (pss_cons (ps_if (pt_not (pt_val (pe_callD0 D_law_ends_right hr (by decide) (by rfl))))
        (pss_one (ps_ret pe_bl)) pss_nil)
      (pss_cons (ps_for PassesOwn.never rfl (pi_enum (by rfl) T.b_enumerate (pa_cons (pe_slice sl_list (pe_op op_catR (pv 0) (pe_lst (pa_cons pe_int pa_nil))) po_none (po_some pe_int)) pa_nil)) (pg_tup rfl (pgs_cons (pg_name (i := 1) sc_law.nd rfl (.inl rfl)) (pgs_cons (pg_name (i := 2) sc_law.nd rfl (.inl rfl)) pgs_nil)))
        (pss_cons (ps_set (i := 3) sc_law.nd rfl (.inl rfl) (pe_callD D_law_mixed hr (by decide) (by rfl) (pa_cons (pv 2) (pa_cons (pv 1) pa_nil))))
      (pss_cons (ps_set (i := 4) sc_law.nd rfl (.inl rfl) (pe_ix (ixl (K := K) rfl) (pe_lst (pa_cons pe_non (pa_cons pe_bl (pa_cons pe_bl (pa_cons pe_str (pa_cons (pe_lst (pa_cons pe_int pa_nil)) (pa_cons (pe_tup (pa_cons pe_int pa_nil)) (pa_cons (pe_un un_neg pe_int) (pa_cons (pe_op op_sub (pe_un un_neg pe_int) (pe_op op_mod (pe_op op_fdivW (pv 3) pe_int) (pe_op op_pow pe_int pe_int))) pa_nil))))))))) (pe_op op_mod (pv 3) pe_int) (fun _ _ => rfl)))
      (pss_cons (ps_set (i := 5) sc_law.nd rfl (.inl rfl) (pe_op op_add pe_int (pe_op op_mod (pe_op op_fdivW (pv 3) pe_int) pe_int)))
      (pss_cons (ps_set (i := 6) sc_law.nd rfl (.inl rfl) (pe_callD D_law_number_by hr (by decide) (by rfl) (pa_cons (pe_callD D_law_mixed hr (by decide) (by rfl) (pa_cons (pv 2) (pa_cons (pe_op op_add pe_int (pv 1)) pa_nil))) (pa_cons pe_int pa_nil))))
      (pss_cons (ps_if (pt_not (pt_val (pe_callD D_law_numbers_right hr (by decide) (by rfl) (pa_cons (pv 4) (pa_cons (pe_op op_mulX (pv 5) (pv 5)) (pa_cons (pv 6) pa_nil))))))
        (pss_one (ps_ret pe_bl)) pss_nil)
      (pss_one (ps_if (pt_not (pt_val (pe_callD D_law_seconds_right hr (by decide) (by rfl) (pa_cons (pv 4) (pa_cons (pe_op op_mulX (pv 5) (pv 5)) (pa_cons (pv 6) (pa_cons (pe_callD D_law_mixed hr (by decide) (by rfl) (pa_cons (pv 2) (pa_cons (pe_op op_add pe_int (pv 1)) pa_nil))) pa_nil)))))))
        (pss_one (ps_ret pe_bl)) pss_nil))))))))
      (pss_one (ps_ret pe_bl)))), ?_⟩
    refine ⟨rfl, fun H s0 => ⟨_, rfl, ifF rfl ?_⟩⟩
    have hS := same_rd s0 hS
    refine ⟨_, rfl, (by show 1 ≤ sizeLine; decide), fun z nz => ⟨a, z, ns.map V.int, [.int 0], rfl, rfl, same_rd (same_new nz) hS, .inl upd_same, (by rw [List.length_map]; exact Nat.le_of_lt (sz (show ns.length + 1 ≤ 1000000 by omega))), fun p np => ?_⟩⟩
    refine ⟨6, rfl, p, _, rfl, SqL.of upd_same, fun c nc => ?_⟩
    have ec : cutV (ns.map V.int ++ [V.int 0]) none (some 6) = ((ns ++ [0]).take 6).map V.int := by
      rw [show (6 : Int) = ((6 : Nat) : Int) from rfl, cut_to, List.map_take, List.map_append]
      rfl
    rw [ec]
    have s0 := ((same_new (o := .lst [.int 0]) nz).trans (same_new (o := .lst (ns.map V.int ++ [V.int 0])) np)).trans (same_new (o := .lst (((ns ++ [0]).take 6).map V.int)) nc)
    have hc0 := upd_same (H := upd (upd H z (.lst [.int 0])) p (.lst (ns.map V.int ++ [V.int 0]))) (a := c) (o := .lst (((ns ++ [0]).take 6).map V.int))
    have hcl : ((ns ++ [0]).take 6).length ≤ 6 := by
      rw [List.length_take]
      omega
    generalize (ns ++ [0]).take 6 = cells at *
    refine ⟨c, _, rfl, SqL.of hc0, for_enum (xs := cells.map V.int) (fun i σ H' => ∃ y1 y2 y3 y4 y5 y6 : Option V, σ = [some (.ref a), y1, y2, y3, y4, y5, y6] ∧ H' c = some (.lst (cells.map V.int)))
      ⟨none, none, none, none, none, none, rfl, hc0⟩ (fun i σ H' hG => ?_) (fun i x0 T' σ H' hx hG nT => ?_) (fun σ H' hG => q _)⟩
    · obtain ⟨_, _, _, _, _, _, _, h1⟩ := hG
      exact .inl (.inl h1)
    · obtain ⟨y1, y2, y3, y4, y5, y6, rfl, hc⟩ := hG
      have hi := (List.getElem?_eq_some_iff.mp hx).1
      rw [List.length_map] at hi
      obtain ⟨m, _, rfl⟩ := ints_at hx
      refine ⟨T', _, rfl, .inl (.inl upd_same), rfl, _, _, rfl, _, [], rfl, rfl, ?_⟩
      have t1 : Same H' (upd H' T' (.tup [.int (i : Nat), .int m])) := same_new nT
      generalize (upd H' T' (.tup [.int (i : Nat), .int m])) = H2 at *
      -- more
      refine ⟨_, rfl, _, rfl, m, (i : Nat), rfl, by omega, by omega, ?_⟩
      have mo0 := mixed_ge m (i : Nat)
      have mo1 := mixed_lt m (i : Nat)
      generalize mixed m (i : Nat) = mo at *
      -- what is odd
      refine ⟨(by show 1 ≤ sizeLine; decide), fun a4 n4 => ⟨(by show 1 ≤ sizeLine; decide), fun a5 n5 => ⟨_, rfl, _, rfl, _, rfl, _, _, rfl, rfl, dv (by decide) (by decide), _, _, rfl, rfl, ⟨by decide, by decide, by decide⟩, ?_⟩⟩⟩
      have e9 : (10 : Int) ^ (9 : Int).toNat = 1000000000 := by decide
      refine ⟨_, _, rfl, rfl, (by show (0 : Int) < 10 ^ (9 : Int).toNat; decide), _, _, rfl, rfl, (by show 8 ≤ sizeLine; decide), fun z nz => ?_⟩
      have q1 : Same H2 (upd H2 a4 (.lst [.int 5])) := same_new n4
      have p1 : (upd H2 a4 (.lst [.int 5])) a4 = some (.lst [.int 5]) := upd_same
      have q2 : Same (upd H2 a4 (.lst [.int 5])) (upd (upd H2 a4 (.lst [.int 5])) a5 (.tup [.int 5])) := same_new n5
      have p2 : (upd (upd H2 a4 (.lst [.int 5])) a5 (.tup [.int 5])) a5 = some (.tup [.int 5]) := upd_same
      refine ⟨_, rfl, _, _, rfl, rfl, (by show (0 : Int) < 8; decide), ?_⟩
      have v0 : -1 - mo / 8 % 10 ^ (9 : Int).toNat < 0 := by
        have := Int.emod_nonneg (mo / 8) (show (10 : Int) ^ (9 : Int).toNat ≠ 0 by decide)
        omega
      obtain ⟨odd, hat, O⟩ : ∃ odd, atI [V.non, .bl true, .bl false, .str "5", .ref a4, .ref a5, .int (-1), .int (-1 - mo / 8 % 10 ^ (9 : Int).toNat)] (mo % 8) = some odd ∧ Odd K (upd (upd H2 a4 (.lst [.int 5])) a5 (.tup [.int 5])) odd := by
        rcases (by omega : mo % 8 = 0 ∨ mo % 8 = 1 ∨ mo % 8 = 2 ∨ mo % 8 = 3 ∨ mo % 8 = 4 ∨ mo % 8 = 5 ∨ mo % 8 = 6 ∨ mo % 8 = 7) with e | e | e | e | e | e | e | e <;> rw [e]
        · exact ⟨_, rfl, .inr (.inr ⟨"NoneType", .base .non, by decide +kernel⟩)⟩
        · exact ⟨_, rfl, .inr (.inl ⟨_, rfl⟩)⟩
        · exact ⟨_, rfl, .inr (.inl ⟨_, rfl⟩)⟩
        · exact ⟨_, rfl, .inr (.inr ⟨"str", .base (.str _), by decide +kernel⟩)⟩
        · exact ⟨_, rfl, .inr (.inr ⟨"list", .base (.lst (q2 _ _ p1)), by decide +kernel⟩)⟩
        · exact ⟨_, rfl, .inr (.inr ⟨"tuple", .base (.tup p2), by decide +kernel⟩)⟩
        · exact ⟨_, rfl, .inl ⟨_, rfl, by decide⟩⟩
        · exact ⟨_, rfl, .inl ⟨_, rfl, v0⟩⟩
      refine ⟨z, _, _, _, rfl, rfl, SqL.of upd_same, hat, ?_⟩
      have q3 : Same (upd (upd H2 a4 (.lst [.int 5])) a5 (.tup [.int 5])) (upd (upd (upd H2 a4 (.lst [.int 5])) a5 (.tup [.int 5])) z (.lst [.non, .bl true, .bl false, .str "5", .ref a4, .ref a5, .int (-1), .int (-1 - mo / 8 % 10 ^ (9 : Int).toNat)])) := same_new nz
      have O3 := O.same q3
      have sm3 := t1.trans (q1.trans (q2.trans q3))
      clear hat v0 q3 q2 q1 p1 p2 O
      dsimp only at O3 sm3 ⊢
      generalize (upd (upd (upd H2 a4 (.lst [.int 5])) a5 (.tup [.int 5])) z (.lst [.non, .bl true, .bl false, .str "5", .ref a4, .ref a5, .int (-1), .int (-1 - mo / 8 % 10 ^ (9 : Int).toNat)])) = H3 at *
      refine go_next ?_
      -- the side, the number
      refine ⟨_, rfl, _, _, rfl, rfl, dv (by decide) (by decide), _, _, rfl, rfl, (by show (0 : Int) < 315; decide), _, _, rfl, rfl, ?_⟩
      have sd0 : 2 ≤ 2 + mo / 8 % 315 := by omega
      have sd1 : 2 + mo / 8 % 315 ≤ 316 := by omega
      dsimp only
      generalize 2 + mo / 8 % 315 = sd at *
      have sdb : sd.natAbs < 2 ^ 10 := by omega
      refine go_next ?_
      refine ⟨_, rfl, _, rfl, _, _, rfl, rfl, m, 70 + (i : Nat), rfl, by omega, by omega, _, 3000, rfl, mixed_ge .., by have := mixed_lt m (70 + (i : Nat)); omega, most_3000, fun n H4 s4 R _ => ?_⟩
      have hc4 := s4 _ _ (sm3 _ _ hc)
      -- numbers, second ones
      refine ⟨_, rfl, _, rfl, _, rfl, _, _, rfl, rfl, mx 10 10 sdb sdb, _, rfl, odd, sd * sd, n, rfl, O3.same s4, sqr_of sd0 sd1, R, fun H5 s5 => ⟨_, rfl, ifF rfl ?_⟩⟩
      refine ⟨_, rfl, _, rfl, _, rfl, _, _, rfl, rfl, mx 10 10 sdb sdb, _, rfl, _, rfl, _, rfl, _, _, rfl, rfl, m, 140 + (i : Nat), rfl, by omega, by omega, odd, sd * sd, n, _, rfl, O3.same (s4.trans s5), sqr_of sd0 sd1, R, mixed_ge .., mixed_lt .., fun H6 s6 => ⟨_, rfl, ifF rfl ?_⟩⟩
      exact ⟨_, _, _, _, _, _, rfl, s6 _ _ (s5 _ _ hc4)⟩
end
end RL
namespace RL
open PySem PySem.Spec PyProof.Rows L2
/-! the head, the end -/
def ds_is_number : He.DefD := ⟨("is_number", none), "is_number", "is_number", defArgs s_is_number, defBody s_is_number, defScope s_is_number, [], []⟩
def ds_need_number : He.DefD := ⟨("need_number", none), "need_number", "need_number", defArgs s_need_number, defBody s_need_number, defScope s_need_number, [.non], []⟩
def ds_rooted : He.DefD := ⟨("rooted", none), "rooted", "rooted", defArgs s_rooted, defBody s_rooted, defScope s_rooted, [], []⟩
def ds_need_root : He.DefD := ⟨("need_root", none), "need_root", "need_root", defArgs s_need_root, defBody s_need_root, defScope s_need_root, [], []⟩
def ds_l_mixed : He.DefD := ⟨("_law_mixed", none), "_law_mixed", "_law_mixed", defArgs s_l_mixed, defBody s_l_mixed, defScope s_l_mixed, [], []⟩
def ds_l_root : He.DefD := ⟨("_law_root", none), "_law_root", "_law_root", defArgs s_l_root, defBody s_l_root, defScope s_l_root, [], []⟩
def ds_l_number_by : He.DefD := ⟨("_law_number_by", none), "_law_number_by", "_law_number_by", defArgs s_l_number_by, defBody s_l_number_by, defScope s_l_number_by, [], []⟩
def ds_whole_root : He.DefD := ⟨("whole_root", none), "whole_root", "whole_root", defArgs s_whole_root, defBody s_whole_root, defScope s_whole_root, [], []⟩
def ds_is_square : He.DefD := ⟨("is_square", none), "is_square", "is_square", defArgs s_is_square, defBody s_is_square, defScope s_is_square, [], []⟩
def ds_round_of : He.DefD := ⟨("round_of", none), "round_of", "round_of", defArgs s_round_of, defBody s_round_of, defScope s_round_of, [], []⟩
def ds_ladder : He.DefD := ⟨("ladder", none), "ladder", "ladder", defArgs s_ladder, defBody s_ladder, defScope s_ladder, [], []⟩
def ds_fractions_of : He.DefD := ⟨("fractions_of", none), "fractions_of", "fractions_of", defArgs s_fractions_of, defBody s_fractions_of, defScope s_fractions_of, [], []⟩
def ds_fractions : He.DefD := ⟨("fractions", none), "fractions", "fractions", defArgs s_fractions, defBody s_fractions, defScope s_fractions, [.int 10], []⟩
def ds_need_pair : He.DefD := ⟨("need_pair", none), "need_pair", "need_pair", defArgs s_need_pair, defBody s_need_pair, defScope s_need_pair, [], []⟩
def ds_worth_of : He.DefD := ⟨("worth_of", none), "worth_of", "worth_of", defArgs s_worth_of, defBody s_worth_of, defScope s_worth_of, [], []⟩
def ds_product : He.DefD := ⟨("product", none), "product", "product", defArgs s_product, defBody s_product, defScope s_product, [], []⟩
def ds_worth : He.DefD := ⟨("worth", none), "worth", "worth", defArgs s_worth, defBody s_worth, defScope s_worth, [], []⟩
def ds_times : He.DefD := ⟨("times", none), "times", "times", defArgs s_times, defBody s_times, defScope s_times, [], []⟩
def ds_first_of : He.DefD := ⟨("first_of", none), "first_of", "first_of", defArgs s_first_of, defBody s_first_of, defScope s_first_of, [], []⟩
def ds_least_one_of : He.DefD := ⟨("least_one_of", none), "least_one_of", "least_one_of", defArgs s_least_one_of, defBody s_least_one_of, defScope s_least_one_of, [], []⟩
def ds_least_one : He.DefD := ⟨("least_one", none), "least_one", "least_one", defArgs s_least_one, defBody s_least_one, defScope s_least_one, [], []⟩
def ds_least_less_one : He.DefD := ⟨("least_less_one", none), "least_less_one", "least_less_one", defArgs s_least_less_one, defBody s_least_less_one, defScope s_least_less_one, [], []⟩
def ds_ones : He.DefD := ⟨("ones", none), "ones", "ones", defArgs s_ones, defBody s_ones, defScope s_ones, [.int 5], []⟩
def ds_by_size : He.DefD := ⟨("by_size", none), "by_size", "by_size", defArgs s_by_size, defBody s_by_size, defScope s_by_size, [], []⟩
def ds_reach : He.DefD := ⟨("reach", none), "reach", "reach", defArgs s_reach, defBody s_reach, defScope s_reach, [], []⟩
def ds_l_name : He.DefD := ⟨("_law_name", none), "_law_name", "_law_name", defArgs s_l_name, defBody s_l_name, defScope s_l_name, [], []⟩
def ds_l_asked : He.DefD := ⟨("_law_asked", none), "_law_asked", "_law_asked", defArgs s_l_asked, defBody s_l_asked, defScope s_l_asked, [], []⟩
def ds_l_said : He.DefD := ⟨("_law_said", none), "_law_said", "_law_said", defArgs s_l_said, defBody s_l_said, defScope s_l_said, [], []⟩
def ds_l_numbers_right : He.DefD := ⟨("_law_numbers_right", none), "_law_numbers_right", "_law_numbers_right", defArgs s_l_numbers_right, defBody s_l_numbers_right, defScope s_l_numbers_right, [], []⟩
def ds_l_seconds_right : He.DefD := ⟨("_law_seconds_right", none), "_law_seconds_right", "_law_seconds_right", defArgs s_l_seconds_right, defBody s_l_seconds_right, defScope s_l_seconds_right, [], []⟩
def ds_l_ends_right : He.DefD := ⟨("_law_ends_right", none), "_law_ends_right", "_law_ends_right", defArgs s_l_ends_right, defBody s_l_ends_right, defScope s_l_ends_right, [], []⟩
def ds_law : He.DefD := ⟨("law", none), "law", "law", defArgs s_law, defBody s_law, defScope s_law, [], []⟩
def fnT : List He.DefD := [ds_is_number, ds_need_number, ds_rooted, ds_need_root, ds_l_mixed, ds_l_root, ds_l_number_by, ds_whole_root, ds_is_square, ds_round_of, ds_ladder, ds_fractions_of, ds_fractions, ds_need_pair, ds_worth_of, ds_product, ds_worth, ds_times, ds_first_of, ds_least_one_of, ds_least_one, ds_least_less_one, ds_ones, ds_by_size, ds_reach, ds_l_name, ds_l_asked, ds_l_said, ds_l_numbers_right, ds_l_seconds_right, ds_l_ends_right, ds_law]
def faT : List He.Fa := [.glo "is_number", .glo "need_number", .glo "rooted", .glo "need_root", .glo "_law_mixed", .glo "_law_root", .glo "_law_number_by", .glo "whole_root", .glo "is_square", .glo "round_of", .glo "ladder", .glo "fractions_of", .glo "fractions", .glo "need_pair", .glo "worth_of", .glo "product", .glo "worth", .glo "times", .glo "first_of", .glo "least_one_of", .glo "least_one", .glo "least_less_one", .glo "ones", .glo "by_size", .glo "reach", .glo "_law_name", .glo "_law_asked", .glo "_law_said", .glo "_law_numbers_right", .glo "_law_seconds_right", .glo "_law_ends_right", .glo "law", .free "isinstance", .free "int", .free "bool", .free "tuple", .free "len", .free "enumerate", .free "range", .free "min", .free "abs", .free "ValueError", .int "MOST" 100000, .int "MOST_FRACTIONS" 200, .int "MOST_ONES" 20, .glo "NoNumber", .exc "NoNumber", .glo "NoRoot", .exc "NoRoot", .glo "RootError", .exm "NoNumber" "RootError" true, .exm "NoRoot" "RootError" true]
abbrev RT : PySem.W.OpenRow := PySem.W.OpenLaw.row PySem.Challenge.rw_rootladder_k01_what_is_refused
abbrev hkT : PySem.W.Hook := hookX 4 faT fnT
def obT (s : PySem.W.SharedT) : Bool × He.AlD := obX 4 faT fnT (HandSHeadRun.getT s)
theorem obT_eq (s : PySem.W.SharedT) : obT s = hkT.obs s.abs := obX_eq (HandSHeadRun.getT_eq s)
def looseT : List Str := (["RootError", "NoNumber", "NoRoot", "MOST", "is_number", "need_number", "rooted", "need_root", "whole_root", "is_square", "MOST_FRACTIONS", "round_of", "ladder", "fractions_of", "fractions", "need_pair", "worth_of", "product", "worth", "times", "MOST_ONES", "first_of", "least_one_of", "least_one", "least_less_one", "ones", "by_size", "reach", "_law_mixed", "_law_number"] : List Str) ++ (["_law_root", "_law_number_by", "_law_name", "_law_asked", "_law_said", "_law_numbers_right", "_law_seconds_right", "_law_ends_right"] : List Str)
set_option maxHeartbeats 0 in
theorem runT (w : World) : HandSHeadRun.RunEq RT (PySem.W.view RT.prog [44]) hkT obT 3000 looseT w := by
  intro os
  kernel_rfl
theorem factsT {P : Program} {w : World} {K : PySem.W.Frag} {h : Heap} {mg : Str → Option Value} {f : Addr} (X : K.In h) (G : h.Ns mainGlobals mg) (hfa : mg ("law" : Str) = some (.ref f)) (xb : xB K = true) (c : He.SaysD faT fnT K) :
    ∃ fd : FuncData, (∀ (s : Shared) (v : Value), BindsTo s fd ⟨[v], []⟩ [("_law_script", v)]) ∧ ∀ base : Heap, K.In base → base.Ns mainGlobals mg → FnOk P w K mg base CX0 10 f fd ["_law_script"] spLaw := by
  obtain ⟨fd0, F0⟩ := c.def_ 0 (d := ds_is_number) rfl
  obtain ⟨fd1, F1⟩ := c.def_ 1 (d := ds_need_number) rfl
  obtain ⟨fd2, F2⟩ := c.def_ 2 (d := ds_rooted) rfl
  obtain ⟨fd3, F3⟩ := c.def_ 3 (d := ds_need_root) rfl
  obtain ⟨fd4, F4⟩ := c.def_ 4 (d := ds_l_mixed) rfl
  obtain ⟨fd5, F5⟩ := c.def_ 5 (d := ds_l_root) rfl
  obtain ⟨fd6, F6⟩ := c.def_ 6 (d := ds_l_number_by) rfl
  obtain ⟨fd7, F7⟩ := c.def_ 7 (d := ds_whole_root) rfl
  obtain ⟨fd8, F8⟩ := c.def_ 8 (d := ds_is_square) rfl
  obtain ⟨fd9, F9⟩ := c.def_ 9 (d := ds_round_of) rfl
  obtain ⟨fd10, F10⟩ := c.def_ 10 (d := ds_ladder) rfl
  obtain ⟨fd11, F11⟩ := c.def_ 11 (d := ds_fractions_of) rfl
  obtain ⟨fd12, F12⟩ := c.def_ 12 (d := ds_fractions) rfl
  obtain ⟨fd13, F13⟩ := c.def_ 13 (d := ds_need_pair) rfl
  obtain ⟨fd14, F14⟩ := c.def_ 14 (d := ds_worth_of) rfl
  obtain ⟨fd15, F15⟩ := c.def_ 15 (d := ds_product) rfl
  obtain ⟨fd16, F16⟩ := c.def_ 16 (d := ds_worth) rfl
  obtain ⟨fd17, F17⟩ := c.def_ 17 (d := ds_times) rfl
  obtain ⟨fd18, F18⟩ := c.def_ 18 (d := ds_first_of) rfl
  obtain ⟨fd19, F19⟩ := c.def_ 19 (d := ds_least_one_of) rfl
  obtain ⟨fd20, F20⟩ := c.def_ 20 (d := ds_least_one) rfl
  obtain ⟨fd21, F21⟩ := c.def_ 21 (d := ds_least_less_one) rfl
  obtain ⟨fd22, F22⟩ := c.def_ 22 (d := ds_ones) rfl
  obtain ⟨fd23, F23⟩ := c.def_ 23 (d := ds_by_size) rfl
  obtain ⟨fd24, F24⟩ := c.def_ 24 (d := ds_reach) rfl
  obtain ⟨fd25, F25⟩ := c.def_ 25 (d := ds_l_name) rfl
  obtain ⟨fd26, F26⟩ := c.def_ 26 (d := ds_l_asked) rfl
  obtain ⟨fd27, F27⟩ := c.def_ 27 (d := ds_l_said) rfl
  obtain ⟨fd28, F28⟩ := c.def_ 28 (d := ds_l_numbers_right) rfl
  obtain ⟨fd29, F29⟩ := c.def_ 29 (d := ds_l_seconds_right) rfl
  obtain ⟨fd30, F30⟩ := c.def_ 30 (d := ds_l_ends_right) rfl
  obtain ⟨fd31, F31⟩ := c.def_ 31 (d := ds_law) rfl
  have T : Tb mg := ⟨He.free_ok X G (c.fact 32 (f := .free "isinstance") rfl), He.free_ok X G (c.fact 33 (f := .free "int") rfl), He.free_ok X G (c.fact 34 (f := .free "bool") rfl), He.free_ok X G (c.fact 35 (f := .free "tuple") rfl), He.free_ok X G (c.fact 36 (f := .free "len") rfl), He.free_ok X G (c.fact 37 (f := .free "enumerate") rfl), He.free_ok X G (c.fact 38 (f := .free "range") rfl), He.free_ok X G (c.fact 39 (f := .free "min") rfl), He.free_ok X G (c.fact 40 (f := .free "abs") rfl), He.free_ok X G (c.fact 41 (f := .free "ValueError") rfl), He.int_ok X G (c.fact 42 (f := .int "MOST" 100000) rfl), He.int_ok X G (c.fact 43 (f := .int "MOST_FRACTIONS" 200) rfl), He.int_ok X G (c.fact 44 (f := .int "MOST_ONES" 20) rfl)⟩
  obtain ⟨u1, u2, u3, u4⟩ := He.exc_ok (c.fact 46 (f := .exc "NoNumber") rfl)
  have XC_NoNumber : XCls K mg "NoNumber" (He.ga K "NoNumber") := ⟨He.glo_ok X G (c.fact 45 (f := .glo "NoNumber") rfl), u1, u2, u3, u4⟩
  obtain ⟨u1, u2, u3, u4⟩ := He.exc_ok (c.fact 48 (f := .exc "NoRoot") rfl)
  have XC_NoRoot : XCls K mg "NoRoot" (He.ga K "NoRoot") := ⟨He.glo_ok X G (c.fact 47 (f := .glo "NoRoot") rfl), u1, u2, u3, u4⟩
  have gC0 := He.glo_ok X G (c.fact 49 (f := .glo "RootError") rfl)
  have x1 := He.exm_ok (c.fact 50 (f := .exm "NoNumber" "RootError" true) rfl)
  have x2 := He.exm_ok (c.fact 51 (f := .exm "NoRoot" "RootError" true) rfl)
  have N := xB_ok xb
  have e := hfa.symm.trans (He.glo_ok X G (c.fact 31 (f := .glo "law") rfl))
  cases e
  have b := FunD.bindsA (ps := ["_law_script"]) F31 fun _ _ _ _ _ _ us hl => match us, hl with | [_], _ => rfl
  have b0 := FunD.bindsN (ps := ["thing"]) F0 fun _ _ _ _ _ _ us hl => match us, hl with | [_], _ => rfl
  obtain ⟨ds1, v1, b1⟩ := FunD.binds1 (ps := ["thing", "least", "most"]) F1 3 1 (List.cons_ne_nil _ _) rfl fun _ _ _ _ _ _ _ us its hl hi => match us, hl, its, hi with | [_, _, _], _, [_], _ => ⟨_, rfl, rfl⟩
  obtain ⟨es1, w1, c1⟩ := FunD.binds1 (ps := ["thing", "least", "most"]) F1 2 0 (List.cons_ne_nil _ _) rfl fun _ _ _ _ _ _ _ us its hl hi => match us, hl, its, hi with | [_, _], _, [_], _ => ⟨_, rfl, rfl⟩
  have b2 := FunD.bindsN (ps := ["number"]) F2 fun _ _ _ _ _ _ us hl => match us, hl with | [_], _ => rfl
  have b3 := FunD.bindsN (ps := ["number"]) F3 fun _ _ _ _ _ _ us hl => match us, hl with | [_], _ => rfl
  have b4 := FunD.bindsN (ps := ["_law_number_here", "_law_k"]) F4 fun _ _ _ _ _ _ us hl => match us, hl with | [_, _], _ => rfl
  have b5 := FunD.bindsN (ps := ["_law_number_here"]) F5 fun _ _ _ _ _ _ us hl => match us, hl with | [_], _ => rfl
  have b6 := FunD.bindsN (ps := ["_law_number_here", "_law_most"]) F6 fun _ _ _ _ _ _ us hl => match us, hl with | [_, _], _ => rfl
  have b7 := FunD.bindsN (ps := ["number"]) F7 fun _ _ _ _ _ _ us hl => match us, hl with | [_], _ => rfl
  have b8 := FunD.bindsN (ps := ["number"]) F8 fun _ _ _ _ _ _ us hl => match us, hl with | [_], _ => rfl
  have b9 := FunD.bindsN (ps := ["number"]) F9 fun _ _ _ _ _ _ us hl => match us, hl with | [_], _ => rfl
  have b10 := FunD.bindsN (ps := ["number"]) F10 fun _ _ _ _ _ _ us hl => match us, hl with | [_], _ => rfl
  have b11 := FunD.bindsN (ps := ["number", "many"]) F11 fun _ _ _ _ _ _ us hl => match us, hl with | [_, _], _ => rfl
  obtain ⟨ds12, v12, b12⟩ := FunD.binds1 (ps := ["number", "many"]) F12 2 1 (List.cons_ne_nil _ _) rfl fun _ _ _ _ _ _ _ us its hl hi => match us, hl, its, hi with | [_, _], _, [_], _ => ⟨_, rfl, rfl⟩
  obtain ⟨es12, w12, c12⟩ := FunD.binds1 (ps := ["number", "many"]) F12 1 0 (List.cons_ne_nil _ _) rfl fun _ _ _ _ _ _ _ us its hl hi => match us, hl, its, hi with | [_], _, [_], _ => ⟨_, rfl, rfl⟩
  have b13 := FunD.bindsN (ps := ["thing"]) F13 fun _ _ _ _ _ _ us hl => match us, hl with | [_], _ => rfl
  have b14 := FunD.bindsN (ps := ["number", "pair"]) F14 fun _ _ _ _ _ _ us hl => match us, hl with | [_, _], _ => rfl
  have b15 := FunD.bindsN (ps := ["number", "one", "other"]) F15 fun _ _ _ _ _ _ us hl => match us, hl with | [_, _, _], _ => rfl
  have b16 := FunD.bindsN (ps := ["number", "pair"]) F16 fun _ _ _ _ _ _ us hl => match us, hl with | [_, _], _ => rfl
  have b17 := FunD.bindsN (ps := ["number", "one", "other"]) F17 fun _ _ _ _ _ _ us hl => match us, hl with | [_, _, _], _ => rfl
  have b18 := FunD.bindsN (ps := ["number"]) F18 fun _ _ _ _ _ _ us hl => match us, hl with | [_], _ => rfl
  have b19 := FunD.bindsN (ps := ["number"]) F19 fun _ _ _ _ _ _ us hl => match us, hl with | [_], _ => rfl
  have b20 := FunD.bindsN (ps := ["number"]) F20 fun _ _ _ _ _ _ us hl => match us, hl with | [_], _ => rfl
  have b21 := FunD.bindsN (ps := ["number"]) F21 fun _ _ _ _ _ _ us hl => match us, hl with | [_], _ => rfl
  obtain ⟨ds22, v22, b22⟩ := FunD.binds1 (ps := ["number", "many"]) F22 2 1 (List.cons_ne_nil _ _) rfl fun _ _ _ _ _ _ _ us its hl hi => match us, hl, its, hi with | [_, _], _, [_], _ => ⟨_, rfl, rfl⟩
  obtain ⟨es22, w22, c22⟩ := FunD.binds1 (ps := ["number", "many"]) F22 1 0 (List.cons_ne_nil _ _) rfl fun _ _ _ _ _ _ _ us its hl hi => match us, hl, its, hi with | [_], _, [_], _ => ⟨_, rfl, rfl⟩
  have b23 := FunD.bindsN (ps := ["pair"]) F23 fun _ _ _ _ _ _ us hl => match us, hl with | [_], _ => rfl
  have b24 := FunD.bindsN (ps := ["number", "told"]) F24 fun _ _ _ _ _ _ us hl => match us, hl with | [_, _], _ => rfl
  have b25 := FunD.bindsN (ps := ["_law_error"]) F25 fun _ _ _ _ _ _ us hl => match us, hl with | [_], _ => rfl
  have b26 := FunD.bindsN (ps := ["_law_which", "_law_number_here", "_law_second", "_law_third"]) F26 fun _ _ _ _ _ _ us hl => match us, hl with | [_, _, _, _], _ => rfl
  have b27 := FunD.bindsN (ps := ["_law_which", "_law_number_here", "_law_second", "_law_third"]) F27 fun _ _ _ _ _ _ us hl => match us, hl with | [_, _, _, _], _ => rfl
  have b28 := FunD.bindsN (ps := ["_law_odd", "_law_square", "_law_good"]) F28 fun _ _ _ _ _ _ us hl => match us, hl with | [_, _, _], _ => rfl
  have b29 := FunD.bindsN (ps := ["_law_odd", "_law_square", "_law_good", "_law_more"]) F29 fun _ _ _ _ _ _ us hl => match us, hl with | [_, _, _, _], _ => rfl
  have b30 := FunD.bindsN (ps := []) F30 fun _ _ _ _ _ _ us hl => match us, hl with | [], _ => rfl
  refine ⟨fd31, fun s v => b s [v] rfl, fun base _ _ => ?_⟩
  have G0 : FnOk P w K mg base CX0 1 (He.fAd K ds_is_number.at_) fd0 ["thing"] spIsNum := ok_is_number (toFun F0) T
  have D_is_number : Dn P w K mg base "is_number" 1 ["thing"] [] spIsNum := ⟨_, _, [], G0, He.glo_ok X G (c.fact 0 (f := .glo "is_number") rfl), F0.kp, b0, .nil⟩
  have DG_is_number : Dn P w K mg base "is_number" 1 ["thing"] [] (spIsNumG K) := ⟨_, _, [], (ok_is_numberG (toFun F0) T), He.glo_ok X G (c.fact 0 (f := .glo "is_number") rfl), F0.kp, b0, .nil⟩
  have G1 : FnOk P w K mg base CX0 2 (He.fAd K ds_need_number.at_) fd1 ["thing", "least", "most"] spNeed := ok_need_number F1 T D_is_number
  have D_need_number : Dn P w K mg base "need_number" 2 ["thing", "least", "most"] [] spNeed := ⟨_, _, ds1, G1, He.glo_ok X G (c.fact 1 (f := .glo "need_number") rfl), F1.kp, b1, v1⟩
  have D_need_number_d : Dn P w K mg base "need_number" 2 ["thing", "least", "most"] [.non] spNeed := ⟨_, _, es1, G1, He.glo_ok X G (c.fact 1 (f := .glo "need_number") rfl), F1.kp, c1, w1⟩
  have DX_need_number : DnX P w K mg base "need_number" 2 ["thing", "least", "most"] [] (spOr spNeed (spBadNeed K (He.ga K "NoNumber"))) := ⟨_, _, ds1, (orX G1 (bad_need_number F1 XC_NoNumber DG_is_number)), He.glo_ok X G (c.fact 1 (f := .glo "need_number") rfl), F1.kp, b1, v1⟩
  have DX_need_number_d : DnX P w K mg base "need_number" 2 ["thing", "least", "most"] [.non] (spOr spNeed (spBadNeed K (He.ga K "NoNumber"))) := ⟨_, _, es1, (orX G1 (bad_need_number F1 XC_NoNumber DG_is_number)), He.glo_ok X G (c.fact 1 (f := .glo "need_number") rfl), F1.kp, c1, w1⟩
  have G2 : FnOk P w K mg base CX0 1 (He.fAd K ds_rooted.at_) fd2 ["number"] spRooted := ok_rooted (toFun F2) 
  have D_rooted : Dn P w K mg base "rooted" 1 ["number"] [] spRooted := ⟨_, _, [], G2, He.glo_ok X G (c.fact 2 (f := .glo "rooted") rfl), F2.kp, b2, .nil⟩
  have G3 : FnOk P w K mg base CX0 3 (He.fAd K ds_need_root.at_) fd3 ["number"] spNeedRoot := ok_need_root (toFun F3) T D_need_number D_rooted
  have D_need_root : Dn P w K mg base "need_root" 3 ["number"] [] spNeedRoot := ⟨_, _, [], G3, He.glo_ok X G (c.fact 3 (f := .glo "need_root") rfl), F3.kp, b3, .nil⟩
  have DX_need_root : DnX P w K mg base "need_root" 3 ["number"] [] (spOr spNeedRoot (spBadRoot K (He.ga K "NoNumber") (He.ga K "NoRoot"))) := ⟨_, _, [], (orX G3 (bad_need_root (toFun F3) T XC_NoRoot DX_need_number D_rooted)), He.glo_ok X G (c.fact 3 (f := .glo "need_root") rfl), F3.kp, b3, .nil⟩
  have G4 : FnOk P w K mg base CX0 1 (He.fAd K ds_l_mixed.at_) fd4 ["_law_number_here", "_law_k"] spMixed := ok_mixed (toFun F4) 
  have D_law_mixed : Dn P w K mg base "_law_mixed" 1 ["_law_number_here", "_law_k"] [] spMixed := ⟨_, _, [], G4, He.glo_ok X G (c.fact 4 (f := .glo "_law_mixed") rfl), F4.kp, b4, .nil⟩
  have G5 : FnOk P w K mg base CX0 1 (He.fAd K ds_l_root.at_) fd5 ["_law_number_here"] spRooted := ok_law_root (toFun F5) 
  have D_law_root : Dn P w K mg base "_law_root" 1 ["_law_number_here"] [] spRooted := ⟨_, _, [], G5, He.glo_ok X G (c.fact 5 (f := .glo "_law_root") rfl), F5.kp, b5, .nil⟩
  have G6 : FnOk P w K mg base CX0 2 (He.fAd K ds_l_number_by.at_) fd6 ["_law_number_here", "_law_most"] spNumBy := ok_law_number_by (toFun F6) D_law_root
  have D_law_number_by : Dn P w K mg base "_law_number_by" 2 ["_law_number_here", "_law_most"] [] spNumBy := ⟨_, _, [], G6, He.glo_ok X G (c.fact 6 (f := .glo "_law_number_by") rfl), F6.kp, b6, .nil⟩
  have G7 : FnOk P w K mg base CX0 3 (He.fAd K ds_whole_root.at_) fd7 ["number"] spWhole := ok_whole_root (toFun F7) D_need_number_d D_rooted
  have D_whole_root : Dn P w K mg base "whole_root" 3 ["number"] [] spWhole := ⟨_, _, [], G7, He.glo_ok X G (c.fact 7 (f := .glo "whole_root") rfl), F7.kp, b7, .nil⟩
  have DX_whole_root : DnX P w K mg base "whole_root" 3 ["number"] [] (spOr spWhole (spBadWhole K (He.ga K "NoNumber"))) := ⟨_, _, [], (orX G7 (bad_whole_root (toFun F7) DX_need_number_d)), He.glo_ok X G (c.fact 7 (f := .glo "whole_root") rfl), F7.kp, b7, .nil⟩
  have G8 : FnOk P w K mg base CX0 3 (He.fAd K ds_is_square.at_) fd8 ["number"] spIsSq := ok_is_square (toFun F8) D_need_number_d D_rooted
  have D_is_square : Dn P w K mg base "is_square" 3 ["number"] [] spIsSq := ⟨_, _, [], G8, He.glo_ok X G (c.fact 8 (f := .glo "is_square") rfl), F8.kp, b8, .nil⟩
  have DX_is_square : DnX P w K mg base "is_square" 3 ["number"] [] (spOr spIsSq (spBadWhole K (He.ga K "NoNumber"))) := ⟨_, _, [], (orX G8 (bad_is_square (toFun F8) DX_need_number_d)), He.glo_ok X G (c.fact 8 (f := .glo "is_square") rfl), F8.kp, b8, .nil⟩
  have G9 : FnOk P w K mg base CX0 2 (He.fAd K ds_round_of.at_) fd9 ["number"] spRoundOf := ok_round_of (toFun F9) D_rooted
  have D_round_of : Dn P w K mg base "round_of" 2 ["number"] [] spRoundOf := ⟨_, _, [], G9, He.glo_ok X G (c.fact 9 (f := .glo "round_of") rfl), F9.kp, b9, .nil⟩
  have G10 : FnOk P w K mg base CX0 4 (He.fAd K ds_ladder.at_) fd10 ["number"] spLadder := ok_ladder (toFun F10) D_need_root D_rooted D_round_of
  have D_ladder : Dn P w K mg base "ladder" 4 ["number"] [] spLadder := ⟨_, _, [], G10, He.glo_ok X G (c.fact 10 (f := .glo "ladder") rfl), F10.kp, b10, .nil⟩
  have DX_ladder : DnX P w K mg base "ladder" 4 ["number"] [] (spOr spLadder (spBadRoot K (He.ga K "NoNumber") (He.ga K "NoRoot"))) := ⟨_, _, [], (orX G10 (bad_ladder (toFun F10) DX_need_root)), He.glo_ok X G (c.fact 10 (f := .glo "ladder") rfl), F10.kp, b10, .nil⟩
  have G11 : FnOk P w K mg base CX0 3 (He.fAd K ds_fractions_of.at_) fd11 ["number", "many"] spFracsOf := ok_fractions_of (toFun F11) T D_rooted D_round_of
  have D_fractions_of : Dn P w K mg base "fractions_of" 3 ["number", "many"] [] spFracsOf := ⟨_, _, [], G11, He.glo_ok X G (c.fact 11 (f := .glo "fractions_of") rfl), F11.kp, b11, .nil⟩
  have G12 : FnOk P w K mg base CX0 4 (He.fAd K ds_fractions.at_) fd12 ["number", "many"] spFractions := ok_fractions F12 T D_need_number D_need_root D_fractions_of
  have D_fractions : Dn P w K mg base "fractions" 4 ["number", "many"] [] spFractions := ⟨_, _, ds12, G12, He.glo_ok X G (c.fact 12 (f := .glo "fractions") rfl), F12.kp, b12, v12⟩
  have D_fractions_d : Dn P w K mg base "fractions" 4 ["number", "many"] [.int 10] spFractions := ⟨_, _, es12, G12, He.glo_ok X G (c.fact 12 (f := .glo "fractions") rfl), F12.kp, c12, w12⟩
  have DX_fractions : DnX P w K mg base "fractions" 4 ["number", "many"] [] (spOr spFractions (spBadMany K (He.ga K "NoNumber") (He.ga K "NoRoot") 200)) := ⟨_, _, ds12, (orX G12 (bad_fractions F12 T DX_need_number DX_need_root)), He.glo_ok X G (c.fact 12 (f := .glo "fractions") rfl), F12.kp, b12, v12⟩
  have DX_fractions_d : DnX P w K mg base "fractions" 4 ["number", "many"] [.int 10] (spOr spFractions (spBadMany K (He.ga K "NoNumber") (He.ga K "NoRoot") 200)) := ⟨_, _, es12, (orX G12 (bad_fractions F12 T DX_need_number DX_need_root)), He.glo_ok X G (c.fact 12 (f := .glo "fractions") rfl), F12.kp, c12, w12⟩
  have G13 : FnOk P w K mg base CX0 2 (He.fAd K ds_need_pair.at_) fd13 ["thing"] spNeedPair := ok_need_pair (toFun F13) T D_is_number
  have D_need_pair : Dn P w K mg base "need_pair" 2 ["thing"] [] spNeedPair := ⟨_, _, [], G13, He.glo_ok X G (c.fact 13 (f := .glo "need_pair") rfl), F13.kp, b13, .nil⟩
  have DX_need_pair : DnX P w K mg base "need_pair" 2 ["thing"] [] (spOr spNeedPair (spBadPair K (He.ga K "NoNumber"))) := ⟨_, _, [], (orX G13 (bad_need_pair (toFun F13) T XC_NoNumber DG_is_number)), He.glo_ok X G (c.fact 13 (f := .glo "need_pair") rfl), F13.kp, b13, .nil⟩
  have G14 : FnOk P w K mg base CX0 1 (He.fAd K ds_worth_of.at_) fd14 ["number", "pair"] spWorthOf := ok_worth_of (toFun F14) 
  have D_worth_of : Dn P w K mg base "worth_of" 1 ["number", "pair"] [] spWorthOf := ⟨_, _, [], G14, He.glo_ok X G (c.fact 14 (f := .glo "worth_of") rfl), F14.kp, b14, .nil⟩
  have G15 : FnOk P w K mg base CX0 1 (He.fAd K ds_product.at_) fd15 ["number", "one", "other"] spProduct := ok_product (toFun F15) 
  have D_product : Dn P w K mg base "product" 1 ["number", "one", "other"] [] spProduct := ⟨_, _, [], G15, He.glo_ok X G (c.fact 15 (f := .glo "product") rfl), F15.kp, b15, .nil⟩
  have G16 : FnOk P w K mg base CX0 4 (He.fAd K ds_worth.at_) fd16 ["number", "pair"] spWorth := ok_worth (toFun F16) D_need_root D_need_pair D_worth_of
  have D_worth : Dn P w K mg base "worth" 4 ["number", "pair"] [] spWorth := ⟨_, _, [], G16, He.glo_ok X G (c.fact 16 (f := .glo "worth") rfl), F16.kp, b16, .nil⟩
  have DX_worth : DnX P w K mg base "worth" 4 ["number", "pair"] [] (spOr spWorth (spBadWorth K (He.ga K "NoNumber") (He.ga K "NoRoot"))) := ⟨_, _, [], (orX G16 (bad_worth (toFun F16) DX_need_root DX_need_pair)), He.glo_ok X G (c.fact 16 (f := .glo "worth") rfl), F16.kp, b16, .nil⟩
  have G17 : FnOk P w K mg base CX0 4 (He.fAd K ds_times.at_) fd17 ["number", "one", "other"] spTimes := ok_times (toFun F17) D_need_root D_need_pair D_product
  have D_times : Dn P w K mg base "times" 4 ["number", "one", "other"] [] spTimes := ⟨_, _, [], G17, He.glo_ok X G (c.fact 17 (f := .glo "times") rfl), F17.kp, b17, .nil⟩
  have DX_times : DnX P w K mg base "times" 4 ["number", "one", "other"] [] (spOr spTimes (spBadTimes K (He.ga K "NoNumber") (He.ga K "NoRoot"))) := ⟨_, _, [], (orX G17 (bad_times (toFun F17) DX_need_root DX_need_pair)), He.glo_ok X G (c.fact 17 (f := .glo "times") rfl), F17.kp, b17, .nil⟩
  have G18 : FnOk P w K mg base CX0 4 (He.fAd K ds_first_of.at_) fd18 ["number"] spFirst := ok_first_of (toFun F18) T D_round_of D_fractions_of
  have D_first_of : Dn P w K mg base "first_of" 4 ["number"] [] spFirst := ⟨_, _, [], G18, He.glo_ok X G (c.fact 18 (f := .glo "first_of") rfl), F18.kp, b18, .nil⟩
  have G19 : FnOk P w K mg base CX0 5 (He.fAd K ds_least_one_of.at_) fd19 ["number"] spLeast := ok_least_one_of (toFun F19) D_first_of D_worth_of D_product
  have D_least_one_of : Dn P w K mg base "least_one_of" 5 ["number"] [] spLeast := ⟨_, _, [], G19, He.glo_ok X G (c.fact 19 (f := .glo "least_one_of") rfl), F19.kp, b19, .nil⟩
  have G20 : FnOk P w K mg base CX0 6 (He.fAd K ds_least_one.at_) fd20 ["number"] spLeast := ok_least_one (toFun F20) D_need_root D_least_one_of
  have D_least_one : Dn P w K mg base "least_one" 6 ["number"] [] spLeast := ⟨_, _, [], G20, He.glo_ok X G (c.fact 20 (f := .glo "least_one") rfl), F20.kp, b20, .nil⟩
  have DX_least_one : DnX P w K mg base "least_one" 6 ["number"] [] (spOr spLeast (spBadRoot K (He.ga K "NoNumber") (He.ga K "NoRoot"))) := ⟨_, _, [], (orX G20 (bad_least_one (toFun F20) DX_need_root)), He.glo_ok X G (c.fact 20 (f := .glo "least_one") rfl), F20.kp, b20, .nil⟩
  have G21 : FnOk P w K mg base CX0 5 (He.fAd K ds_least_less_one.at_) fd21 ["number"] spLess := ok_least_less_one (toFun F21) D_need_root D_first_of D_worth_of
  have D_least_less_one : Dn P w K mg base "least_less_one" 5 ["number"] [] spLess := ⟨_, _, [], G21, He.glo_ok X G (c.fact 21 (f := .glo "least_less_one") rfl), F21.kp, b21, .nil⟩
  have DX_least_less_one : DnX P w K mg base "least_less_one" 5 ["number"] [] (spOr spLess (spBadRoot K (He.ga K "NoNumber") (He.ga K "NoRoot"))) := ⟨_, _, [], (orX G21 (bad_least_less_one (toFun F21) DX_need_root)), He.glo_ok X G (c.fact 21 (f := .glo "least_less_one") rfl), F21.kp, b21, .nil⟩
  have G22 : FnOk P w K mg base CX0 6 (He.fAd K ds_ones.at_) fd22 ["number", "many"] spOnes := ok_ones F22 T D_need_number D_need_root D_least_one_of D_product
  have D_ones : Dn P w K mg base "ones" 6 ["number", "many"] [] spOnes := ⟨_, _, ds22, G22, He.glo_ok X G (c.fact 22 (f := .glo "ones") rfl), F22.kp, b22, v22⟩
  have D_ones_d : Dn P w K mg base "ones" 6 ["number", "many"] [.int 5] spOnes := ⟨_, _, es22, G22, He.glo_ok X G (c.fact 22 (f := .glo "ones") rfl), F22.kp, c22, w22⟩
  have DX_ones : DnX P w K mg base "ones" 6 ["number", "many"] [] (spOr spOnes (spBadMany K (He.ga K "NoNumber") (He.ga K "NoRoot") 20)) := ⟨_, _, ds22, (orX G22 (bad_ones F22 T DX_need_number DX_need_root)), He.glo_ok X G (c.fact 22 (f := .glo "ones") rfl), F22.kp, b22, v22⟩
  have DX_ones_d : DnX P w K mg base "ones" 6 ["number", "many"] [.int 5] (spOr spOnes (spBadMany K (He.ga K "NoNumber") (He.ga K "NoRoot") 20)) := ⟨_, _, es22, (orX G22 (bad_ones F22 T DX_need_number DX_need_root)), He.glo_ok X G (c.fact 22 (f := .glo "ones") rfl), F22.kp, c22, w22⟩
  have G23 : FnOk P w K mg base CX0 1 (He.fAd K ds_by_size.at_) fd23 ["pair"] spBySize := ok_by_size (toFun F23) 
  have D_by_size : Dn P w K mg base "by_size" 1 ["pair"] [] spBySize := ⟨_, _, [], G23, He.glo_ok X G (c.fact 23 (f := .glo "by_size") rfl), F23.kp, b23, .nil⟩
  have G24 : FnOk P w K mg base CX0 4 (He.fAd K ds_reach.at_) fd24 ["number", "told"] spReach := ok_reach (toFun F24) T D_is_number D_need_number D_need_root D_round_of D_fractions_of D_worth_of D_by_size
  have D_reach : Dn P w K mg base "reach" 4 ["number", "told"] [] spReach := ⟨_, _, [], G24, He.glo_ok X G (c.fact 24 (f := .glo "reach") rfl), F24.kp, b24, .nil⟩
  have DX_reach : DnX P w K mg base "reach" 4 ["number", "told"] [] (spOr spReach (spBadReach K (He.ga K "NoNumber") (He.ga K "NoRoot"))) := ⟨_, _, [], (orX G24 (bad_reach (toFun F24) T XC_NoNumber DG_is_number DX_need_number DX_need_root)), He.glo_ok X G (c.fact 24 (f := .glo "reach") rfl), F24.kp, b24, .nil⟩
  have G25 : FnOk P w K mg base CX0 1 (He.fAd K ds_l_name.at_) fd25 ["_law_error"] (spName (He.ga K "NoNumber") (He.ga K "NoRoot")) := ok_law_name (toFun F25) T N XC_NoNumber XC_NoRoot
  have D_law_name : Dn P w K mg base "_law_name" 1 ["_law_error"] [] (spName (He.ga K "NoNumber") (He.ga K "NoRoot")) := ⟨_, _, [], G25, He.glo_ok X G (c.fact 25 (f := .glo "_law_name") rfl), F25.kp, b25, .nil⟩
  have G26 : FnOk P w K mg base (L2.CX P w) 7 (He.fAd K ds_l_asked.at_) fd26 ["_law_which", "_law_number_here", "_law_second", "_law_third"] (spAsked K (He.ga K "NoNumber") (He.ga K "NoRoot")) := ok_law_asked (toFun F26) DX_whole_root DX_is_square DX_ladder DX_least_one DX_least_less_one DX_fractions DX_ones DX_reach DX_worth DX_times
  have DX_law_asked : DnX P w K mg base "_law_asked" 7 ["_law_which", "_law_number_here", "_law_second", "_law_third"] [] (spAsked K (He.ga K "NoNumber") (He.ga K "NoRoot")) := ⟨_, _, [], G26, He.glo_ok X G (c.fact 26 (f := .glo "_law_asked") rfl), F26.kp, b26, .nil⟩
  have G27 : FnOk P w K mg base CX0 8 (He.fAd K ds_l_said.at_) fd27 ["_law_which", "_law_number_here", "_law_second", "_law_third"] (spSaid K (He.ga K "NoNumber") (He.ga K "NoRoot")) := ok_law_said (toFun F27) gC0 x1 x2 DX_law_asked D_law_name
  have D_law_said : Dn P w K mg base "_law_said" 8 ["_law_which", "_law_number_here", "_law_second", "_law_third"] [] (spSaid K (He.ga K "NoNumber") (He.ga K "NoRoot")) := ⟨_, _, [], G27, He.glo_ok X G (c.fact 27 (f := .glo "_law_said") rfl), F27.kp, b27, .nil⟩
  have G28 : FnOk P w K mg base CX0 9 (He.fAd K ds_l_numbers_right.at_) fd28 ["_law_odd", "_law_square", "_law_good"] (spNums K) := ok_law_numbers_right (toFun F28) T D_law_said
  have D_law_numbers_right : Dn P w K mg base "_law_numbers_right" 9 ["_law_odd", "_law_square", "_law_good"] [] (spNums K) := ⟨_, _, [], G28, He.glo_ok X G (c.fact 28 (f := .glo "_law_numbers_right") rfl), F28.kp, b28, .nil⟩
  have G29 : FnOk P w K mg base CX0 9 (He.fAd K ds_l_seconds_right.at_) fd29 ["_law_odd", "_law_square", "_law_good", "_law_more"] (spSeconds K) := ok_law_seconds_right (toFun F29) T D_law_root D_law_said
  have D_law_seconds_right : Dn P w K mg base "_law_seconds_right" 9 ["_law_odd", "_law_square", "_law_good", "_law_more"] [] (spSeconds K) := ⟨_, _, [], G29, He.glo_ok X G (c.fact 29 (f := .glo "_law_seconds_right") rfl), F29.kp, b29, .nil⟩
  have G30 : FnOk P w K mg base CX0 9 (He.fAd K ds_l_ends_right.at_) fd30 [] spEnds := ok_law_ends_right (toFun F30) T D_law_said
  have D_law_ends_right : Dn P w K mg base "_law_ends_right" 9 [] [] spEnds := ⟨_, _, [], G30, He.glo_ok X G (c.fact 30 (f := .glo "_law_ends_right") rfl), F30.kp, b30, .nil⟩
  exact ok_law (toFun F31) T D_law_mixed D_law_number_by D_law_numbers_right D_law_seconds_right D_law_ends_right
end RL
open PySem PySem.W PySem.Calls PyProof.Rows
set_option maxHeartbeats 0 in
theorem PySem.Challenge.cw_rootladder_k01_what_is_refused_holds : PySem.Challenge.rw_rootladder_k01_what_is_refused.Holds := by
  w_on; o_law
  refine HandSHeadRun.head_any (r := RL.RT) (q := view RL.RT.prog [44]) (H := RL.hkT) (ob := RL.obT) (M := 3000) (loose := RL.looseT) (d := HandSHeadRun.topDef RL.RT.prog 44) (kwd := []) RL.obT_eq
    (by kernel_rfl) (fun s => by kernel_rfl) RL.runT (by kernel_rfl) (by kernel_rfl) (by kernel_rfl) (by rfl) (by first | assumption | decide +kernel) (by decide +kernel) ⟨rfl, rfl, rfl, rfl, rfl, by decide +kernel⟩ ?hw ?hc
  case hw => w_witness2
  case hc =>
    refine L2.walk_ofE (l := PySem.Challenge.rw_rootladder_k01_what_is_refused) (n := 63) (k := 10) (x := "_law_script") (CX := L2.CX0) rfl (by decide) (by kernel_rfl) ⟨rfl, by decide, by decide⟩ ?F (fun _ _ _ _ z => z)
    intro w mg fa h Y G hmg0
    obtain ⟨K, KX, hN, xb, c⟩ := Y
    have hmg : mg ("law" : PySem.Str) = some (.ref fa) := by
      have e : (HandSHeadRun.topDef RL.RT.prog 44).name = ("law" : PySem.Str) := by kernel_rfl
      rw [← e]
      exact hmg0
    obtain ⟨fd, hb, hF⟩ := RL.factsT (P := (PySem.Challenge.rw_rootladder_k01_what_is_refused).prog) (w := w) KX G hmg xb c
    exact ⟨K, fd, RL.spLaw, KX, hb, fun H a ns hl _ hS => ⟨a, ns, rfl, RL.rd_of hN hS, hl, fun _ => rfl⟩, hF⟩
#print axioms PySem.Challenge.cw_rootladder_k01_what_is_refused_holds
