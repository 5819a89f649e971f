import PyProof.Rows.All
import Wide.All
import OpenK.AllK
import Wide.FinOn
import KE.KStateDown
import HandS.ForMost
import HandS.IsInst
import HandS.Defaults
import HandS.Wide
import HandS.More
import HandS.WordsExc
import HandS.Head0
import HandS.Head1
import HandS.Head2
import HandS.HeadEnd
import HandS.HeadHook1
import HandS.HeadHook2
import HandS.SortKw
import HandS.IterVal
import KE.KMinKey
import PySem.Challenge.RW_rootladder_k09_whole_reached_worths
set_option Elab.async false
set_option linter.all false
set_option maxRecDepth 100000
set_option maxHeartbeats 4000000
namespace RL
/-! whole roots -/
def rtN : Nat → Nat
  | 0 => 0
  | n + 1 => if (rtN n + 1) * (rtN n + 1) ≤ n + 1 then rtN n + 1 else rtN n
def rt (n : Int) : Int := (rtN n.toNat : Int)
theorem rtN_spec : ∀ n : Nat, rtN n * rtN n ≤ n ∧ n < (rtN n + 1) * (rtN n + 1)
  | 0 => ⟨Nat.le_refl 0, by decide⟩
  | n + 1 => by
    have ih := rtN_spec n
    unfold rtN
    split
    · rename_i h
      refine ⟨h, ?_⟩
      have : (rtN n + 1 + 1) * (rtN n + 1 + 1) = (rtN n + 1) * (rtN n + 1) + 2 * (rtN n + 1) + 1 := by grind
      omega
    · rename_i h
      omega
theorem rt_spec {n : Int} (h : 0 ≤ n) : 0 ≤ rt n ∧ rt n * rt n ≤ n ∧ n < (rt n + 1) * (rt n + 1) := by
  have s := rtN_spec n.toNat
  have e : ((n.toNat : Nat) : Int) = n := Int.toNat_of_nonneg h
  unfold rt
  refine ⟨Int.natCast_nonneg _, ?_, ?_⟩
  · have := s.1
    rw [← e]
    have z : ((rtN n.toNat * rtN n.toNat : Nat) : Int) ≤ (n.toNat : Int) := Int.ofNat_le.mpr this
    rw [Int.natCast_mul] at z
    rw [e] at z ⊢
    exact z
  · have := s.2
    have z : ((n.toNat : Nat) : Int) < (((rtN n.toNat + 1) * (rtN n.toNat + 1) : Nat) : Int) := Int.ofNat_lt.mpr this
    rw [Int.natCast_mul, Int.natCast_add, e] at z
    exact z
theorem sq_lt {a b : Int} (h : 0 ≤ a) (hb : a < b) : a * a < b * b := by
  have h1 : a * a ≤ a * b := Int.mul_le_mul_of_nonneg_left (by omega) h
  have h2 : a * b < b * b := Int.mul_lt_mul_of_pos_right hb (by omega)
  omega
theorem sq_le {a b : Int} (h : 0 ≤ a) (hb : a ≤ b) : a * a ≤ b * b := by
  by_cases e : a = b
  · rw [e]; exact Int.le_refl _
  · exact Int.le_of_lt (sq_lt h (by omega))
theorem lt_of_sq {a b : Int} (hb : 0 ≤ b) (h : a * a < b * b) : a < b := by
  by_cases e : a < b
  · exact e
  · have := sq_le hb (show b ≤ a by omega)
    omega
theorem le_of_sq {a b : Int} (hb : 0 ≤ b) (h : a * a ≤ b * b) : a ≤ b := by
  by_cases e : a ≤ b
  · exact e
  · have := sq_lt hb (show b < a by omega)
    omega
theorem rt_uniq {n a : Int} (ha : 0 ≤ a) (h1 : a * a ≤ n) (h2 : n < (a + 1) * (a + 1)) : rt n = a := by
  have hn : 0 ≤ n := by
    have := Int.mul_nonneg ha ha
    omega
  obtain ⟨r0, r1, r2⟩ := rt_spec hn
  have x : rt n < a + 1 := lt_of_sq (by omega) (by omega)
  have y : a < rt n + 1 := lt_of_sq (by omega) (by omega)
  omega
theorem sq_iff {n : Int} (hn : 0 ≤ n) : rt n * rt n = n ↔ ∃ a : Int, a * a = n := by
  refine ⟨fun h => ⟨_, h⟩, fun ⟨a, h⟩ => ?_⟩
  have key : ∀ b : Int, 0 ≤ b → b * b = n → rt n * rt n = n := fun b hb e => by
    have : rt n = b := rt_uniq hb (by omega) (by
      have : (b + 1) * (b + 1) = b * b + 2 * b + 1 := by grind
      omega)
    rw [this, e]
  by_cases ha : 0 ≤ a
  · exact key a ha h
  · exact key (-a) (by omega) (by rw [← h]; grind)
/-- a number between two squares -/
structure Good (n r : Int) : Prop where
  r1 : 1 ≤ r
  lo : r * r < n
  hi : n < (r + 1) * (r + 1)
theorem good_of {n : Int} (h : 2 ≤ n) (hs : rt n * rt n ≠ n) : Good n (rt n) := by
  obtain ⟨r0, r1, r2⟩ := rt_spec (show 0 ≤ n by omega)
  refine ⟨?_, by omega, r2⟩
  by_cases e : rt n = 0
  · rw [e] at r2
    omega
  · omega
structure Red (n r P Q : Int) : Prop where
  p0 : 0 < P
  pr : P ≤ r
  q0 : 0 < Q
  lo : r < P + Q
  hi : Q ≤ r + P
  dv : Q ∣ n - P * P
/-- one step of the ladder: the quotient a, what is taken, what is over -/
structure Step (n r P Q a P' Q' : Int) : Prop where
  a1 : 1 ≤ a
  al : a * Q ≤ r + P
  ah : r + P < a * Q + Q
  pe : P' = a * Q - P
  qe : Q * Q' = n - P' * P'
theorem red_step {n r P Q a P' Q' : Int} (G : Good n r) (R : Red n r P Q) (S : Step n r P Q a P' Q') : Red n r P' Q' := by
  obtain ⟨a1, al, ah, pe, qe⟩ := S
  have hq0 := R.q0
  have haq : Q ≤ a * Q := by
    have := Int.mul_le_mul_of_nonneg_right a1 (show 0 ≤ Q by omega)
    omega
  have h1 : P' ≤ r := by omega
  have h2 : r < P' + Q := by omega
  have h3 : Q ≤ r + P' := by
    have := R.pr
    omega
  have h0 : 0 < P' := by
    by_cases e : Q ≤ r
    · omega
    · have := R.pr
      omega
  have e1 : (r - P') * (r + P') = r * r - P' * P' := by grind
  have e2 : (r + 1 - P') * (r + 1 + P') = (r + 1) * (r + 1) - P' * P' := by grind
  have b1 : (r - P') * Q ≤ (r - P') * (r + P') := Int.mul_le_mul_of_nonneg_left h3 (by omega)
  have glo := G.lo
  have ghi := G.hi
  have q1 : (r - P') * Q < Q * Q' := by omega
  have q2 : r - P' < Q' := by
    rw [Int.mul_comm Q Q'] at q1
    exact Int.lt_of_mul_lt_mul_right q1 (by omega)
  have b2 : Q * (r + 1 + P') ≥ (r + 1 - P') * (r + 1 + P') := Int.mul_le_mul_of_nonneg_right (by omega) (by omega)
  have q3 : Q * Q' < Q * (r + 1 + P') := by omega
  have q4 : Q' < r + 1 + P' := Int.lt_of_mul_lt_mul_left q3 (by omega)
  exact ⟨h0, h1, by omega, by omega, by omega, ⟨Q, qe.symm.trans (Int.mul_comm _ _)⟩⟩
def nxt (n r : Int) (s : Int × Int) : Int × Int :=
  ((r + s.1) / s.2 * s.2 - s.1, (n - ((r + s.1) / s.2 * s.2 - s.1) * ((r + s.1) / s.2 * s.2 - s.1)) / s.2)
def st (n r : Int) : Nat → Int × Int
  | 0 => (r, n - r * r)
  | i + 1 => nxt n r (st n r i)
abbrev sP (n r : Int) (i : Nat) : Int := (st n r i).1
abbrev sQ (n r : Int) (i : Nat) : Int := (st n r i).2
def aq (n r : Int) (i : Nat) : Int := (r + sP n r i) / sQ n r i
theorem red_zero {n r : Int} (G : Good n r) : Red n r r (n - r * r) := by
  have := G.r1
  have := G.lo
  have := G.hi
  have e : (r + 1) * (r + 1) = r * r + 2 * r + 1 := by grind
  exact ⟨by omega, by omega, by omega, by omega, by omega, ⟨1, by omega⟩⟩
theorem step_of {n r P Q : Int} (G : Good n r) (R : Red n r P Q) : Step n r P Q ((r + P) / Q) ((r + P) / Q * Q - P) ((n - ((r + P) / Q * Q - P) * ((r + P) / Q * Q - P)) / Q) := by
  have q0 := R.q0
  have h1 : (r + P) / Q * Q ≤ r + P := Int.ediv_mul_le _ (by omega)
  have h2 : r + P < (r + P) / Q * Q + Q := by
    have := Int.lt_ediv_add_one_mul_self (r + P) q0
    have e : ((r + P) / Q + 1) * Q = (r + P) / Q * Q + Q := by grind
    omega
  have ha : 1 ≤ (r + P) / Q := by
    have := R.hi
    exact (Int.le_ediv_iff_mul_le q0).mpr (by omega)
  refine ⟨ha, h1, h2, rfl, ?_⟩
  refine Int.mul_ediv_cancel' ?_
  obtain ⟨k, hk⟩ := R.dv
  generalize (r + P) / Q = a
  refine ⟨k + 2 * a * P - a * a * Q, ?_⟩
  grind
theorem st_red {n r : Int} (G : Good n r) : ∀ i, Red n r (sP n r i) (sQ n r i)
  | 0 => red_zero G
  | i + 1 => red_step G (st_red G i) (step_of G (st_red G i))
theorem st_step {n r : Int} (G : Good n r) (i : Nat) : Step n r (sP n r i) (sQ n r i) (aq n r i) (sP n r (i + 1)) (sQ n r (i + 1)) :=
  step_of G (st_red G i)
/-- the step is one to one -/
theorem step_inj {n r P Q a P1 Q1 b T U : Int} (R : Red n r P Q) (R2 : Red n r P1 Q1) (S : Step n r P Q a T U) (S2 : Step n r P1 Q1 b T U) (hU : 0 < U) : P = P1 ∧ Q = Q1 := by
  obtain ⟨a1, al, ah, pe, qe⟩ := S
  obtain ⟨b1, bl, bh, pe2, qe2⟩ := S2
  have eQ : Q = Q1 := by
    have : Q * U = Q1 * U := by omega
    exact Int.eq_of_mul_eq_mul_right (by omega) this
  subst eQ
  refine ⟨?_, rfl⟩
  have h1 := R.pr
  have h2 := R.lo
  have h3 := R2.pr
  have h4 := R2.lo
  have e : P - P1 = (a - b) * Q := by grind
  have l1 : (a - b) * Q < 1 * Q := by omega
  have l2 : (-1) * Q < (a - b) * Q := by omega
  have m1 := Int.lt_of_mul_lt_mul_right l1 (by have := R.q0; omega)
  have m2 := Int.lt_of_mul_lt_mul_right l2 (by have := R.q0; omega)
  have : a - b = 0 := by omega
  rw [this] at e
  omega
/-! the round -/
theorem pigeon : ∀ (N : Nat) (f : Nat → Nat), (∀ i, i ≤ N → f i < N) → ∃ i j, i < j ∧ j ≤ N ∧ f i = f j
  | 0, f, h => absurd (h 0 (Nat.le_refl 0)) (Nat.not_lt_zero _)
  | N + 1, f, h => by
    by_cases hx : ∃ i, i ≤ N ∧ f i = f (N + 1)
    · obtain ⟨i, hi, e⟩ := hx
      exact ⟨i, N + 1, by omega, by omega, e⟩
    · let g : Nat → Nat := fun i => if f i < f (N + 1) then f i else f i - 1
      have hg : ∀ i, i ≤ N → g i < N := fun i hi => by
        have h1 := h i (by omega)
        have h2 := h (N + 1) (by omega)
        have h3 : f i ≠ f (N + 1) := fun e => hx ⟨i, hi, e⟩
        show (if f i < f (N + 1) then f i else f i - 1) < N
        split <;> omega
      obtain ⟨i, j, hij, hj, e⟩ := pigeon N g hg
      refine ⟨i, j, hij, by omega, ?_⟩
      have h3 : f i ≠ f (N + 1) := fun e => hx ⟨i, by omega, e⟩
      have h4 : f j ≠ f (N + 1) := fun e => hx ⟨j, by omega, e⟩
      have e' : (if f i < f (N + 1) then f i else f i - 1) = (if f j < f (N + 1) then f j else f j - 1) := e
      split at e' <;> split at e' <;> omega
theorem st_back {n r : Int} (G : Good n r) : ∀ i d, st n r i = st n r (i + d) → st n r 0 = st n r d
  | 0, d, h => by rw [Nat.zero_add] at h; exact h
  | i + 1, d, h => by
    have e1 : i + 1 + d = (i + d) + 1 := by omega
    rw [e1] at h
    have s1 := st_step G i
    have s2 := st_step G (i + d)
    unfold sP sQ at s1 s2
    rw [← h] at s2
    obtain ⟨x, y⟩ := step_inj (st_red G i) (st_red G (i + d)) s1 s2 (st_red G (i + 1)).q0
    exact st_back G i d (Prod.ext x y)
def code (r : Int) (s : Int × Int) : Nat := (s.1.toNat - 1) * (2 * r.toNat) + (s.2.toNat - 1)
theorem code_lt {n r P Q : Int} (R : Red n r P Q) : code r (P, Q) < r.toNat * (2 * r.toNat) := by
  obtain ⟨p0, pr, q0, lo, hi, _⟩ := R
  unfold code
  show (P.toNat - 1) * (2 * r.toNat) + (Q.toNat - 1) < _
  have h1 : P.toNat - 1 + 1 ≤ r.toNat := by omega
  have h2 : Q.toNat - 1 < 2 * r.toNat := by omega
  have h3 := Nat.mul_le_mul_right (2 * r.toNat) h1
  rw [Nat.add_mul] at h3
  omega
theorem code_inj {n r P Q P1 Q1 : Int} (R : Red n r P Q) (R1 : Red n r P1 Q1) (e : code r (P, Q) = code r (P1, Q1)) : (P, Q) = (P1, Q1) := by
  obtain ⟨p0, pr, q0, lo, hi, _⟩ := R
  obtain ⟨p0', pr', q0', lo', hi', _⟩ := R1
  have e' : (P.toNat - 1) * (2 * r.toNat) + (Q.toNat - 1) = (P1.toNat - 1) * (2 * r.toNat) + (Q1.toNat - 1) := e
  have h2 : Q.toNat - 1 < 2 * r.toNat := by omega
  have h3 : Q1.toNat - 1 < 2 * r.toNat := by omega
  have m0 : 0 < 2 * r.toNat := by omega
  have d1 : ((P.toNat - 1) * (2 * r.toNat) + (Q.toNat - 1)) / (2 * r.toNat) = ((P1.toNat - 1) * (2 * r.toNat) + (Q1.toNat - 1)) / (2 * r.toNat) := by rw [e']
  have d2 : ((P.toNat - 1) * (2 * r.toNat) + (Q.toNat - 1)) % (2 * r.toNat) = ((P1.toNat - 1) * (2 * r.toNat) + (Q1.toNat - 1)) % (2 * r.toNat) := by rw [e']
  rw [Nat.mul_comm (P.toNat - 1), Nat.mul_comm (P1.toNat - 1)] at d1 d2
  rw [Nat.mul_add_div m0, Nat.mul_add_div m0, Nat.div_eq_of_lt h2, Nat.div_eq_of_lt h3] at d1
  rw [Nat.mul_add_mod, Nat.mul_add_mod, Nat.mod_eq_of_lt h2, Nat.mod_eq_of_lt h3] at d2
  rw [show P = P1 by omega, show Q = Q1 by omega]
/-- there is a place where what is over is 1 -/
theorem one_there {n r : Int} (G : Good n r) : ∃ i, i < r.toNat * (2 * r.toNat) ∧ sQ n r i = 1 := by
  obtain ⟨i, j, hij, hj, e⟩ := pigeon (r.toNat * (2 * r.toNat)) (fun i => code r (st n r i)) (fun i _ => code_lt (st_red G i))
  have e2 : st n r i = st n r (i + (j - i)) := by
    rw [show i + (j - i) = j by omega]
    exact code_inj (st_red G i) (st_red G j) e
  have e3 := st_back G i (j - i) e2
  obtain ⟨d, hd⟩ : ∃ d, j - i = d + 1 := ⟨j - i - 1, by omega⟩
  rw [hd] at e3
  have s := (st_step G d).qe
  have eP : sP n r (d + 1) = r := by
    show (st n r (d + 1)).1 = r
    rw [← e3]
    rfl
  have eQ : sQ n r (d + 1) = n - r * r := by
    show (st n r (d + 1)).2 = n - r * r
    rw [← e3]
    rfl
  rw [eP, eQ] at s
  refine ⟨d, by omega, ?_⟩
  have g := G.lo
  have : sQ n r d * (n - r * r) = 1 * (n - r * r) := by omega
  exact Int.eq_of_mul_eq_mul_right (by omega) this
/-- the first place of a kind -/
theorem least_of {p : Nat → Prop} (h : ∃ i, p i) : ∃ i, p i ∧ ∀ j, j < i → ¬ p j := by
  obtain ⟨i, hi⟩ := h
  induction i using Nat.strongRecOn with
  | ind i ih =>
    by_cases hx : ∃ j, j < i ∧ p j
    · obtain ⟨j, hj, pj⟩ := hx
      exact ih j hj pj
    · exact ⟨i, hi, fun j hj pj => hx ⟨j, hj, pj⟩⟩
/-- l is the place of the round's last quotient -/
structure Last (n r : Int) (l : Nat) : Prop where
  one : sQ n r l = 1
  no : ∀ j, j < l → sQ n r j ≠ 1
  le : l < r.toNat * (2 * r.toNat)
theorem last_uniq {n r : Int} {l l' : Nat} (L : Last n r l) (L' : Last n r l') : l = l' := by
  by_cases h : l < l'
  · exact absurd L.one (L'.no l h)
  · by_cases h' : l' < l
    · exact absurd L'.one (L.no l' h')
    · omega
theorem last_there {n r : Int} (G : Good n r) : ∃ l, Last n r l := by
  obtain ⟨i, hi, e⟩ := one_there G
  obtain ⟨l, e1, e2⟩ := least_of (p := fun i => sQ n r i = 1) ⟨i, e⟩
  refine ⟨l, e1, e2, ?_⟩
  by_cases h : l ≤ i
  · omega
  · exact absurd e (e2 i (by omega))
/-- where the first state comes again what was over ahead of it is 1 -/
theorem one_of_st {n r : Int} (G : Good n r) {d : Nat} (e3 : st n r (d + 1) = st n r 0) : sQ n r d = 1 := by
  have s := (st_step G d).qe
  have eP : sP n r (d + 1) = r := by
    show (st n r (d + 1)).1 = r
    rw [e3]
    rfl
  have eQ : sQ n r (d + 1) = n - r * r := by
    show (st n r (d + 1)).2 = n - r * r
    rw [e3]
    rfl
  rw [eP, eQ] at s
  have g := G.lo
  have : sQ n r d * (n - r * r) = 1 * (n - r * r) := by omega
  exact Int.eq_of_mul_eq_mul_right (by omega) this
theorem st_ne {n r : Int} {l : Nat} (G : Good n r) (L : Last n r l) {i : Nat} (h0 : 0 < i) (h : i ≤ l) : st n r i ≠ st n r 0 := fun e => by
  obtain ⟨d, rfl⟩ : ∃ d, i = d + 1 := ⟨i - 1, by omega⟩
  exact L.no d (by omega) (one_of_st G e)
theorem last_P {n r : Int} {l : Nat} (G : Good n r) (h : sQ n r l = 1) : sP n r l = r := by
  have R := st_red G l
  have a := R.pr
  have b := R.lo
  omega
theorem last_a {n r : Int} {l : Nat} (G : Good n r) (h : sQ n r l = 1) : aq n r l = 2 * r := by
  unfold aq
  rw [last_P G h, h, Int.ediv_one]
  omega
theorem last_st {n r : Int} {l : Nat} (G : Good n r) (h : sQ n r l = 1) : st n r (l + 1) = st n r 0 := by
  have s := st_step G l
  have ep := s.pe
  have eq := s.qe
  rw [last_a G h, last_P G h, h] at ep
  have ep' : sP n r (l + 1) = r := by omega
  rw [h, ep'] at eq
  exact Prod.ext (by exact ep') (by show sQ n r (l + 1) = n - r * r; omega)
theorem st_add {n r : Int} {l : Nat} (G : Good n r) (h : sQ n r l = 1) : ∀ i, st n r (l + 1 + i) = st n r i
  | 0 => last_st G h
  | i + 1 => by
    show nxt n r (st n r (l + 1 + i)) = nxt n r (st n r i)
    rw [st_add G h i]
theorem st_mod {n r : Int} {l : Nat} (G : Good n r) (h : sQ n r l = 1) (i : Nat) : st n r (i % (l + 1)) = st n r i := by
  induction i using Nat.strongRecOn with
  | ind i ih =>
    by_cases hi : i < l + 1
    · rw [Nat.mod_eq_of_lt hi]
    · have e := ih (i - (l + 1)) (by omega)
      have e2 := st_add G h (i - (l + 1))
      rw [show l + 1 + (i - (l + 1)) = i by omega] at e2
      rw [e2, ← e]
      rw [Nat.mod_eq_sub_mod (by omega)]
theorem aq_mod {n r : Int} {l : Nat} (G : Good n r) (h : sQ n r l = 1) (i : Nat) : aq n r (i % (l + 1)) = aq n r i := by
  unfold aq sP sQ
  rw [st_mod G h i]
/-- where what is over is 1: the rounds' ends alone -/
theorem one_iff {n r : Int} {l : Nat} (G : Good n r) (L : Last n r l) (i : Nat) : sQ n r i = 1 ↔ i % (l + 1) = l := by
  have e : sQ n r (i % (l + 1)) = sQ n r i := by
    unfold sQ
    rw [st_mod G L.one i]
  rw [← e]
  refine ⟨fun h => ?_, fun h => by rw [h]; exact L.one⟩
  have h1 : i % (l + 1) < l + 1 := Nat.mod_lt _ (by omega)
  by_cases h2 : i % (l + 1) < l
  · exact absurd h (L.no _ h2)
  · omega
theorem aq_le {n r : Int} (G : Good n r) {i : Nat} (h : sQ n r i ≠ 1) : aq n r i ≤ r := by
  have R := st_red G i
  have q0 := R.q0
  have S := st_step G i
  have al := S.al
  have a1 := S.a1
  have := R.pr
  have : aq n r i * 2 ≤ aq n r i * sQ n r i := Int.mul_le_mul_of_nonneg_left (by omega) (by omega)
  omega
theorem aq_le2 {n r : Int} (G : Good n r) (i : Nat) : aq n r i ≤ 2 * r := by
  by_cases h : sQ n r i = 1
  · rw [last_a G h]
    exact Int.le_refl _
  · have := aq_le G h
    have := G.r1
    omega
theorem aq_pos {n r : Int} (G : Good n r) (i : Nat) : 1 ≤ aq n r i := (st_step G i).a1
/-- the quotient of what is taken next, over the same -/
theorem aq_rev {n r : Int} (G : Good n r) (i : Nat) : (r + sP n r (i + 1)) / sQ n r i = aq n r i := by
  have S := st_step G i
  have R := st_red G i
  have e1 := S.pe
  have q0 := R.q0
  have h1 := R.pr
  have h2 := R.lo
  refine (Int.ediv_eq_iff_of_pos q0).mpr ⟨?_, ?_⟩ <;> omega
/-- the row of quotients is the same from either end -/
theorem flip {n r : Int} {l : Nat} (G : Good n r) (h : sQ n r l = 1) : ∀ j, j < l → sP n r (l - j) = sP n r j ∧ sQ n r (l - j - 1) = sQ n r j
  | 0, hj => by
    obtain ⟨m, rfl⟩ : ∃ m, l = m + 1 := ⟨l - 1, by omega⟩
    have eP : sP n r (m + 1) = r := last_P G h
    have s := st_step G m
    have qe := s.qe
    rw [h, eP] at qe
    have eQ : sQ n r m = n - r * r := by omega
    exact ⟨eP, eQ⟩
  | j + 1, hj => by
    obtain ⟨x, y⟩ := flip G h j (by omega)
    obtain ⟨i, hi⟩ : ∃ i, l - j - 1 = i + 1 := ⟨l - j - 2, by omega⟩
    have e1 : l - (j + 1) = i + 1 := by omega
    have e2 : l - j = i + 2 := by omega
    rw [e1]
    rw [hi] at y
    rw [e2] at x
    have S := st_step G (i + 1)
    have T := st_step G j
    have U := st_step G i
    have ea : aq n r (i + 1) = aq n r j := by
      rw [← aq_rev G (i + 1)]
      unfold aq
      rw [x, y]
    have p1 := S.pe
    have p2 := T.pe
    rw [ea, y, x] at p1
    have eP : sP n r (i + 1) = sP n r (j + 1) := by omega
    refine ⟨eP, ?_⟩
    have q1 := U.qe
    have q2 := T.qe
    rw [y, eP] at q1
    show sQ n r i = sQ n r (j + 1)
    have : sQ n r i * sQ n r j = sQ n r (j + 1) * sQ n r j := by
      rw [q1, ← q2, Int.mul_comm]
    exact Int.eq_of_mul_eq_mul_right (by have := (st_red G j).q0; omega) this
theorem flip_a {n r : Int} {l : Nat} (G : Good n r) (h : sQ n r l = 1) {j : Nat} (hj : j < l) : aq n r (l - 1 - j) = aq n r j := by
  obtain ⟨x, y⟩ := flip G h j hj
  rw [show l - 1 - j = l - j - 1 by omega, ← aq_rev G (l - j - 1), show l - j - 1 + 1 = l - j by omega, x, y]
  rfl
end RL
namespace RL
/-! the fractions -/
def cv (n r : Int) : Nat → (Int × Int) × (Int × Int)
  | 0 => ((r, 1), (1, 0))
  | i + 1 => ((aq n r i * (cv n r i).1.1 + (cv n r i).2.1, aq n r i * (cv n r i).1.2 + (cv n r i).2.2), (cv n r i).1)
abbrev hh (n r : Int) (i : Nat) : Int := (cv n r i).1.1
abbrev kk (n r : Int) (i : Nat) : Int := (cv n r i).1.2
abbrev gh (n r : Int) (i : Nat) : Int := (cv n r i).2.1
abbrev gk (n r : Int) (i : Nat) : Int := (cv n r i).2.2
def sg : Nat → Int
  | 0 => 1
  | i + 1 => - sg i
def qm (n r : Int) : Nat → Int
  | 0 => 1
  | i + 1 => sQ n r i
theorem sg_two : ∀ i, sg (i + 2) = sg i := fun i => by
  show - - sg i = sg i
  omega
theorem sg_mod : ∀ i : Nat, (i % 2 = 0 ∧ sg i = 1) ∨ (i % 2 = 1 ∧ sg i = -1)
  | 0 => .inl ⟨rfl, rfl⟩
  | i + 1 => by
    have := sg_mod i
    have e : sg (i + 1) = - sg i := rfl
    omega
theorem sg_sq (i : Nat) : sg i * sg i = 1 := by
  rcases sg_mod i with ⟨_, e⟩ | ⟨_, e⟩ <;> rw [e] <;> rfl
theorem qm_eq {n r : Int} (G : Good n r) : ∀ i, sQ n r i * qm n r i = n - sP n r i * sP n r i
  | 0 => by
    show (n - r * r) * 1 = n - r * r
    omega
  | i + 1 => by
    have := (st_step G i).qe
    rw [Int.mul_comm]
    exact this
structure Form (n r : Int) (i : Nat) : Prop where
  nn : hh n r i * hh n r i - n * (kk n r i * kk n r i) = - (sg i * sQ n r i)
  cr : hh n r i * gh n r i - n * (kk n r i * gk n r i) = sg i * sP n r i
  mm : gh n r i * gh n r i - n * (gk n r i * gk n r i) = sg i * qm n r i
  dt : hh n r i * gk n r i - gh n r i * kk n r i = - sg i
theorem form {n r : Int} (G : Good n r) : ∀ i, Form n r i
  | 0 => by
    refine ⟨?_, ?_, ?_, ?_⟩
    · show r * r - n * (1 * 1) = -(1 * (n - r * r))
      omega
    · show r * 1 - n * (1 * 0) = 1 * r
      omega
    · show 1 * 1 - n * (0 * 0) = 1 * 1
      omega
    · show r * 0 - 1 * 1 = -1
      omega
  | i + 1 => by
    obtain ⟨n1, c1, m1, d1⟩ := form G i
    have S := st_step G i
    have q0 := (st_red G i).q0
    have qe := qm_eq G i
    have pe := S.pe
    have qe2 := S.qe
    have key : sQ n r (i + 1) = qm n r i + 2 * aq n r i * sP n r i - aq n r i * aq n r i * sQ n r i := by
      have : sQ n r i * sQ n r (i + 1) = sQ n r i * (qm n r i + 2 * aq n r i * sP n r i - aq n r i * aq n r i * sQ n r i) := by
        rw [qe2, pe]
        generalize sQ n r i = Q at *
        generalize sP n r i = P at *
        generalize aq n r i = a at *
        generalize qm n r i = M at *
        grind
      exact Int.eq_of_mul_eq_mul_left (by omega) this
    refine ⟨?_, ?_, ?_, ?_⟩
    · show (aq n r i * hh n r i + gh n r i) * (aq n r i * hh n r i + gh n r i) - n * ((aq n r i * kk n r i + gk n r i) * (aq n r i * kk n r i + gk n r i)) = -(- sg i * sQ n r (i + 1))
      rw [key]
      generalize sQ n r i = Q at *
      generalize sP n r i = P at *
      generalize aq n r i = a at *
      generalize qm n r i = M at *
      generalize hh n r i = h at *
      generalize kk n r i = k at *
      generalize gh n r i = u at *
      generalize gk n r i = v at *
      generalize sg i = e at *
      grind
    · show (aq n r i * hh n r i + gh n r i) * hh n r i - n * ((aq n r i * kk n r i + gk n r i) * kk n r i) = - sg i * sP n r (i + 1)
      rw [pe]
      generalize sQ n r i = Q at *
      generalize sP n r i = P at *
      generalize aq n r i = a at *
      generalize qm n r i = M at *
      generalize hh n r i = h at *
      generalize kk n r i = k at *
      generalize gh n r i = u at *
      generalize gk n r i = v at *
      generalize sg i = e at *
      grind
    · show hh n r i * hh n r i - n * (kk n r i * kk n r i) = - sg i * sQ n r i
      rw [n1, Int.neg_mul]
    · show (aq n r i * hh n r i + gh n r i) * kk n r i - hh n r i * (aq n r i * kk n r i + gk n r i) = - - sg i
      grind
theorem worth_form {n r : Int} (G : Good n r) (i : Nat) (u v : Int) :
    (hh n r i * u + gh n r i * v) * (hh n r i * u + gh n r i * v) - n * ((kk n r i * u + gk n r i * v) * (kk n r i * u + gk n r i * v)) = sg i * (- (sQ n r i * (u * u)) + 2 * (sP n r i * (u * v)) + qm n r i * (v * v)) := by
  obtain ⟨n1, c1, m1, d1⟩ := form G i
  generalize sQ n r i = Q at *
  generalize sP n r i = P at *
  generalize qm n r i = M at *
  generalize hh n r i = h at *
  generalize kk n r i = k at *
  generalize gh n r i = x at *
  generalize gk n r i = y at *
  generalize sg i = e at *
  grind
structure Pos2 (n r : Int) (i : Nat) : Prop where
  h1 : 1 ≤ hh n r i
  k1 : 1 ≤ kk n r i
  gh1 : 1 ≤ gh n r i
  gk0 : 0 ≤ gk n r i
theorem pos2 {n r : Int} (G : Good n r) : ∀ i, Pos2 n r i
  | 0 => ⟨G.r1, Int.le_refl 1, Int.le_refl 1, Int.le_refl 0⟩
  | i + 1 => by
    obtain ⟨a, b, c, d⟩ := pos2 G i
    have a1 := aq_pos G i
    have e1 : 1 * hh n r i ≤ aq n r i * hh n r i := Int.mul_le_mul_of_nonneg_right a1 (by omega)
    have e2 : 1 * kk n r i ≤ aq n r i * kk n r i := Int.mul_le_mul_of_nonneg_right a1 (by omega)
    refine ⟨?_, ?_, a, by show 0 ≤ kk n r i; omega⟩
    · show 1 ≤ aq n r i * hh n r i + gh n r i
      omega
    · show 1 ≤ aq n r i * kk n r i + gk n r i
      omega
theorem kk_up {n r : Int} (G : Good n r) (i : Nat) : kk n r i ≤ kk n r (i + 1) := by
  obtain ⟨a, b, c, d⟩ := pos2 G i
  have e2 : 1 * kk n r i ≤ aq n r i * kk n r i := Int.mul_le_mul_of_nonneg_right (aq_pos G i) (by omega)
  show kk n r i ≤ aq n r i * kk n r i + gk n r i
  omega
theorem kk_mono {n r : Int} (G : Good n r) (i : Nat) : ∀ d, kk n r i ≤ kk n r (i + d)
  | 0 => Int.le_refl _
  | d + 1 => Int.le_trans (kk_mono G i d) (kk_up G (i + d))
theorem kk_le {n r : Int} (G : Good n r) {i j : Nat} (h : i ≤ j) : kk n r i ≤ kk n r j := by
  have := kk_mono G i (j - i)
  rwa [show i + (j - i) = j by omega] at this
theorem hh_up {n r : Int} (G : Good n r) (i : Nat) : hh n r i ≤ hh n r (i + 1) := by
  obtain ⟨a, b, c, d⟩ := pos2 G i
  have e2 : 1 * hh n r i ≤ aq n r i * hh n r i := Int.mul_le_mul_of_nonneg_right (aq_pos G i) (by omega)
  show hh n r i ≤ aq n r i * hh n r i + gh n r i
  omega
theorem gk_le {n r : Int} (G : Good n r) : ∀ i, gk n r i ≤ kk n r i
  | 0 => by show (0 : Int) ≤ 1; decide
  | i + 1 => kk_up G i
theorem gh_le {n r : Int} (G : Good n r) : ∀ i, gh n r i ≤ hh n r i
  | 0 => G.r1
  | i + 1 => hh_up G i
theorem kk_hh {n r : Int} (G : Good n r) : ∀ i, kk n r i ≤ hh n r i ∧ gk n r i ≤ gh n r i
  | 0 => ⟨G.r1, by show (0 : Int) ≤ 1; decide⟩
  | i + 1 => by
    obtain ⟨x, y⟩ := kk_hh G i
    refine ⟨?_, x⟩
    show aq n r i * kk n r i + gk n r i ≤ aq n r i * hh n r i + gh n r i
    have := Int.mul_le_mul_of_nonneg_left x (show 0 ≤ aq n r i by have := aq_pos G i; omega)
    omega
/-- how great they may be -/
theorem hh_small {n r : Int} {b : Nat} (G : Good n r) (hb : 2 * r + 1 ≤ 2 ^ b) : ∀ i, hh n r i < 2 ^ (b * (i + 1))
  | 0 => by
    show r < 2 ^ (b * (0 + 1))
    rw [Nat.zero_add, Nat.mul_one]
    have := G.r1
    omega
  | i + 1 => by
    have ih := hh_small G hb i
    have P := pos2 G i
    have h1 := P.h1
    show aq n r i * hh n r i + gh n r i < 2 ^ (b * (i + 1 + 1))
    have e1 : aq n r i * hh n r i ≤ (2 * r) * hh n r i := Int.mul_le_mul_of_nonneg_right (aq_le2 G i) (by omega)
    have e2 := gh_le G i
    have e3 : (2 * r) * hh n r i + hh n r i = (2 * r + 1) * hh n r i := by grind
    have e4 : (2 * r + 1) * hh n r i ≤ 2 ^ b * hh n r i := Int.mul_le_mul_of_nonneg_right hb (by omega)
    have e5 : (2 : Int) ^ b * hh n r i < 2 ^ b * 2 ^ (b * (i + 1)) := Int.mul_lt_mul_of_pos_left ih (by have := G.r1; omega)
    have e6 : (2 : Int) ^ b * 2 ^ (b * (i + 1)) = 2 ^ (b * (i + 1 + 1)) := by
      rw [← Int.pow_add]
      congr 1
      rw [Nat.mul_add b (i + 1) 1]
      omega
    omega
/-! what is near is on the ladder -/
theorem lemG {n r P Q M : Int} (hn : r * r < n) (h0 : 0 ≤ P) (hp : P ≤ r) (hq : 0 < Q) (h2 : 2 * Q ≤ r + P) (e : Q * M = n - P * P) : r + 1 ≤ M + 2 * P - Q := by
  by_cases h : Q ≤ P
  · have b1 : (r - P) * Q ≤ (r - P) * (r + P) := Int.mul_le_mul_of_nonneg_left (by omega) (by omega)
    have e1 : (r - P) * (r + P) = r * r - P * P := by grind
    have q1 : (r - P) * Q < M * Q := by
      rw [Int.mul_comm M Q]
      omega
    have := Int.lt_of_mul_lt_mul_right q1 (by omega)
    omega
  · have e1 : (r - (Q - P)) * (r + (Q - P)) = r * r - (Q - P) * (Q - P) := by grind
    have e2 : Q * (M + 2 * P - Q) = Q * M + 2 * (Q * P) - Q * Q := by grind
    have e3 : (Q - P) * (Q - P) = Q * Q - 2 * (Q * P) + P * P := by grind
    have b1 : Q * (r + (Q - P)) ≤ (r - (Q - P)) * (r + (Q - P)) := Int.mul_le_mul_of_nonneg_right (by omega) (by omega)
    have q1 : Q * (r + (Q - P)) < Q * (M + 2 * P - Q) := by omega
    have := Int.lt_of_mul_lt_mul_left q1 (by omega)
    omega
/-- the quotient is the right one -/
theorem near_low {n r P Q M a P' Q' u v : Int} (G : Good n r) (R : Red n r P Q) (S : Step n r P Q a P' Q') (eM : Q * M = n - P * P) (hv : 1 ≤ v) (huv : v ≤ u)
    (hc : - (Q * (u * u)) + 2 * (P * (u * v)) + M * (v * v) ≤ r) : a * v ≤ u := by
  by_cases hlt : a * v ≤ u
  · exact hlt
  · exfalso
    have R' := red_step G R S
    obtain ⟨a1, al, ah, pe, qe⟩ := S
    have q0 := R.q0
    have a2 : 2 ≤ a := by
      by_cases e : a = 1
      · rw [e] at hlt
        omega
      · omega
    have aq2 : 2 * Q ≤ a * Q := Int.mul_le_mul_of_nonneg_right a2 (by omega)
    have g1 := lemG G.lo (by have := R.p0; omega) R.pr q0 (by omega) eM
    have g2 := lemG (P := P') (M := Q') G.lo (by have := R'.p0; omega) R'.pr q0 (by have := R.pr; omega) qe
    have eM' : Q * Q' = Q * (M + 2 * (a * P) - a * (a * Q)) := by
      rw [qe, pe]
      grind
    have eQ' : Q' = M + 2 * (a * P) - a * (a * Q) := Int.eq_of_mul_eq_mul_left (by omega) eM'
    -- at u = v, at u = a v - 1
    have vv : 1 ≤ v * v := by
      have := Int.mul_le_mul hv hv (by omega) (by omega)
      omega
    have f1 : r + 1 ≤ - (Q * (v * v)) + 2 * (P * (v * v)) + M * (v * v) := by
      have e : - (Q * (v * v)) + 2 * (P * (v * v)) + M * (v * v) = (M + 2 * P - Q) * (v * v) := by grind
      rw [e]
      have := Int.mul_le_mul g1 vv (by omega) (by have := G.r1; omega)
      omega
    have f2 : r + 1 ≤ - (Q * ((a * v - 1) * (a * v - 1))) + 2 * (P * ((a * v - 1) * v)) + M * (v * v) := by
      have e : - (Q * ((a * v - 1) * (a * v - 1))) + 2 * (P * ((a * v - 1) * v)) + M * (v * v) = Q' * (v * v) + 2 * (P' * v) - Q := by
        rw [eQ', pe]
        grind
      rw [e]
      have x1 : Q' * 1 ≤ Q' * (v * v) := Int.mul_le_mul_of_nonneg_left vv (by have := R'.q0; omega)
      have x2 : P' * 1 ≤ P' * v := Int.mul_le_mul_of_nonneg_left hv (by have := R'.p0; omega)
      omega
    obtain ⟨s, hs⟩ : ∃ s, s = u - v := ⟨_, rfl⟩
    obtain ⟨t, ht⟩ : ∃ t, t = a * v - 1 - u := ⟨_, rfl⟩
    have s0 : 0 ≤ s := by omega
    have t0 : 0 ≤ t := by omega
    have eu : u = v + s := by omega
    have ew : a * v - 1 = v + s + t := by omega
    rw [ew] at f2
    rw [eu] at hc
    by_cases hz : s + t = 0
    · have zs : s = 0 := by omega
      rw [zs, Int.add_zero] at hc
      omega
    · have m1 := Int.mul_le_mul_of_nonneg_left f1 t0
      have m2 := Int.mul_le_mul_of_nonneg_left f2 s0
      have m3 : (s + t) * (- (Q * ((v + s) * (v + s))) + 2 * (P * ((v + s) * v)) + M * (v * v)) ≤ (s + t) * r := Int.mul_le_mul_of_nonneg_left hc (by omega)
      have m4 : 0 ≤ Q * (s * t * (s + t)) := Int.mul_nonneg (by omega) (Int.mul_nonneg (Int.mul_nonneg s0 t0) (by omega))
      have m5 : (s + t) * (- (Q * ((v + s) * (v + s))) + 2 * (P * ((v + s) * v)) + M * (v * v)) = t * (- (Q * (v * v)) + 2 * (P * (v * v)) + M * (v * v)) + s * (- (Q * ((v + s + t) * (v + s + t))) + 2 * (P * ((v + s + t) * v)) + M * (v * v)) + Q * (s * t * (s + t)) := by grind
      have m6 : t * (r + 1) + s * (r + 1) = (s + t) * r + (s + t) := by grind
      omega
theorem near_high {n r P Q M a P' Q' u v : Int} (G : Good n r) (R : Red n r P Q) (S : Step n r P Q a P' Q') (eM : Q * M = n - P * P) (hv : 1 ≤ v)
    (hc : - r ≤ - (Q * (u * u)) + 2 * (P * (u * v)) + M * (v * v)) : u ≤ (a + 1) * v := by
  by_cases hlt : u ≤ (a + 1) * v
  · exact hlt
  · exfalso
    have R' := red_step G R S
    obtain ⟨a1, al, ah, pe, qe⟩ := S
    have q0 := R.q0
    have eM' : Q * Q' = Q * (M + 2 * (a * P) - a * (a * Q)) := by
      rw [qe, pe]
      grind
    have eQ' : Q' = M + 2 * (a * P) - a * (a * Q) := Int.eq_of_mul_eq_mul_left (by omega) eM'
    obtain ⟨s, hs⟩ : ∃ s, s = u - (a + 1) * v := ⟨_, rfl⟩
    have s1 : 1 ≤ s := by omega
    have eu : u = (a + 1) * v + s := by omega
    have e : - (Q * (u * u)) + 2 * (P * (u * v)) + M * (v * v) = (Q' - Q - 2 * P') * (v * v) - 2 * ((Q + P') * (v * s)) - Q * (s * s) := by
      rw [eQ', pe, eu]
      grind
    rw [e] at hc
    have rpr := R.pr
    have vv : 0 ≤ v * v := Int.mul_nonneg (by omega) (by omega)
    have ss : 0 ≤ Q * (s * s) := Int.mul_nonneg (by omega) (Int.mul_nonneg (by omega) (by omega))
    have vs : 1 ≤ v * s := by
      have := Int.mul_le_mul hv s1 (by omega) (by omega)
      omega
    have x1 : 0 ≤ (- (Q' - Q - 2 * P')) * (v * v) := Int.mul_nonneg (by have := R'.hi; omega) vv
    rw [Int.neg_mul] at x1
    have x2 : (r + 1) * 1 ≤ (Q + P') * (v * s) := Int.mul_le_mul (by omega) vs (by omega) (by have := R'.p0; omega)
    have := G.r1
    omega
theorem near_go {n r x y : Int} (G : Good n r) (hx : 0 < x) (hcop : ∀ d : Int, 0 < d → d ∣ x → d ∣ y → d = 1) (lo : - r ≤ x * x - n * (y * y)) (hi : x * x - n * (y * y) ≤ r) :
    ∀ (m : Nat) (i : Nat) (u v : Int), 0 ≤ v → 1 ≤ u → v ≤ u → u + v ≤ m → x = hh n r i * u + gh n r i * v → y = kk n r i * u + gk n r i * v → ∃ j, x = hh n r j ∧ y = kk n r j
  | 0, _, u, v, h0, h1, _, hm, _, _ => by omega
  | m + 1, i, u, v, h0, h1, huv, hm, ex, ey => by
    by_cases hv : v = 0
    · rw [hv, Int.mul_zero, Int.add_zero] at ex ey
      have := hcop u (by omega) ⟨_, by rw [ex, Int.mul_comm]⟩ ⟨_, by rw [ey, Int.mul_comm]⟩
      rw [this, Int.mul_one] at ex ey
      exact ⟨i, ex, ey⟩
    · have w := worth_form G i u v
      rw [← ex, ← ey] at w
      rw [w] at lo hi
      have R := st_red G i
      have S := st_step G i
      have eM := qm_eq G i
      have b : - r ≤ - (sQ n r i * (u * u)) + 2 * (sP n r i * (u * v)) + qm n r i * (v * v) ∧ - (sQ n r i * (u * u)) + 2 * (sP n r i * (u * v)) + qm n r i * (v * v) ≤ r := by
        rcases sg_mod i with ⟨_, e⟩ | ⟨_, e⟩ <;> rw [e] at lo hi <;> omega
      have l := near_low G R S eM (by omega) huv b.2
      have h := near_high G R S eM (by omega) b.1
      have a1 := S.a1
      have e1 : (aq n r i + 1) * v = aq n r i * v + v := by grind
      have av : 1 * v ≤ aq n r i * v := Int.mul_le_mul_of_nonneg_right a1 (by omega)
      refine near_go G hx hcop (by rw [w]; exact lo) (by rw [w]; exact hi) m (i + 1) v (u - aq n r i * v) (by omega) (by omega) (by omega) (by omega) ?_ ?_
      · show x = (aq n r i * hh n r i + gh n r i) * v + hh n r i * (u - aq n r i * v)
        rw [ex]
        grind
      · show y = (aq n r i * kk n r i + gk n r i) * v + kk n r i * (u - aq n r i * v)
        rw [ey]
        grind
theorem near {n r x y : Int} (G : Good n r) (hx : 0 < x) (hy : 0 < y) (hcop : ∀ d : Int, 0 < d → d ∣ x → d ∣ y → d = 1) (lo : - r ≤ x * x - n * (y * y)) (hi : x * x - n * (y * y) ≤ r) :
    ∃ j, x = hh n r j ∧ y = kk n r j := by
  have r1 := G.r1
  have yy : 1 ≤ y * y := by
    have := Int.mul_le_mul (show (1 : Int) ≤ y by omega) (show (1 : Int) ≤ y by omega) (by omega) (by omega)
    omega
  have ry : r * 1 ≤ r * y := Int.mul_le_mul_of_nonneg_left (by omega) (by omega)
  have h1 : r * y ≤ x := by
    by_cases h : r * y ≤ x
    · exact h
    · exfalso
      have s := sq_le (a := x) (b := r * y - 1) (by omega) (by omega)
      have e : (r * y - 1) * (r * y - 1) = r * r * (y * y) - 2 * (r * y) + 1 := by grind
      have t : (r * r + 1) * (y * y) ≤ n * (y * y) := Int.mul_le_mul_of_nonneg_right (by have := G.lo; omega) (by omega)
      have e2 : (r * r + 1) * (y * y) = r * r * (y * y) + y * y := by grind
      omega
  have h2 : x ≤ (r + 1) * y := by
    by_cases h : x ≤ (r + 1) * y
    · exact h
    · exfalso
      have p : 0 ≤ (r + 1) * y := Int.mul_nonneg (by omega) (by omega)
      have s := sq_le (a := (r + 1) * y + 1) (b := x) (by omega) (by omega)
      have e : ((r + 1) * y + 1) * ((r + 1) * y + 1) = (r + 1) * (r + 1) * (y * y) + 2 * (r * y) + 2 * y + 1 := by grind
      have t : n * (y * y) ≤ (r + 1) * (r + 1) * (y * y) := Int.mul_le_mul_of_nonneg_right (by have := G.hi; omega) (by omega)
      omega
  have e3 : (r + 1) * y = r * y + y := by grind
  refine near_go G hx hcop lo hi (y + (x - r * y)).toNat 0 y (x - r * y) (by omega) (by omega) (by omega) (by omega) ?_ ?_
  · show x = r * y + 1 * (x - r * y)
    omega
  · show y = 1 * y + 0 * (x - r * y)
    omega
end RL
namespace RL
/-! least ones, all ones, reached worths -/
theorem cop_of {x y : Int} (hx : 0 < x) : ∃ g x' y' : Int, 1 ≤ g ∧ x = g * x' ∧ y = g * y' ∧ ∀ d : Int, 0 < d → d ∣ x' → d ∣ y' → d = 1 := by
  obtain ⟨x', hx'⟩ := Int.gcd_dvd_left x y
  obtain ⟨y', hy'⟩ := Int.gcd_dvd_right x y
  have g0 : ((Int.gcd x y : Nat) : Int) ≠ 0 := fun e => by
    rw [e, Int.zero_mul] at hx'
    omega
  have g1 : (1 : Int) ≤ ((Int.gcd x y : Nat) : Int) := by omega
  refine ⟨_, x', y', g1, hx', hy', fun d hd h1 h2 => ?_⟩
  obtain ⟨u, hu⟩ := h1
  obtain ⟨v, hv⟩ := h2
  have a1 : ((Int.gcd x y : Nat) : Int) * d ∣ x := ⟨u, by rw [Int.mul_assoc, ← hu]; exact hx'⟩
  have a2 : ((Int.gcd x y : Nat) : Int) * d ∣ y := ⟨v, by rw [Int.mul_assoc, ← hv]; exact hy'⟩
  obtain ⟨z, hz⟩ := Int.dvd_coe_gcd a1 a2
  generalize ((Int.gcd x y : Nat) : Int) = g at *
  have e : g * 1 = g * (d * z) := by
    rw [← Int.mul_assoc]
    omega
  have e2 := Int.eq_of_mul_eq_mul_left g0 e
  have z1 : 0 < z := by
    by_cases q : 0 < z
    · exact q
    · have : d * z ≤ d * 0 := Int.mul_le_mul_of_nonneg_left (by omega) (by omega)
      omega
  have : d * 1 ≤ d * z := Int.mul_le_mul_of_nonneg_left (by omega) (by omega)
  omega
/-- a pair of a small worth is a whole number times a fraction -/
theorem reached {n r x y c : Int} (G : Good n r) (hx : 0 < x) (hy : 0 < y) (hc : x * x - n * (y * y) = c) (h1 : - r ≤ c) (h2 : c ≤ r) :
    ∃ (g : Int) (i : Nat), 1 ≤ g ∧ x = g * hh n r i ∧ y = g * kk n r i ∧ c = g * g * - (sg i * sQ n r i) := by
  obtain ⟨g, x', y', g1, ex, ey, hcop⟩ := cop_of (y := y) hx
  have x0 : 0 < x' := by
    by_cases q : 0 < x'
    · exact q
    · have : g * x' ≤ g * 0 := Int.mul_le_mul_of_nonneg_left (by omega) (by omega)
      omega
  have y0 : 0 < y' := by
    by_cases q : 0 < y'
    · exact q
    · have : g * y' ≤ g * 0 := Int.mul_le_mul_of_nonneg_left (by omega) (by omega)
      omega
  have ec : c = g * g * (x' * x' - n * (y' * y')) := by
    rw [← hc, ex, ey]
    grind
  have gg : 1 ≤ g * g := by
    have := Int.mul_le_mul g1 g1 (by omega) (by omega)
    omega
  have r1 := G.r1
  generalize hw : x' * x' - n * (y' * y') = w at ec
  have lo : - r ≤ w := by
    by_cases q : 0 ≤ w
    · omega
    · have : g * g * w ≤ 1 * w := Int.mul_le_mul_of_nonpos_right (by omega) (by omega)
      omega
  have hi : w ≤ r := by
    by_cases q : w ≤ 0
    · omega
    · have : 1 * w ≤ g * g * w := Int.mul_le_mul_of_nonneg_right gg (by omega)
      omega
  obtain ⟨i, e1, e2⟩ := near G x0 y0 hcop (by rw [hw]; exact lo) (by rw [hw]; exact hi)
  have nn := (form G i).nn
  rw [← e1, ← e2, hw] at nn
  exact ⟨g, i, g1, by rw [ex, e1], by rw [ey, e2], by rw [ec, nn]⟩
theorem sq_one {g : Int} (g1 : 1 ≤ g) {z : Int} (h : g * g * z = 1 ∨ g * g * z = -1) : g = 1 := by
  by_cases e : g = 1
  · exact e
  · exfalso
    have gg := Int.mul_le_mul (show (2 : Int) ≤ g by omega) (show (2 : Int) ≤ g by omega) (by omega) (by omega)
    by_cases q : 0 ≤ z
    · by_cases q0 : z = 0
      · rw [q0, Int.mul_zero] at h
        omega
      · have : 4 * z ≤ g * g * z := Int.mul_le_mul_of_nonneg_right (by omega) (by omega)
        omega
    · have : g * g * z ≤ 4 * z := Int.mul_le_mul_of_nonpos_right (by omega) (by omega)
      omega
/-- worth 1 or -1: the ends of rounds alone -/
theorem unit_at {n r x y c : Int} {l : Nat} (G : Good n r) (L : Last n r l) (hx : 0 < x) (hy : 0 < y) (hc : x * x - n * (y * y) = c) (h1 : c = 1 ∨ c = -1) :
    ∃ i : Nat, x = hh n r i ∧ y = kk n r i ∧ i % (l + 1) = l ∧ c = - sg i := by
  have r1 := G.r1
  obtain ⟨g, i, g1, e1, e2, e3⟩ := reached G hx hy hc (by omega) (by omega)
  have eg := sq_one g1 (z := - (sg i * sQ n r i)) (by omega)
  rw [eg, Int.one_mul] at e1 e2
  rw [eg] at e3
  have q0 := (st_red G i).q0
  have e4 : c = - (sg i * sQ n r i) := by omega
  have q1 : sQ n r i = 1 := by
    rcases sg_mod i with ⟨_, s⟩ | ⟨_, s⟩ <;> rw [s] at e4 <;> omega
  rw [q1, Int.mul_one] at e4
  exact ⟨i, e1, e2, (one_iff G L i).mp q1, e4⟩
/-- the pair behind one round -/
theorem first_worth {n r : Int} {l : Nat} (G : Good n r) (L : Last n r l) : hh n r l * hh n r l - n * (kk n r l * kk n r l) = - sg l := by
  have := (form G l).nn
  rw [L.one, Int.mul_one] at this
  exact this
theorem ahead_eq {n r : Int} {l : Nat} (G : Good n r) (L : Last n r l) : gh n r l = n * kk n r l - r * hh n r l ∧ gk n r l = hh n r l - r * kk n r l := by
  obtain ⟨nn, cr, mm, dt⟩ := form G l
  have q := L.one
  have p := last_P G L.one
  rw [q] at nn
  rw [p] at cr
  have s := sg_sq l
  generalize hh n r l = h at *
  generalize kk n r l = k at *
  generalize gh n r l = u at *
  generalize gk n r l = v at *
  generalize sg l = e at *
  refine ⟨?_, ?_⟩
  · have : e * (- e * u) = e * (e * r * h - e * (n * k)) := by grind
    grind
  · have : e * (- e * v) = e * (e * r * k - e * h) := by grind
    grind
/-- a further round: the product with the first round's pair -/
theorem further {n r : Int} {l : Nat} (G : Good n r) (L : Last n r l) : ∀ i : Nat, (hh n r (l + 1 + i) = hh n r l * hh n r i + n * (kk n r l * kk n r i) ∧ kk n r (l + 1 + i) = hh n r l * kk n r i + kk n r l * hh n r i) ∧
    (gh n r (l + 1 + i) = hh n r l * gh n r i + n * (kk n r l * gk n r i) ∧ gk n r (l + 1 + i) = hh n r l * gk n r i + kk n r l * gh n r i)
  | 0 => by
    obtain ⟨a, b⟩ := ahead_eq G L
    refine ⟨⟨?_, ?_⟩, ?_, ?_⟩
    · show aq n r l * hh n r l + gh n r l = hh n r l * r + n * (kk n r l * 1)
      rw [last_a G L.one, a]
      grind
    · show aq n r l * kk n r l + gk n r l = hh n r l * 1 + kk n r l * r
      rw [last_a G L.one, b]
      grind
    · show hh n r l = hh n r l * 1 + n * (kk n r l * 0)
      omega
    · show kk n r l = hh n r l * 0 + kk n r l * 1
      omega
  | i + 1 => by
    obtain ⟨⟨a, b⟩, c, d⟩ := further G L i
    have ea : aq n r (l + 1 + i) = aq n r i := by
      unfold aq sP sQ
      rw [st_add G L.one i]
    refine ⟨⟨?_, ?_⟩, a, b⟩
    · show aq n r (l + 1 + i) * hh n r (l + 1 + i) + gh n r (l + 1 + i) = hh n r l * (aq n r i * hh n r i + gh n r i) + n * (kk n r l * (aq n r i * kk n r i + gk n r i))
      rw [a, c, ea]
      grind
    · show aq n r (l + 1 + i) * kk n r (l + 1 + i) + gk n r (l + 1 + i) = hh n r l * (aq n r i * kk n r i + gk n r i) + kk n r l * (aq n r i * hh n r i + gh n r i)
      rw [b, d, ea]
      grind
/-- the least one -/
def leastP (n r : Int) (l : Nat) : Int × Int := if l % 2 = 1 then (hh n r l, kk n r l) else (hh n r l * hh n r l + n * kk n r l * kk n r l, hh n r l * kk n r l + kk n r l * hh n r l)
theorem least_is {n r : Int} {l : Nat} (G : Good n r) (L : Last n r l) : ∃ i : Nat, leastP n r l = (hh n r i, kk n r i) ∧ i % 2 = 1 ∧ i % (l + 1) = l ∧ ∀ j : Nat, j % 2 = 1 → j % (l + 1) = l → i ≤ j := by
  by_cases h : l % 2 = 1
  · refine ⟨l, ?_, h, Nat.mod_eq_of_lt (by omega), fun j _ hj => ?_⟩
    · unfold leastP
      rw [if_pos h]
    · have := Nat.mod_le j (l + 1)
      omega
  · obtain ⟨⟨a, b⟩, _⟩ := further G L l
    refine ⟨l + 1 + l, ?_, by omega, ?_, fun j h1 hj => ?_⟩
    · unfold leastP
      rw [if_neg h, a, b, Int.mul_assoc]
    · rw [Nat.add_comm, Nat.add_mod_right]
      exact Nat.mod_eq_of_lt (by omega)
    · have d := Nat.div_add_mod j (l + 1)
      rw [hj] at d
      generalize j / (l + 1) = q at d
      have q0 : q ≠ 0 := fun e => by
        rw [e] at d
        omega
      obtain ⟨q', rfl⟩ : ∃ q', q = q' + 1 := ⟨q - 1, by omega⟩
      have : (l + 1) * (q' + 1) = (l + 1) * q' + (l + 1) := Nat.mul_succ ..
      have : 0 ≤ (l + 1) * q' := Nat.zero_le _
      omega
structure Least (n X Y : Int) : Prop where
  x1 : 1 ≤ X
  y1 : 1 ≤ Y
  one : X * X - n * (Y * Y) = 1
  min : ∀ x y : Int, 0 < x → 0 < y → x * x - n * (y * y) = 1 → Y ≤ y
theorem least_ok {n r : Int} {l : Nat} (G : Good n r) (L : Last n r l) : Least n (leastP n r l).1 (leastP n r l).2 := by
  obtain ⟨i, e, h1, h2, h3⟩ := least_is G L
  rw [e]
  have p := pos2 G i
  refine ⟨p.h1, p.k1, ?_, fun x y hx hy hc => ?_⟩
  · have nn := (form G i).nn
    rw [(one_iff G L i).mpr h2] at nn
    rcases sg_mod i with ⟨q, _⟩ | ⟨_, s⟩
    · omega
    · rw [s] at nn
      exact nn
  · obtain ⟨j, e1, e2, e3, e4⟩ := unit_at G L hx hy hc (.inl rfl)
    rcases sg_mod j with ⟨_, s⟩ | ⟨q, _⟩
    · rw [s] at e4
      omega
    · rw [e2]
      exact kk_le G (h3 j q e3)
/-- no pair with worth -1 where the round's count is even -/
theorem no_less {n r x y : Int} {l : Nat} (G : Good n r) (L : Last n r l) (h : l % 2 = 1) (hx : 0 < x) (hy : 0 < y) : x * x - n * (y * y) ≠ -1 := fun hc => by
  obtain ⟨j, _, _, e3, e4⟩ := unit_at G L hx hy hc (.inr rfl)
  have d := Nat.div_add_mod j (l + 1)
  rw [e3] at d
  rcases sg_mod j with ⟨q, _⟩ | ⟨_, s⟩
  · obtain ⟨m, hm⟩ : ∃ m, l + 1 = 2 * m := ⟨(l + 1) / 2, by omega⟩
    rw [hm, Nat.mul_assoc] at d
    omega
  · rw [s] at e4
    omega
theorem less_min {n r x y : Int} {l : Nat} (G : Good n r) (L : Last n r l) (hx : 0 < x) (hy : 0 < y) (hc : x * x - n * (y * y) = -1) : kk n r l ≤ y := by
  obtain ⟨j, _, e2, e3, _⟩ := unit_at G L hx hy hc (.inr rfl)
  rw [e2]
  have := Nat.mod_le j (l + 1)
  exact kk_le G (by omega)
/-! the powers of the least one -/
def pw (n X Y : Int) : Nat → Int × Int
  | 0 => (X, Y)
  | k + 1 => ((pw n X Y k).1 * X + n * (pw n X Y k).2 * Y, (pw n X Y k).1 * Y + (pw n X Y k).2 * X)
structure PwOk (n X Y : Int) (k : Nat) : Prop where
  x1 : 1 ≤ (pw n X Y k).1
  y1 : 1 ≤ (pw n X Y k).2
  one : (pw n X Y k).1 * (pw n X Y k).1 - n * ((pw n X Y k).2 * (pw n X Y k).2) = 1
  up : (pw n X Y k).2 < (pw n X Y (k + 1)).2
  far : 2 * (k : Int) + 1 ≤ (pw n X Y k).2
theorem pw_ok {n X Y : Int} (hn : 2 ≤ n) (h : Least n X Y) : ∀ k, PwOk n X Y k := by
  have x2 : 2 ≤ X := by
    have one := h.one
    have y1 := h.y1
    by_cases e : 2 ≤ X
    · exact e
    · have : X = 1 := by have := h.x1; omega
      rw [this] at one
      have yy := Int.mul_le_mul y1 y1 (by omega) (by omega)
      have : n * 1 ≤ n * (Y * Y) := Int.mul_le_mul_of_nonneg_left (by omega) (by omega)
      omega
  have step : ∀ k, 1 ≤ (pw n X Y k).1 → 1 ≤ (pw n X Y k).2 → 2 * (pw n X Y k).2 + 1 ≤ (pw n X Y (k + 1)).2 ∧ 1 ≤ (pw n X Y (k + 1)).1 := fun k a b => by
    have y1 := h.y1
    have m1 := Int.mul_le_mul a y1 (by omega) (by omega)
    have m2 : (pw n X Y k).2 * 2 ≤ (pw n X Y k).2 * X := Int.mul_le_mul_of_nonneg_left x2 (by omega)
    have m3 := Int.mul_le_mul a h.x1 (by omega) (by omega)
    have m4 : 0 ≤ n * (pw n X Y k).2 * Y := Int.mul_nonneg (Int.mul_nonneg (by omega) (by omega)) (by omega)
    refine ⟨?_, ?_⟩
    · show _ ≤ (pw n X Y k).1 * Y + (pw n X Y k).2 * X
      omega
    · show 1 ≤ (pw n X Y k).1 * X + n * (pw n X Y k).2 * Y
      omega
  have all : ∀ k, 1 ≤ (pw n X Y k).1 ∧ 1 ≤ (pw n X Y k).2 ∧ (pw n X Y k).1 * (pw n X Y k).1 - n * ((pw n X Y k).2 * (pw n X Y k).2) = 1 ∧ 2 * (k : Int) + 1 ≤ (pw n X Y k).2 := fun k => by
    induction k with
    | zero => exact ⟨h.x1, h.y1, h.one, by have := h.y1; show 2 * ((0 : Nat) : Int) + 1 ≤ Y; omega⟩
    | succ k ih =>
      obtain ⟨a, b, c, d⟩ := ih
      obtain ⟨s1, s2⟩ := step k a b
      refine ⟨s2, by omega, ?_, by omega⟩
      show ((pw n X Y k).1 * X + n * (pw n X Y k).2 * Y) * ((pw n X Y k).1 * X + n * (pw n X Y k).2 * Y) - n * (((pw n X Y k).1 * Y + (pw n X Y k).2 * X) * ((pw n X Y k).1 * Y + (pw n X Y k).2 * X)) = 1
      have one := h.one
      generalize (pw n X Y k).1 = x at *
      generalize (pw n X Y k).2 = y at *
      have : (x * X + n * y * Y) * (x * X + n * y * Y) - n * ((x * Y + y * X) * (x * Y + y * X)) = (x * x - n * (y * y)) * (X * X - n * (Y * Y)) := by grind
      rw [this, c, one]
      rfl
  intro k
  obtain ⟨a, b, c, d⟩ := all k
  obtain ⟨s1, s2⟩ := step k a b
  exact ⟨a, b, c, by omega, d⟩
/-- every one is a power -/
theorem pw_all {n X Y : Int} (hn : 2 ≤ n) (h : Least n X Y) : ∀ (m : Nat) (x y : Int), y ≤ m → 0 < x → 0 < y → x * x - n * (y * y) = 1 → ∃ k, y = (pw n X Y k).2 ∧ x = (pw n X Y k).1
  | 0, x, y, hm, hx, hy, hc => by omega
  | m + 1, x, y, hm, hx, hy, hc => by
    have hY := h.min x y hx hy hc
    have one := h.one
    have x1 := h.x1
    have y1 := h.y1
    by_cases e : y = Y
    · refine ⟨0, e, ?_⟩
      rw [e] at hc
      have q : x * x = X * X := by omega
      have a := le_of_sq (a := x) (b := X) (by omega) (by omega)
      have b := le_of_sq (a := X) (b := x) (by omega) (by omega)
      show x = X
      omega
    · have yY : Y < y := by omega
      -- the pair ahead
      have c1 : 0 < y * X - x * Y := by
        have s1 : (y * X) * (y * X) = y * y + n * (y * y) * (Y * Y) := by
          have : X * X = 1 + n * (Y * Y) := by omega
          have e2 : (y * X) * (y * X) = y * y * (X * X) := by grind
          rw [e2, this]
          grind
        have s2 : (x * Y) * (x * Y) = Y * Y + n * (y * y) * (Y * Y) := by
          have : x * x = 1 + n * (y * y) := by omega
          have e2 : (x * Y) * (x * Y) = x * x * (Y * Y) := by grind
          rw [e2, this]
          grind
        have s3 := sq_lt (show 0 ≤ Y by omega) yY
        have := lt_of_sq (a := x * Y) (b := y * X) (Int.mul_nonneg (by omega) (by omega)) (by omega)
        omega
      have c2 : 0 < x * X - n * (y * Y) := by
        have s1 : (x * X) * (x * X) = (1 + n * (y * y)) * (1 + n * (Y * Y)) := by
          have a1 : x * x = 1 + n * (y * y) := by omega
          have a2 : X * X = 1 + n * (Y * Y) := by omega
          rw [← a1, ← a2]
          grind
        have s2 : (1 + n * (y * y)) * (1 + n * (Y * Y)) = 1 + n * (y * y) + n * (Y * Y) + (n * (y * Y)) * (n * (y * Y)) := by grind
        have p1 : 0 ≤ n * (y * y) := Int.mul_nonneg (by omega) (Int.mul_nonneg (by omega) (by omega))
        have p2 : 0 ≤ n * (Y * Y) := Int.mul_nonneg (by omega) (Int.mul_nonneg (by omega) (by omega))
        have := lt_of_sq (a := n * (y * Y)) (b := x * X) (Int.mul_nonneg (by omega) (by omega)) (by omega)
        omega
      have c3 : (x * X - n * (y * Y)) * (x * X - n * (y * Y)) - n * ((y * X - x * Y) * (y * X - x * Y)) = 1 := by
        have : (x * X - n * (y * Y)) * (x * X - n * (y * Y)) - n * ((y * X - x * Y) * (y * X - x * Y)) = (x * x - n * (y * y)) * (X * X - n * (Y * Y)) := by grind
        rw [this, hc, one]
        rfl
      -- back again
      have b1 : (x * X - n * (y * Y)) * Y + (y * X - x * Y) * X = y := by
        have : (x * X - n * (y * Y)) * Y + (y * X - x * Y) * X = y * (X * X - n * (Y * Y)) := by grind
        rw [this, one, Int.mul_one]
      have b2 : (x * X - n * (y * Y)) * X + n * (y * X - x * Y) * Y = x := by
        have : (x * X - n * (y * Y)) * X + n * (y * X - x * Y) * Y = x * (X * X - n * (Y * Y)) := by grind
        rw [this, one, Int.mul_one]
      have less : y * X - x * Y < y := by
        have m1 := Int.mul_le_mul (show (1 : Int) ≤ x * X - n * (y * Y) by omega) y1 (by omega) (by omega)
        have m2 : (y * X - x * Y) * 1 ≤ (y * X - x * Y) * X := Int.mul_le_mul_of_nonneg_left x1 (by omega)
        omega
      obtain ⟨k, e1, e2⟩ := pw_all hn h m (x * X - n * (y * Y)) (y * X - x * Y) (by omega) c2 c1 c3
      refine ⟨k + 1, ?_, ?_⟩
      · show y = (pw n X Y k).1 * Y + (pw n X Y k).2 * X
        rw [← e1, ← e2]
        exact b1.symm
      · show x = (pw n X Y k).1 * X + n * (pw n X Y k).2 * Y
        rw [← e1, ← e2]
        exact b2.symm
end RL
namespace RL
/-! reached worths -/
/-- a fraction's worth -/
def own (n r : Int) (i : Nat) : Int := - (sg i * sQ n r i)
theorem own_eq {n r : Int} (G : Good n r) (i : Nat) : hh n r i * hh n r i - n * (kk n r i * kk n r i) = own n r i := (form G i).nn
theorem own_mod {n r : Int} {l : Nat} (G : Good n r) (L : Last n r l) (i : Nat) : own n r (i % (2 * (l + 1))) = own n r i := by
  have e : sQ n r (i % (2 * (l + 1))) = sQ n r i := by
    unfold sQ
    rw [← st_mod G L.one (i % (2 * (l + 1))), Nat.mod_mod_of_dvd _ ⟨2, Nat.mul_comm _ _⟩, st_mod G L.one i]
  have s : sg (i % (2 * (l + 1))) = sg i := by
    have p : i % (2 * (l + 1)) % 2 = i % 2 := Nat.mod_mod_of_dvd _ ⟨l + 1, rfl⟩
    rcases sg_mod (i % (2 * (l + 1))) with ⟨a, b⟩ | ⟨a, b⟩ <;> rcases sg_mod i with ⟨c, d⟩ | ⟨c, d⟩
    · rw [b, d]
    · omega
    · omega
    · rw [b, d]
  unfold own
  rw [e, s]
theorem own_big {n r : Int} (G : Good n r) (i : Nat) : 1 ≤ own n r i ∨ own n r i ≤ -1 := by
  have q := (st_red G i).q0
  unfold own
  rcases sg_mod i with ⟨_, s⟩ | ⟨_, s⟩ <;> rw [s] <;> omega
def ab (c : Int) : Int := if c < 0 then -c else c
theorem ab_of {o b c : Int} (ho : 1 ≤ o ∨ o ≤ -1) (e : o * b * b = c) : b * b ≤ ab c := by
  have s : 0 ≤ b * b := by
    by_cases q : 0 ≤ b
    · exact Int.mul_nonneg q q
    · exact Int.mul_nonneg_of_nonpos_of_nonpos (by omega) (by omega)
  rw [Int.mul_assoc] at e
  generalize b * b = z at *
  unfold ab
  rcases ho with h | h
  · have := Int.mul_le_mul_of_nonneg_right h s
    split <;> omega
  · have := Int.mul_le_mul_of_nonneg_right h s
    split <;> omega
/-- what reach looks at -/
def Cand (n r : Int) (l : Nat) (c x y : Int) : Prop := ∃ (j : Nat) (b : Int), j < 2 * (l + 1) ∧ 1 ≤ b ∧ own n r j * b * b = c ∧ x = hh n r j * b ∧ y = kk n r j * b
structure Worth (n c x y : Int) : Prop where
  x1 : 1 ≤ x
  y1 : 1 ≤ y
  eq : x * x - n * (y * y) = c
theorem Cand.worth {n r c x y : Int} {l : Nat} (G : Good n r) (h : Cand n r l c x y) : Worth n c x y := by
  obtain ⟨j, b, _, b1, e, rfl, rfl⟩ := h
  have p := pos2 G j
  have nn := own_eq G j
  refine ⟨?_, ?_, ?_⟩
  · have := Int.mul_le_mul p.h1 b1 (by omega) (by have := p.h1; omega)
    omega
  · have := Int.mul_le_mul p.k1 b1 (by omega) (by have := p.k1; omega)
    omega
  · rw [← e, ← nn]
    grind
theorem cand_of {n r c x y : Int} {l : Nat} (G : Good n r) (L : Last n r l) (hx : 0 < x) (hy : 0 < y) (hc : x * x - n * (y * y) = c) (h1 : - r ≤ c) (h2 : c ≤ r) : ∃ x' y', Cand n r l c x' y' ∧ y' ≤ y := by
  obtain ⟨g, i, g1, e1, e2, e3⟩ := reached G hx hy hc h1 h2
  have hm : i % (2 * (l + 1)) < 2 * (l + 1) := Nat.mod_lt _ (by omega)
  refine ⟨_, _, ⟨i % (2 * (l + 1)), g, hm, g1, ?_, rfl, rfl⟩, ?_⟩
  · rw [own_mod G L i, e3]
    unfold own
    rw [Int.mul_assoc, Int.mul_comm]
  · rw [e2, Int.mul_comm]
    exact Int.mul_le_mul_of_nonneg_left (kk_le G (Nat.mod_le ..)) (by omega)
/-- what reach answers -/
structure Reach (n r : Int) (l : Nat) (c x y : Int) : Prop where
  cand : Cand n r l c x y
  least : ∀ x' y', Cand n r l c x' y' → y ≤ y'
theorem Reach.min {n r c x y : Int} {l : Nat} (G : Good n r) (L : Last n r l) (h : Reach n r l c x y) (h1 : - r ≤ c) (h2 : c ≤ r) {x' y' : Int} (hx : 0 < x') (hy : 0 < y') (hc : x' * x' - n * (y' * y') = c) : y ≤ y' := by
  obtain ⟨a, b, e, f⟩ := cand_of G L hx hy hc h1 h2
  have := h.least a b e
  omega
/-- 1 is reached -/
theorem one_worth {n r : Int} {l : Nat} (G : Good n r) (L : Last n r l) : ∃ x y : Int, Worth n 1 x y := by
  have h := least_ok G L
  exact ⟨_, _, h.x1, h.y1, h.one⟩
/-- the square root of one less -/
theorem rt_less {n : Int} (G : Good n (rt n)) : rt (n - 1) = rt n := by
  have lo := G.lo
  have hi := G.hi
  have r1 := G.r1
  exact rt_uniq (by omega) (by omega) (by omega)
theorem told_in {n r c : Int} (G : Good n r) (h : c * c < n) : - r ≤ c ∧ c ≤ r := by
  have hi := G.hi
  have r1 := G.r1
  refine ⟨?_, ?_⟩
  · by_cases q : - r ≤ c
    · exact q
    · have := sq_le (show 0 ≤ r + 1 by omega) (show r + 1 ≤ -c by omega)
      rw [Int.neg_mul_neg] at this
      omega
  · by_cases q : c ≤ r
    · exact q
    · have := sq_le (show 0 ≤ r + 1 by omega) (show r + 1 ≤ c by omega)
      omega
theorem in_told {n r c : Int} (G : Good n r) (h1 : - r ≤ c) (h2 : c ≤ r) : c * c < n := by
  have lo := G.lo
  have r1 := G.r1
  by_cases q : 0 ≤ c
  · have := sq_le q h2
    omega
  · have := sq_le (show 0 ≤ -c by omega) (show -c ≤ r by omega)
    rw [Int.neg_mul_neg] at this
    omega
end RL
namespace RL
open PySem PySem.Spec PyProof.Rows L2
/-! rules -/
/-- * of two factors of together less than a hundred million bits -/
def CMulX (i j : Int) : Prop := i.natAbs.log2 + j.natAbs.log2 < 100000000
theorem CMulX.ok {i j : Int} (h : CMulX i j) : IntMulOk i j := by
  have b : ∀ x : Int, Builtin.Int.intBits x ≤ x.natAbs.log2 + 1 := fun x => by
    unfold Builtin.Int.intBits
    split <;> omega
  have h1 := b i
  have h2 := b j
  have h3 : i.natAbs.log2 + j.natAbs.log2 < 100000000 := h
  have e : bitsLine = 134217728 := by decide
  unfold IntMulOk
  intro z
  rw [Bool.and_eq_true] at z
  have z2 := z.2
  unfold Builtin.Int.intTooBig at z2
  have z3 := of_decide_eq_true z2
  rw [e] at z3
  omega
theorem op_mulX {X : Cx} : OpR X (binaryOp .Mult) (rI CMulX fun i j => .int (i * j)) := opI fun _ _ _ _ _ _ _ hc q => mul_int q hc.ok
theorem log2_le {n a : Nat} (h : n < 2 ^ a) : n.log2 ≤ a := by
  by_cases h0 : n = 0
  · rw [h0]
    show Nat.log2 0 ≤ a
    have : Nat.log2 0 = 0 := by decide
    omega
  · have := (Nat.log2_lt h0).mpr h
    omega
theorem mx {i j : Int} (a b : Nat) (ha : i.natAbs < 2 ^ a) (hb : j.natAbs < 2 ^ b) (h : a + b < 100000000 := by decide) : CMulX i j := by
  have x := log2_le ha
  have y := log2_le hb
  unfold CMulX
  omega
theorem dv {i j : Int} (h0 : 0 < j) (h : j < 1073741824) : CDivW i j := by
  refine ⟨h0, ?_⟩
  have : j.natAbs < 2 ^ 30 := by omega
  have := log2_le this
  omega
/-- a def that is called: at some place, by some level, its last parameters' values dvs -/
structure Dn (P : Program) (w : World) (K : PySem.W.Frag) (mg : Str → Option Value) (base : Heap) (x : Str) (k : Nat) (ps : List Str) (dvs : List V) (sp : Sp) : Prop where
  ex : ∃ (f : Addr) (fd : FuncData) (ds : List Value), FnOk P w K mg base CX0 k f fd ps sp ∧ mg x = some (.ref f) ∧ PySem.W.keepIn K (.ref f) = true ∧ Binds K fd ps ds ∧ Vals dvs ds
theorem pe_callD {X : Cx} {x : Str} {j k : Nat} {ps : List Str} {dvs : List V} {sp : Sp} {p pos : Pos} {e : Expr} {es : List Expr} {t : TA} (D : Dn X.prog X.w X.K X.mg X.base x j ps dvs sp) (hr : Room k X.A) (hj : j ≤ k) (hg : Gl X x)
    (ha : PA X (e :: es) t) (hdb : (x == ("__debug__" : Str)) = false := by decide) (he : starEach (e :: es) X.env = (false, eval e X.env) :: starEach es X.env := by rfl) (hpl : (backTo pos (starEach es X.env)).any (·.1) = false := by rfl) :
    PE X (.Call (.Name x p) (e :: es) [] pos) (tCall sp dvs E0 t) := by
  obtain ⟨f, fd, ds, F, hm, hk, hb, hd⟩ := D.ex
  exact pe_call F (hr.mono hj) hg hm hk hb hd pass0 ha hdb he hpl
theorem pe_callD0 {X : Cx} {x : Str} {j k : Nat} {ps : List Str} {dvs : List V} {sp : Sp} {p pos : Pos} (D : Dn X.prog X.w X.K X.mg X.base x j ps dvs sp) (hr : Room k X.A) (hj : j ≤ k) (hg : Gl X x)
    (hdb : (x == ("__debug__" : Str)) = false := by decide) : PE X (.Call (.Name x p) [] [] pos) (tCall sp dvs E0 tNil) := by
  obtain ⟨f, fd, ds, F, hm, hk, hb, hd⟩ := D.ex
  exact pe_call0 F (hr.mono hj) hg hm hk hb hd pass0 hdb
/-- a module's number -/
theorem pe_globI {X : Cx} {x : Str} {i : Int} {pos : Pos} (hg : Gl X x) (hm : ∃ t, X.mg x = some (.int i t)) (hd : (x == ("__debug__" : Str)) = false := by decide) : PE X (.Name x pos) (tC (.int i)) := by
  obtain ⟨t, h⟩ := hm
  exact pe_glob hg h ⟨t, rfl⟩ hd
theorem ifT {c : Bool} {A B : Prop} (h : c = true) (a : A) : if c = true then A else B := by
  rw [if_pos h]
  exact a
theorem ifF {c : Bool} {A B : Prop} (h : c = false) (b : B) : if c = true then A else B := by
  rw [if_neg (by rw [h]; exact Bool.false_ne_true)]
  exact b
theorem if2 {c : Bool} {A B : Prop} (a : c = true → A) (b : c = false → B) : if c = true then A else B := by
  cases c with
  | true => exact a rfl
  | false => exact b rfl
/-- a test that is decided -/
theorem ifD {p : Prop} [Decidable p] {A B : Prop} (a : p → A) (b : ¬ p → B) : if decide p = true then A else B := by
  by_cases h : p
  · rw [if_pos (decide_eq_true h)]
    exact a h
  · rw [if_neg (by rw [decide_eq_true_eq]; exact h)]
    exact b h
/-- a test's answers, whatever follows -/
theorem gen_test {t : TT} {σ : L2.St} {H : Hp} {Q : Bool → Hp → Prop} (R : Bool → Hp → Prop) (h : ∀ Q' : Bool → Hp → Prop, (∀ b H2, R b H2 → Q' b H2) → t σ H Q') (k : ∀ b H2, R b H2 → Q b H2) : t σ H Q := h Q k
/-- a value's answers, whatever follows -/
theorem gen_val {t : TE} {σ : L2.St} {H : Hp} {Q : VK} (R : V → Hp → Prop) (h : ∀ Q' : VK, (∀ v H2, R v H2 → Q' v H2) → t σ H Q') (k : ∀ v H2, R v H2 → Q v H2) : t σ H Q := h Q k
theorem gen_args {t : TA} {σ : L2.St} {H : Hp} {Q : List V → Hp → Prop} (R : List V → Hp → Prop) (h : ∀ Q' : List V → Hp → Prop, (∀ v H2, R v H2 → Q' v H2) → t σ H Q') (k : ∀ v H2, R v H2 → Q v H2) : t σ H Q := h Q k
theorem gen_seq {t1 t2 : TS} {D : Ends} {σ : L2.St} {H : Hp} (R : L2.St → Hp → Prop) (h : ∀ N : L2.St → Hp → Prop, (∀ σ' H', R σ' H' → N σ' H') → t1 { D with nx := N } σ H) (k : ∀ σ' H', R σ' H' → t2 D σ' H') : tSeq t1 t2 D σ H := h _ k
theorem gen_set {te : TE} {i : Nat} {t2 : TS} {D : Ends} {σ : L2.St} {H : Hp} (R : V → Hp → Prop) (h : ∀ Q' : VK, (∀ v H2, R v H2 → Q' v H2) → te σ H Q') (k : ∀ v H2, R v H2 → t2 D (σ.set i (some v)) H2) : tSeq (tAsg te (gName i)) t2 D σ H := h _ k
/-- behind a store: the next statement -/
theorem go_next {t1 t2 : TS} {D : Ends} {σ : L2.St} {i : Nat} {v : V} {H : Hp} (h : tSeq t1 t2 D (σ.set i (some v)) H) : gName i v σ H (tSeq t1 t2 D) := h
theorem ne_bls {a b : Bool} (h : a = b) : (!decide (V.bl a = V.bl b)) = false := by
  rw [h, decide_eq_true rfl]
  rfl
theorem ty_int {K : PySem.W.Frag} {H : Hp} {i : Int} : TyX K H (.int i) (.type "int") := .base (.int i)
theorem ty_bl {K : PySem.W.Frag} {H : Hp} {b : Bool} : TyX K H (.bl b) (.type "bool") := .base (.bl b)
theorem kit_ii {K : PySem.W.Frag} : PySem.W.kitOne K (.type "int") (.type "int") = some true := kit_ty (by decide +kernel)
theorem kit_ib {K : PySem.W.Frag} : PySem.W.kitOne K (.type "int") (.type "bool") = some false := kit_ty (by decide +kernel)
theorem kit_bb {K : PySem.W.Frag} : PySem.W.kitOne K (.type "bool") (.type "bool") = some true := kit_ty (by decide +kernel)
theorem kit_bi {K : PySem.W.Frag} : PySem.W.kitOne K (.type "bool") (.type "int") = some true := kit_ty (by decide +kernel)
theorem isi_rule {X : Cx} {K : PySem.W.Frag} (h : X.K = K) : CallR X (.builtin "isinstance") (rIsi K) := by
  subst h
  exact call_isi
theorem len_rule {X : Cx} {K : PySem.W.Frag} (h : X.K = K) : CallR X (.builtin "len") (fun xs H Q => ∃ p ys, xs = [.ref p] ∧ (SqL K H p ys ∨ SqT K H p ys) ∧ Q (.int ys.length) H) := by
  subst h
  exact call_len_seq
theorem ixl {X : Cx} {K : PySem.W.Frag} (h : X.K = K) : IxR X (rIxL K) := by
  subst h
  exact ix_list
theorem ixt {X : Cx} {K : PySem.W.Frag} (h : X.K = K) : IxR X (rIxT K) := by
  subst h
  exact ix_tup
/-- what isinstance asks, of a number -/
theorem isi_ii {K : PySem.W.Frag} {H : Hp} {i : Int} {Q : VK} (q : Q (.bl true) H) : rIsi K [.int i, .ty "int"] H Q := ⟨_, _, _, _, _, rfl, .ty _, ty_int, kit_ii, q⟩
theorem isi_ib {K : PySem.W.Frag} {H : Hp} {i : Int} {Q : VK} (q : Q (.bl false) H) : rIsi K [.int i, .ty "bool"] H Q := ⟨_, _, _, _, _, rfl, .ty _, ty_int, kit_ib, q⟩
theorem isi_bb {K : PySem.W.Frag} {H : Hp} {i : Bool} {Q : VK} (q : Q (.bl true) H) : rIsi K [.bl i, .ty "bool"] H Q := ⟨_, _, _, _, _, rfl, .ty _, ty_bl, kit_bb, q⟩
/-! lists and loops -/
theorem cut_to (xs : List V) (k : Nat) : cutV xs none (some (k : Int)) = xs.take k := by
  unfold cutV
  rw [HT.sIx_none, HT.sIx_nat, List.drop_zero, Nat.sub_zero]
  by_cases h : k ≤ xs.length
  · rw [Nat.min_eq_left h]
  · rw [Nat.min_eq_right (by omega), List.take_length, List.take_of_length_le (by omega)]
theorem rd_seq {K : PySem.W.Frag} {H : Hp} {a : Addr} {xs : List V} (h : Rd H a (.lst xs)) : SqL K H a xs := Or.inl h
theorem same_rd {H H' : Hp} {a : Addr} {u : HO} (e : Same H H') (h : Rd H a u) : Rd H' a u := by
  rcases h with h | ⟨o, h⟩
  · exact .inl (e _ _ h)
  · exact .inr ⟨o, e _ _ h⟩
theorem same_new {H : Hp} {p : Addr} {o : HO} (h : H p = none) : Same H (upd H p o) := fun b x e => by
  rw [upd_ne (ne_of_none e h)]
  exact e
/-- an object unknown at the start may be changed -/
theorem same_mut {H H' : Hp} {p : Addr} {o : HO} (e : Same H H') (h : H p = none) : Same H (upd H' p o) := fun b x q => by
  rw [upd_ne (ne_of_none q h)]
  exact e _ _ q
theorem kp {H : Hp} {p b : Addr} {u : HO} (h : H b = some u) (np : H p = none) (o : HO) : upd H p o b = some u := (upd_ne (ne_of_none h np)).trans h
/-- list + list, the left one the script too -/
def rCatR : R2 := fun x y H Q => ∃ l b xs zs, x = .ref l ∧ y = .ref b ∧ Rd H l (.lst xs) ∧ Rd H b (.lst zs) ∧ xs.length + zs.length ≤ sizeLine ∧ ∀ p, H p = none → Q (.ref p) (upd H p (.lst (xs ++ zs)))
theorem op_catR {X : Cx} : OpR X (binaryOp .Add) rCatR := by
  rintro pins s σ H x y v u Q I rx ry ⟨l, b, xs, zs, rfl, rfl, hl, hb, hz, q⟩
  cases rx
  cases ry
  obtain ⟨z1, i1, n1, r1, e1⟩ := hl.ok I.hok
  obtain ⟨z2, i2, n2, r2, e2⟩ := hb.ok I.hok
  have l1 := r1.length
  have l2 := r2.length
  refine PySem.P.add_list e1 e2 ?_ (by rw [List.size_toArray, List.size_toArray]; omega)
  rw [show i1.toArray ++ i2.toArray = (i1 ++ i2).toArray by simp]
  exact ⟨.ref _, _, I.lnew (t' := s.toks) (r1.append r2) (by rw [List.length_append]; omega), rfl, q _ I.fresh⟩
/-- for i, x in enumerate(xs), xs a list that stands still -/
theorem for_enum {K : PySem.W.Frag} {a : Addr} {xs : List V} {g : TG} {tb : TS} {D : Ends} {σ : L2.St} {H : Hp} (G : Nat → L2.St → Hp → Prop) (start : G 0 σ H) (still : ∀ i σ H, G i σ H → SqL K H a xs)
    (turn : ∀ i x T σ H, xs[i]? = some x → G i σ H → H T = none → g (.ref T) σ (upd H T (.tup [.int (i : Nat), x])) fun σ2 H2 => tb { D with nx := G (i + 1), ct := G (i + 1), bk := D.nx } σ2 H2) (done : ∀ σ H, G xs.length σ H → D.nx σ H) :
    ∃ W : Nat → Nat → L2.St → Hp → Prop, (∃ m, W 0 m σ H) ∧ ∀ i m σ H, W i m σ H → ((Ite K a).stop i H ∧ D.nx σ H) ∨
      ((Ite K a).go i H ∧ ∃ N : L2.St → Hp → Prop, (∀ σ' H', N σ' H' → ∃ m', m' < m ∧ W (i + 1) m' σ' H') ∧ ∀ x H', (Ite K a).yld i H x H' → g x σ H' fun σ2 H2 => tb { D with nx := N, ct := N, bk := D.nx } σ2 H2) := by
  refine ⟨fun i m σ H => i + m = xs.length ∧ G i σ H, ⟨xs.length, Nat.zero_add _, start⟩, ?_⟩
  rintro i m σ H ⟨em, p⟩
  have st := still i σ H p
  cases m with
  | zero =>
    have ei : i = xs.length := by omega
    subst ei
    exact .inl ⟨⟨xs, st, Nat.le_refl _⟩, done σ H p⟩
  | succ m =>
    have hi : i < xs.length := by omega
    have gi : xs[i]? = some xs[i] := List.getElem?_eq_getElem hi
    refine .inr ⟨⟨xs, xs[i], st, gi⟩, G (i + 1), fun σ' H' p' => ⟨m, Nat.lt_succ_self m, by omega, p'⟩, ?_⟩
    rintro v H' ⟨T, x, rfl, nT, rfl, hx⟩
    exact turn i x T σ H (hx xs st) p nT
theorem ints_at {ns : List Int} {i : Nat} {x : V} (h : (ns.map V.int)[i]? = some x) : ∃ n, ns[i]? = some n ∧ x = .int n := by
  rw [List.getElem?_map] at h
  cases e : ns[i]? with
  | none => rw [e] at h; cases h
  | some n =>
    rw [e] at h
    exact ⟨n, rfl, (Option.some.inj h).symm⟩
theorem sz {n : Nat} (h : n ≤ 1000000) : n < sizeLine := Nat.lt_of_le_of_lt h (by decide)
/-- the law's promise -/
def spLaw : Sp := fun vs H Q _ => ∃ (a : Addr) (ns : List Int), vs = [.ref a] ∧ Rd H a (.lst (ns.map V.int)) ∧ ns.length ≤ 63 ∧ ∀ H', Q (.bl true) H'
theorem at0 {x y : V} : atI [x, y] 0 = some x := rfl
theorem at1 {x y : V} : atI [x, y] 1 = some y := rfl
/-- a number with a ladder -/
structure Rootn (n : Int) : Prop where
  two : 2 ≤ n
  most : n ≤ 100000
  ns : rt n * rt n ≠ n
theorem Rootn.good {n : Int} (h : Rootn n) : Good n (rt n) := good_of h.two h.ns
theorem Rootn.big {n : Int} (h : Rootn n) : n < 2 ^ 1000 := Int.lt_of_le_of_lt h.most (by decide +kernel)
theorem Rootn.r316 {n : Int} (h : Rootn n) : rt n ≤ 316 := by
  have g := h.good
  have m := h.most
  have lo := g.lo
  by_cases e : rt n ≤ 316
  · exact e
  · have := sq_le (show (0 : Int) ≤ 317 by decide) (show 317 ≤ rt n by omega)
    omega
/-! equal data -/
def dInts (ns : List Int) : List PyData := ns.map PyData.int
theorem lay_ints : ∀ ns : List Int, PyData.canLayAll0 (dInts ns) = true
  | [] => rfl
  | n :: r => by
    show (PyData.canLay0 (.int n) && PyData.canLayAll0 (dInts r)) = true
    rw [lay_ints r]
    rfl
theorem dpAll_ints {K : PySem.W.Frag} {H : Hp} : ∀ ns : List Int, DpAll K H (ns.map V.int) (dInts ns)
  | [] => .nil
  | n :: r => .cons (.int n) (dpAll_ints r)
theorem eqvAll_ints : ∀ xs ys : List Int, PyData.eqvAll (dInts xs) (dInts ys) = decide (xs = ys)
  | [], [] => rfl
  | [], _ :: _ => rfl
  | _ :: _, [] => rfl
  | x :: xs, y :: ys => by
    show (PyData.eqv (.int x) (.int y) && PyData.eqvAll (dInts xs) (dInts ys)) = _
    rw [eqvAll_ints xs ys]
    show ((x == y) && decide (xs = ys)) = _
    by_cases h : x = y
    · subst h
      rw [beq_self_eq_true, Bool.true_and]
      by_cases h2 : xs = ys
      · rw [h2, decide_eq_true rfl, decide_eq_true rfl]
      · rw [decide_eq_false h2, decide_eq_false (fun e => h2 (List.cons.inj e).2)]
    · rw [show (x == y) = false by simpa using h, Bool.false_and, decide_eq_false (fun e => h (List.cons.inj e).1)]
theorem eqv_ints (xs ys : List Int) : PyData.eqv (.list (dInts xs)) (.list (dInts ys)) = decide (xs = ys) := eqvAll_ints xs ys
theorem eqv_pairs (a b c d : Int) : PyData.eqv (.tuple [.int a, .int b]) (.tuple [.int c, .int d]) = decide (a = c ∧ b = d) := by
  show ((a == c) && ((b == d) && true)) = _
  by_cases h : a = c
  · by_cases h2 : b = d
    · rw [h, h2, beq_self_eq_true, beq_self_eq_true, decide_eq_true ⟨rfl, rfl⟩] <;> rfl
    · rw [show (b == d) = false by simpa using h2, decide_eq_false (fun e => h2 e.2), Bool.false_and, Bool.and_false]
  · rw [show (a == c) = false by simpa using h, decide_eq_false (fun e => h e.1), Bool.false_and]
theorem dp_ints {K : PySem.W.Frag} {H : Hp} {p : Addr} {ns : List Int} (h : SqL K H p (ns.map V.int)) : Dp K H (.ref p) (.list (dInts ns)) := .lst h (dpAll_ints ns)
theorem cut_neg1 (xs : List V) : cutV xs none (some (-1)) = xs.take (xs.length - 1) := by
  unfold cutV
  rw [HT.sIx_none, List.drop_zero, Nat.sub_zero]
  congr 1
  show (if (-1 : Int) < 0 then ((-1 : Int) + (xs.length : Int)).toNat else min (-1 : Int).toNat xs.length) = xs.length - 1
  rw [if_pos (by decide)]
  omega
theorem depth_ints : ∀ ns : List Int, PyData.depthAll (dInts ns) ≤ 1
  | [] => by simp [dInts, PyData.depthAll]
  | n :: r => by
    have := depth_ints r
    have e : dInts (n :: r) = PyData.int n :: dInts r := rfl
    rw [e]
    simp only [PyData.depthAll, PyData.depth]
    omega
theorem shaped_ints (ns : List Int) : SeqAt.shaped (.list (dInts ns)) = true := by
  unfold SeqAt.shaped
  rw [Bool.and_eq_true]
  refine ⟨lay_ints ns, decide_eq_true ?_⟩
  have := depth_ints ns
  simp only [PyData.depth]
  omega
/-! pairs -/
def pr (x y : Int) : HO := .tup [.int x, .int y]
theorem sq_pr {K : PySem.W.Frag} {H : Hp} {t : Addr} {x y : Int} (h : H t = some (pr x y)) : SqT K H t [.int x, .int y] := .inl (.inl h)
/-! a number mixed -/
def mixed (n k : Int) : Int := (n % 2147483647 + 7919 * k * k + 31 * k) * 48271 % 2147483647 * (69621 + 2 * k) % 2147483629
theorem mixed_ge (n k : Int) : 0 ≤ mixed n k := Int.emod_nonneg _ (by decide)
theorem mixed_lt (n k : Int) : mixed n k < 2147483629 := Int.emod_lt_of_pos _ (by decide)
def spMixed : Sp := fun vs H Q _ => ∃ n k : Int, vs = [.int n, .int k] ∧ 0 ≤ k ∧ k ≤ 1000 ∧ Q (.int (mixed n k)) H

end RL
namespace RL
open PySem PySem.Spec PyProof.Rows L2
/-! min(xs, key=f), f a def of the program's own that answers ints -/
def ItR (l it : Addr) (i : Nat) : HO := .ext fun h => h.IsListIter it l i
theorem itR_ok {P : Program} {w : World} {H : Hp} {h : Heap} {l it : Addr} {i : Nat} (e : h.IsListIter it l i) : ObjOk P w H h it (ItR l it i) := by
  obtain ⟨o, ho, _⟩ := id e
  refine ⟨e, ⟨o, ho⟩, fun h1 h2 q k => ?_⟩
  obtain ⟨o, a, b⟩ := q
  exact ⟨o, k _ a, b⟩
theorem sqL_same {K : PySem.W.Frag} {H H' : Hp} {l : Addr} {xs : List V} (e : Same H H') (h : SqL K H l xs) : SqL K H' l xs := by
  rcases h with h | h
  · exact .inl (same_rd e h)
  · exact .inr h
def rMinKey (K : PySem.W.Frag) (f : Addr) (sp : Sp) : List V → List V → Hp → VK → Prop := fun vs zs H Q => ∃ (l : Addr) (xs : List V) (kf : Nat → Int), vs = [.ref l] ∧ zs = [.ref f] ∧ SqL K H l xs ∧ 0 < xs.length ∧
  (∀ i x, xs[i]? = some x → ∀ H', Same H H' → sp [x] H' (fun v H2 => v = .int (kf i) ∧ H2 = H') E0) ∧ ∀ i x H', xs[i]? = some x → (∀ j, j < xs.length → kf i ≤ kf j) → Same H H' → Q x H'
section
variable {X : Cx} {pins : List (Addr × Obj)} {σ : L2.St} {k : Nat} {f : Addr} {fd : FuncData} {ps : List Str} {sp : Sp} {H : Hp} {l it S : Addr} {xs : List V} {kf : Nat → Int}
/-- the key of one thing -/
theorem key_run (F : FnOk X.prog X.w X.K X.mg X.base CX0 k f fd ps sp) (hr : Room (k + 1) X.A) (hb : Binds X.K fd ps []) {s : Shared} {H1 : Hp} (I : Inv X pins σ H1 s) {x : V} {v : Value} (r : RelV x v) {y : Int}
    (h : sp [x] H1 (fun u H2 => u = .int y ∧ H2 = H1) E0) : wpAny (model X.prog X.w) X.A.in1 (call (.ref f) [v]) (fun u s' => (∃ t, u = .int y t) ∧ Inv X pins σ H1 s') (fun _ _ => False) s := by
  have hl : ([v] ++ ([] : List Value)).length = ps.length := F.len _ _ _ _ h
  refine wpAny_call (codeAny_mono (F.run X.A.in1 X.stack s H1 ⟨[v], []⟩ [v] [x] _ E0 hr.in1 I.env0.in1 (hb s [v] I.kIn hl) (.cons r .nil) h) fun r s' hq => ?_)
  match r, hq with
  | .error _, hq => exact False.elim hq
  | .ok .next, hq => exact False.elim hq
  | .ok .brk, hq => exact False.elim hq
  | .ok .cont, hq => exact False.elim hq
  | .ok (.ret u), hq =>
    obtain ⟨v', H', I', r', e1, e2⟩ := I.after hq
    subst e1
    subst e2
    exact ⟨r', I'⟩
theorem low_loop (F : FnOk X.prog X.w X.K X.mg X.base CX0 k f fd ps sp) (hr : Room (k + 1) X.A) (hb : Binds X.K fd ps []) (hl : SqL X.K H l xs) (hli : l ≠ it) (hSi : S ≠ it) (ni : H it = none) (nS : H S = none) (hi0 : X.s_0.heap.objs.size ≤ it)
    (key : ∀ i x, xs[i]? = some x → ∀ H', Same H H' → sp [x] H' (fun v H2 => v = .int (kf i) ∧ H2 = H') E0) {R : Result → Shared → Prop}
    (hR : ∀ i x v s' H', xs[i]? = some x → RelV x v → (∀ j, j < xs.length → kf i ≤ kf j) → Same H H' → Inv X pins σ H' s' → R (.ok (.ret v)) s') :
    ∀ (r j i : Nat) (s : Shared) (H1 : Hp) (xb : V), xs.length - (j + 1) = r → j + 1 ≤ xs.length → Inv X pins σ H1 s → Same H H1 → H1 it = some (ItR l it (j + 1)) → H1 S = some (.lst [xb, .int (kf i)]) → xs[i]? = some xb →
      (∀ j', j' ≤ j → kf i ≤ kf j') → codeAny (model X.prog X.w) X.A (.builtin "min.loop" ⟨[.ref it, .ref f, .ref S], []⟩) R s := by
  have nm : (toString "min" ++ toString ".loop" : String) = "min.loop" := by decide
  intro r
  induction r with
  | zero =>
    intro j i s H1 xb hr0 hj I sm hit hS hxb best
    obtain ⟨its, rv, pl, hz⟩ := I.list (sqL_same sm hl)
    have hlen := rv.length
    obtain ⟨_, its2, c, rv2, hSo⟩ := I.hok S _ hS
    obtain ⟨vb, vk, rfl, rb, tk, rfl⟩ := vals2 rv2
    have stI := (I.hok it _ hit).1
    have W := Walks.list (prog := X.prog) (w := X.w) (A := X.A.in1) hr.hd it l hli its.toArray
    have hsz : its.toArray.size = j + 1 := by
      rw [List.size_toArray]
      omega
    rw [hsz] at W
    refine codeAny_builtin PySem.F.entry_min_loop ?_
    rw [Around.under_plainId PySem.F.plain_min_loop _]
    show wpAny _ X.A.in1 (seqItems? (.ref S) >>= _) _ _ _
    refine wpAny_bind (wpAny_seqItems hSo rfl (wpAny_bind (wpAny_tryCatch (W.done _ _ _ ⟨stI, pl.isList⟩ fun h' tk' hk => ?_))))
    have I0 := ItX.inv_drop I hit
    obtain ⟨f1, f2, _, f4, f5, f6⟩ := ItX.inv_fp I hit hi0
    have I1 := I0.turned (h' := h') (t' := tk') (fun b o nb z => hk b o (by simpa using nb) z) f1 f2 f4 f5 f6
    have hS1 : ItX.dropH H1 it S = some (.lst [xb, .int (kf i)]) := (ItX.dropH_ne hSi).trans hS
    have hSo1 := hk S _ (by simpa using hSi) hSo
    have mu : Mut (ItX.dropH H1 it S) := by rw [hS1]; trivial
    obtain ⟨ep, hS2⟩ : ∃ ep, (h'.update S (Obj.mapSeq fun _ => (#[] : Array Value))).get? S = some (seqObj "list" #[] ep) := ⟨_, get?_update_seq hSo1 fun _ => #[]⟩
    refine wpAny_bind (wpAny_updateSeq hSo1 rfl (wpAny_bind (wpAny_letGo (wpAny_pure ?_))))
    refine hR i xb vb _ (upd (ItX.dropH H1 it) S (.lst [])) hxb rb (fun j' hj' => best j' (by omega)) (same_mut (fun b x e => ?_) nS)
      (I1.write (x := S) (e := S) (t' := tk') mu (.inl rfl) (fun b u nb z => ((Heap.SameBut.update h' S _).2 b nb).trans z) ⟨_, hS2⟩ ⟨Nat.zero_le _, [], ep, .nil, hS2⟩)
    exact (ItX.dropH_ne (ne_of_none e ni)).trans (sm b x e)
  | succ r ih =>
    intro j i s H1 xb hr0 hj I sm hit hS hxb best
    have hlt : j + 1 < xs.length := by omega
    obtain ⟨its, rv, pl, hz⟩ := I.list (sqL_same sm hl)
    have hlen := rv.length
    obtain ⟨_, its2, c, rv2, hSo⟩ := I.hok S _ hS
    obtain ⟨vb, vk, rfl, rb, tb, rfl⟩ := vals2 rv2
    have stI := (I.hok it _ hit).1
    have W := Walks.list (prog := X.prog) (w := X.w) (A := X.A.in1) hr.hd it l hli its.toArray
    refine codeAny_builtin PySem.F.entry_min_loop ?_
    rw [Around.under_plainId PySem.F.plain_min_loop _]
    show wpAny _ X.A.in1 (seqItems? (.ref S) >>= _) _ _ _
    refine wpAny_bind (wpAny_seqItems hSo rfl (wpAny_bind (wpAny_tryCatch (W.item (j + 1) _ _ _ (by rw [List.size_toArray]; omega) ⟨stI, pl.isList⟩ fun v h' tk' hP hst hk => ?_))))
    have mu : Mut (H1 it) := by rw [hit]; trivial
    obtain ⟨oi, hoi, _⟩ := id hst.1
    have I1 := I.write (x := it) (e := it) (o := ItR l it (j + 2)) (t' := tk') mu (.inl rfl) (fun b o nb z => hk b o (by simpa using nb) z) ⟨oi, hoi⟩ (itR_ok hst.1)
    have sm1 : Same H (upd H1 it (ItR l it (j + 2))) := same_mut sm ni
    obtain ⟨x, hx⟩ : ∃ x, xs[j + 1]? = some x := ⟨_, List.getElem?_eq_getElem hlt⟩
    obtain ⟨v', hv', rx⟩ := rv.get hx
    have hv : its[j + 1]? = some v := by simpa using hP
    rw [hv] at hv'
    cases hv'
    refine wpAny_bind (wpAny_tryCatch (wpAny_holding (wpAny_mono (key_run F hr hb I1 rx (key (j + 1) x hx _ sm1)) (fun u s2 he => ?_) fun _ _ hF => hF.elim)))
    obtain ⟨⟨tn, rfl⟩, I2⟩ := he
    refine wpAny_bind (wpAny_tryCatch (wpAny_holding (wpAny_bind (CmpOf.ints_lt (prog := X.prog) (w := X.w) (A := X.A.in1) (P := fun i v => ∃ t, v = .int (kf i) t) kf (fun i v h => h) (j + 1) i _ _ _ _ _ ⟨tn, rfl⟩ ⟨tb, rfl⟩
      (wpAny_bind (wpAny_holding (wpAny_truthy_bool (wpAny_bind (wpAny_letGo (wpAny_pure ?_))))))))))
    have hS2 : upd H1 it (ItR l it (j + 2)) S = some (.lst [xb, .int (kf i)]) := (upd_ne hSi).trans hS
    have hit2 : upd H1 it (ItR l it (j + 2)) it = some (ItR l it (j + 2)) := upd_same
    generalize upd H1 it (ItR l it (j + 2)) = H2 at *
    obtain ⟨_, its3, c3, rv3, hSo3⟩ := I2.hok S _ hS2
    obtain ⟨vb3, vk3, rfl, rb3, tk3, rfl⟩ := vals2 rv3
    by_cases less : kf (j + 1) < kf i
    · simp only [less, decide_true, if_true]
      obtain ⟨ep, hS3⟩ : ∃ ep, (s2.heap.update S (Obj.mapSeq fun _ => #[v, .int (kf (j + 1)) tn])).get? S = some (seqObj "list" #[v, .int (kf (j + 1)) tn] ep) := ⟨_, get?_update_seq hSo3 fun _ => #[v, .int (kf (j + 1)) tn]⟩
      refine wpAny_bind (wpAny_updateSeq hSo3 rfl (wpAny_bind (wpAny_letGo ?_)))
      rw [nm]
      have mu2 : Mut (H2 S) := by rw [hS2]; trivial
      refine wpAny_pure ⟨plainId_quiet PySem.F.plain_min_loop _, ih (j + 1) (j + 1) _ (upd H2 S (.lst [x, .int (kf (j + 1))])) x (by omega) (by omega)
        (I2.write (x := S) (e := S) (t' := s2.toks) mu2 (.inl rfl) (fun b u nb z => ((Heap.SameBut.update s2.heap S _).2 b nb).trans z) ⟨_, hS3⟩ ⟨(by decide : 2 ≤ sizeLine), _, ep, .cons rx (.cons ⟨tn, rfl⟩ .nil), hS3⟩)
        (same_mut sm1 nS) ((upd_ne hSi.symm).trans hit2) upd_same hx fun j' hj' => ?_⟩
      by_cases e : j' = j + 1
      · rw [e]
        exact Int.le_refl _
      · have := best j' (by omega)
        omega
    · simp only [less, decide_false, Bool.false_eq_true, if_false]
      refine wpAny_bind (wpAny_letGo ?_)
      rw [nm]
      refine wpAny_pure ⟨plainId_quiet PySem.F.plain_min_loop _, ih (j + 1) i _ H2 xb (by omega) (by omega) I2 sm1 hit2 hS2 hxb fun j' hj' => ?_⟩
      by_cases e : j' = j + 1
      · rw [e]
        omega
      · exact best j' (by omega)
/-- min(xs, key=f) -/
theorem call_minKey (F : FnOk X.prog X.w X.K X.mg X.base CX0 k f fd ps sp) (hr : Room (k + 1) X.A) (hb : Binds X.K fd ps []) : CallRK X (.builtin "min") [Str.ofString "key"] (rMinKey X.K f sp) := by
  intro pins s σ H vs zs us ws Q I rv0 rz h
  obtain ⟨l, xs, kf, rfl, rfl, hl, hne, key, q⟩ := h
  obtain rfl := Vals.ref1 rv0
  obtain rfl := Vals.ref1 rz
  have nm : (toString "min" ++ toString ".loop" : String) = "min.loop" := by decide
  obtain ⟨its, rv, pl, hz⟩ := I.list hl
  have hlen := rv.length
  obtain ⟨ol, hol, _⟩ := id pl.isList
  have hll : l < s.heap.objs.size := Heap.lt_size hol
  refine kmk_tree PySem.F.kind_min PySem.F.plain_min PySem.F.entry_min (kmk_min_key _ _) ?_
  show wpAny _ X.A.in1 (Builtin.Builtins.bindParams "min" ["key", "default"] 0 ⟨[], [(Str.ofString "key", .ref f)]⟩ >>= _) _ _ s
  refine wpAny_bind (wpAny_of_eq (show Builtin.Builtins.bindParams "min" ["key", "default"] 0 ⟨[], [(Str.ofString "key", .ref f)]⟩ = pure [some (.ref f), none] from rfl) (wpAny_bind (wpAny_pure ?_)))
  refine wpAny_bind (wpAny_pyIter_list pl.isList (wpAny_bind (wpAny_newList ?_ (Nat.zero_le _))))
  rw [nm]
  refine wpAny_pure ⟨plainId_quiet PySem.F.plain_min_loop _, ?_⟩
  -- the iterator, the kept pair
  have ni := I.hok.fresh (Nat.le_refl s.heap.objs.size)
  have I1 := I.laid (h' := s.heap.push { cls := .type "list_iterator", data := .fields #[.ref l, .int 0 0] }) (o := ItR l s.heap.objs.size 0) (t' := s.toks) (fun b u e => Heap.get?_push_of_some _ e) (Nat.le_refl _) (itR_ok ⟨_, Heap.get?_push_size _ rfl, rfl, rfl⟩)
  have sI : (s.heap.push { cls := .type "list_iterator", data := .fields #[.ref l, .int 0 0] }).objs.size = s.heap.objs.size + 1 := size_push' ..
  have hli : l ≠ s.heap.objs.size := Nat.ne_of_lt hll
  have hab : X.s_0.heap.objs.size ≤ s.heap.objs.size := I.sz
  have nS : H (s.heap.objs.size + 1) = none := I.hok.fresh (Nat.le_succ _)
  have hSi : s.heap.objs.size + 1 ≠ s.heap.objs.size := Nat.succ_ne_self _
  have hpush : ((s.heap.push { cls := .type "list_iterator", data := .fields #[.ref l, .int 0 0] }).push { cls := .type "list", data := .seq ([] : List Value).toArray }).get? (s.heap.objs.size + 1) = some { cls := .type "list", data := .seq ([] : List Value).toArray } := by
    rw [← sI]
    exact Heap.get?_push_size _ rfl
  have I2 := I1.laid (a := s.heap.objs.size + 1) (h' := (s.heap.push { cls := .type "list_iterator", data := .fields #[.ref l, .int 0 0] }).push { cls := .type "list", data := .seq ([] : List Value).toArray }) (o := .lst []) (t' := s.toks) (fun b u e => Heap.get?_push_of_some _ e)
    (Nat.le_of_eq sI) ⟨Nat.zero_le _, [], 0, .nil, hpush⟩
  have sm2 : Same H (upd (upd H s.heap.objs.size (ItR l s.heap.objs.size 0)) (s.heap.objs.size + 1) (.lst [])) := same_mut (same_mut (fun _ _ e => e) ni) nS
  have hS2 : (upd (upd H s.heap.objs.size (ItR l s.heap.objs.size 0)) (s.heap.objs.size + 1) (.lst [])) (s.heap.objs.size + 1) = some (.lst []) := upd_same
  have hit2 : (upd (upd H s.heap.objs.size (ItR l s.heap.objs.size 0)) (s.heap.objs.size + 1) (.lst [])) s.heap.objs.size = some (ItR l s.heap.objs.size 0) := (upd_ne hSi.symm).trans upd_same
  rw [show (s.heap.push { cls := .type "list_iterator", data := .fields #[.ref l, .int 0 0] }).objs.size = s.heap.objs.size + 1 from sI]
  generalize upd (upd H s.heap.objs.size (ItR l s.heap.objs.size 0)) (s.heap.objs.size + 1) (.lst []) = H2 at *
  generalize (s.heap.push { cls := .type "list_iterator", data := .fields #[.ref l, .int 0 0] }).push { cls := .type "list", data := .seq ([] : List Value).toArray } = h2 at *
  generalize s.heap.objs.size + 1 = S at *
  generalize s.heap.objs.size = it at *
  -- the first turn
  obtain ⟨its2, rv2, pl2, _⟩ := I2.list (sqL_same sm2 hl)
  have hlen2 := rv2.length
  have W := Walks.list (prog := X.prog) (w := X.w) (A := X.A.in1) hr.hd it l hli its2.toArray
  refine codeAny_builtin PySem.F.entry_min_loop ?_
  rw [Around.under_plainId PySem.F.plain_min_loop _]
  show wpAny _ X.A.in1 (seqItems? (.ref S) >>= _) _ _ _
  refine wpAny_bind (wpAny_seqItems hpush rfl (wpAny_bind (wpAny_tryCatch (W.item 0 _ _ _ (by rw [List.size_toArray]; omega) ⟨(I2.hok it _ hit2).1, pl2.isList⟩ fun v h' tk' hP hst hk => ?_))))
  have mu : Mut (H2 it) := by rw [hit2]; trivial
  obtain ⟨oi, hoi, _⟩ := id hst.1
  have I3 := I2.write (x := it) (e := it) (o := ItR l it 1) (t' := tk') mu (.inl rfl) (fun b o nb z => hk b o (by simpa using nb) z) ⟨oi, hoi⟩ (itR_ok hst.1)
  have sm3 : Same H (upd H2 it (ItR l it 1)) := same_mut sm2 ni
  obtain ⟨x, hx⟩ : ∃ x, xs[0]? = some x := ⟨_, List.getElem?_eq_getElem hne⟩
  obtain ⟨v', hv', rx⟩ := rv2.get hx
  have hv : its2[0]? = some v := by simpa using hP
  rw [hv] at hv'
  cases hv'
  refine wpAny_bind (wpAny_tryCatch (wpAny_holding (wpAny_mono (key_run F hr hb I3 rx (key 0 x hx _ sm3)) (fun u s2 he => ?_) fun _ _ hF => hF.elim)))
  obtain ⟨⟨tn, rfl⟩, I4⟩ := he
  have hS4 : upd H2 it (ItR l it 1) S = some (.lst []) := (upd_ne hSi).trans hS2
  have hit4 : upd H2 it (ItR l it 1) it = some (ItR l it 1) := upd_same
  generalize upd H2 it (ItR l it 1) = H4 at *
  obtain ⟨_, its3, c3, rv3, hSo3⟩ := I4.hok S _ hS4
  cases rv3
  obtain ⟨ep, hS5⟩ : ∃ ep, (s2.heap.update S (Obj.mapSeq fun _ => #[v, .int (kf 0) tn])).get? S = some (seqObj "list" #[v, .int (kf 0) tn] ep) := ⟨_, get?_update_seq hSo3 fun _ => #[v, .int (kf 0) tn]⟩
  show wpAny _ _ (updateSeq S (fun _ => #[v, .int (kf 0) tn]) >>= _) _ _ _
  refine wpAny_bind (wpAny_updateSeq hSo3 rfl ?_)
  rw [nm]
  have mu4 : Mut (H4 S) := by rw [hS4]; trivial
  refine wpAny_pure ⟨plainId_quiet PySem.F.plain_min_loop _, low_loop F hr hb hl hli hSi ni nS hab key (fun i x v s' H' e1 r1 b1 s1 I' => ?_) _ 0 0 _ (upd H4 S (.lst [x, .int (kf 0)])) x rfl hne
    (I4.write (x := S) (e := S) (t' := s2.toks) mu4 (.inl rfl) (fun b u nb z => ((Heap.SameBut.update s2.heap S _).2 b nb).trans z) ⟨_, hS5⟩ ⟨(by decide : 2 ≤ sizeLine), _, ep, .cons rx (.cons ⟨tn, rfl⟩ .nil), hS5⟩)
    (same_mut sm3 nS) ((upd_ne hSi.symm).trans hit4) upd_same hx fun j' hj' => ?_⟩
  · exact ⟨x, H', I', r1, q i x H' e1 b1 s1⟩
  · have e : j' = 0 := by omega
    rw [e]
    exact Int.le_refl _
end
end RL
namespace RL
open PySem PySem.Spec PyProof.Rows L2
/-! the head's facts over a part of the heap in which no list stands (so the script is no part of it) -/
def lstO (o : Obj) : Bool := match o.cls with
  | .type n => decide (n = "list")
  | _ => false
def noL (g : Addr → Option Obj) (a : Addr) : Bool := match g a with
  | some o => !lstO o
  | none => true
def frN (g : Addr → Option Obj) (n : Nat) : PySem.W.Frag := He.frG g ((He.asD g n).filter (noL g))
def NoL (K : PySem.W.Frag) : Prop := ∀ a o, K.lookup a = some o → lstO o = false
theorem frG_mem {g : Addr → Option Obj} {a : Addr} {o : Obj} : ∀ as : List Addr, (He.frG g as).lookup a = some o → a ∈ as
  | [], e => nomatch (show (none : Option Obj) = some o from e)
  | b :: r, e => by
    unfold He.frG at e
    rw [List.filterMap_cons] at e
    cases hb : g b with
    | none =>
      rw [hb] at e
      exact List.mem_cons_of_mem _ (frG_mem r e)
    | some ob =>
      rw [hb] at e
      by_cases q : a = b
      · rw [q]
        exact List.mem_cons_self
      · have q2 : (a == b) = false := by simpa using q
        have e2 : (match a == b with | true => some ob | false => (He.frG g r).lookup a) = some o := e
        rw [q2] at e2
        exact List.mem_cons_of_mem _ (frG_mem r e2)
theorem frN_no (g : Addr → Option Obj) (n : Nat) : NoL (frN g n) := fun a o e => by
  have h1 := (List.mem_filter.mp (frG_mem _ e)).2
  unfold noL at h1
  rw [He.frG_at _ e] at h1
  simpa using h1
theorem rd_of {K : PySem.W.Frag} {H : Hp} {a : Addr} {xs : List V} (h : NoL K) (q : SqL K H a xs) : Rd H a (.lst xs) := by
  rcases q with q | ⟨o, its, n, lk, hc, _⟩
  · exact q
  · have z := h a o lk
    unfold lstO at z
    rw [hc] at z
    exact absurd z (by decide)
def obN (n : Nat) (fa : List He.Fa) (fn : List He.DefD) (g : Addr → Option Obj) : He.AlD := He.obsD fa fn (frN g n)
def hookN (n : Nat) (fa : List He.Fa) (fn : List He.DefD) : PySem.W.Hook where
  α := He.AlD
  obs := fun s => obN n fa fn s.heap.get?
  val := fun _ => He.valD fn
  says := fun _ h => ∃ K : PySem.W.Frag, K.In h ∧ NoL K ∧ He.SaysD fa fn K
  of := fun _ s e => ⟨frN s.heap.get? n, He.frG_in, frN_no _ _, e⟩
  keeps := fun _ _ _ ⟨K, i, z, c⟩ k => ⟨K, i.keeps k, z, c⟩
theorem obN_eq {n : Nat} {fa : List He.Fa} {fn : List He.DefD} {g : Addr → Option Obj} {s : Shared} (h : ∀ a, g a = s.heap.get? a) : obN n fa fn g = (hookN n fa fn).obs s := by
  rw [show g = s.heap.get? from funext h] <;> rfl
theorem toFun {K : PySem.W.Frag} {x : Str} {st : Stmt} {f : Addr} {fd : FuncData} (F : FunD K x x (defArgs st) (defBody st) (defScope st) [] [] f fd) : Fun K x x st f fd := by
  obtain ⟨oc, od, dV, kV, doc, pm, an, cdv, ct, osl, e, lk, hc, hd, _⟩ := F.ex
  rcases hd with ⟨_, hd⟩ | ⟨hd, _⟩
  · rw [hd] at e
    exact ⟨⟨oc, od, kV, doc, pm, an, cdv, ct, osl, e, lk, hc⟩, F.kp⟩
  · exact absurd rfl hd
end RL
namespace RL
open PySem PySem.Spec PyProof.Rows L2
def topS (i : Nat) : Stmt := PySem.Challenge.pw_rootladder_k09_whole_reached_worths.main.body.getD i (.Pass ⟨0, 0, 0, 0⟩)
abbrev s_is_number : Stmt := topS 6
abbrev s_need_number : Stmt := topS 7
abbrev s_rooted : Stmt := topS 8
abbrev s_need_root : Stmt := topS 9
abbrev s_l_mixed : Stmt := topS 22
abbrev s_l_root : Stmt := topS 24
abbrev s_l_number_by : Stmt := topS 25
abbrev s_round_of : Stmt := topS 12
abbrev s_ladder : Stmt := topS 13
abbrev s_fractions_of : Stmt := topS 14
abbrev s_fractions : Stmt := topS 15
abbrev s_worth_of : Stmt := topS 17
abbrev s_by_size : Stmt := topS 19
abbrev s_reach : Stmt := topS 20
abbrev s_l_is_pair : Stmt := topS 26
abbrev s_l_tried : Stmt := topS 28
abbrev s_l_told_by : Stmt := topS 29
abbrev s_l_on_ladder : Stmt := topS 30
abbrev s_law : Stmt := topS 31
theorem sc_is_number : FnScope ["thing"] ["thing"] (defScope s_is_number) := ⟨rfl, rfl, rfl, by decide +kernel, rfl, by decide +kernel, by decide +kernel⟩
theorem sc_need_number : FnScope ["thing", "least", "most"] ["thing", "least", "most"] (defScope s_need_number) := ⟨rfl, rfl, rfl, by decide +kernel, rfl, by decide +kernel, by decide +kernel⟩
theorem sc_rooted : FnScope ["number", "low", "high", "half"] ["number"] (defScope s_rooted) := ⟨rfl, rfl, rfl, by decide +kernel, rfl, by decide +kernel, by decide +kernel⟩
theorem sc_need_root : FnScope ["number"] ["number"] (defScope s_need_root) := ⟨rfl, rfl, rfl, by decide +kernel, rfl, by decide +kernel, by decide +kernel⟩
theorem sc_l_mixed : FnScope ["_law_number_here", "_law_k"] ["_law_number_here", "_law_k"] (defScope s_l_mixed) := ⟨rfl, rfl, rfl, by decide +kernel, rfl, by decide +kernel, by decide +kernel⟩
theorem sc_l_root : FnScope ["_law_number_here", "_law_low", "_law_high", "_law_half"] ["_law_number_here"] (defScope s_l_root) := ⟨rfl, rfl, rfl, by decide +kernel, rfl, by decide +kernel, by decide +kernel⟩
theorem sc_l_number_by : FnScope ["_law_number_here", "_law_most", "_law_found", "_law_side"] ["_law_number_here", "_law_most"] (defScope s_l_number_by) := ⟨rfl, rfl, rfl, by decide +kernel, rfl, by decide +kernel, by decide +kernel⟩
theorem sc_round_of : FnScope ["number", "whole", "taken", "over", "found", "quotient"] ["number"] (defScope s_round_of) := ⟨rfl, rfl, rfl, by decide +kernel, rfl, by decide +kernel, by decide +kernel⟩
theorem sc_ladder : FnScope ["number"] ["number"] (defScope s_ladder) := ⟨rfl, rfl, rfl, by decide +kernel, rfl, by decide +kernel, by decide +kernel⟩
theorem sc_fractions_of : FnScope ["number", "many", "parts", "ahead", "here", "found", "turn", "quotient", "after"] ["number", "many"] (defScope s_fractions_of) := ⟨rfl, rfl, rfl, by decide +kernel, rfl, by decide +kernel, by decide +kernel⟩
theorem sc_fractions : FnScope ["number", "many"] ["number", "many"] (defScope s_fractions) := ⟨rfl, rfl, rfl, by decide +kernel, rfl, by decide +kernel, by decide +kernel⟩
theorem sc_worth_of : FnScope ["number", "pair"] ["number", "pair"] (defScope s_worth_of) := ⟨rfl, rfl, rfl, by decide +kernel, rfl, by decide +kernel, by decide +kernel⟩
theorem sc_by_size : FnScope ["pair"] ["pair"] (defScope s_by_size) := ⟨rfl, rfl, rfl, by decide +kernel, rfl, by decide +kernel, by decide +kernel⟩
theorem sc_reach : FnScope ["number", "told", "some", "pair", "own", "by"] ["number", "told"] (defScope s_reach) := ⟨rfl, rfl, rfl, by decide +kernel, rfl, by decide +kernel, by decide +kernel⟩
theorem sc_l_is_pair : FnScope ["_law_found", "_law_due", "_law_one"] ["_law_found", "_law_due"] (defScope s_l_is_pair) := ⟨rfl, rfl, rfl, by decide +kernel, rfl, by decide +kernel, by decide +kernel⟩
theorem sc_l_tried : FnScope ["_law_number_here", "_law_more", "_law_most", "_law_side", "_law_square", "_law_root_here"] ["_law_number_here", "_law_more", "_law_most"] (defScope s_l_tried) := ⟨rfl, rfl, rfl, by decide +kernel, rfl, by decide +kernel, by decide +kernel⟩
theorem sc_l_told_by : FnScope ["_law_number_here", "_law_more", "_law_most", "_law_told", "_law_above", "_law_below", "_law_by"] ["_law_number_here", "_law_more"] (defScope s_l_told_by) := ⟨rfl, rfl, rfl, by decide +kernel, rfl, by decide +kernel, by decide +kernel⟩
theorem sc_l_on_ladder : FnScope ["_law_number_here", "_law_pair", "_law_above", "_law_below"] ["_law_number_here", "_law_pair"] (defScope s_l_on_ladder) := ⟨rfl, rfl, rfl, by decide +kernel, rfl, by decide +kernel, by decide +kernel⟩
theorem sc_law : FnScope ["_law_script", "_law_k", "_law_cell", "_law_more", "_law_number_here", "_law_told", "_law_found"] ["_law_script"] (defScope s_law) := ⟨rfl, rfl, rfl, by decide +kernel, rfl, by decide +kernel, by decide +kernel⟩
/-- built-in names are no names of the module; its numbers -/
structure Tb (mg : Str → Option Value) : Prop where
  b_isinstance : mg "isinstance" = none
  b_int : mg "int" = none
  b_bool : mg "bool" = none
  b_tuple : mg "tuple" = none
  b_len : mg "len" = none
  b_enumerate : mg "enumerate" = none
  b_range : mg "range" = none
  b_all : mg "all" = none
  b_min : mg "min" = none
  b_abs : mg "abs" = none
  g_MOST : ∃ t, mg "MOST" = some (.int 100000 t)
  g_MOST_FRACTIONS : ∃ t, mg "MOST_FRACTIONS" = some (.int 200 t)
/-! rootladder.roots -/
section
variable {P : Program} {w : World} {K : PySem.W.Frag} {mg : Str → Option Value} {base : Heap}
/-- is_number, of a number -/
def spIsNum : Sp := fun vs H Q _ => ∃ n : Int, vs = [.int n] ∧ Q (.bl true) H
theorem ok_is_number {f : Addr} {fd : FuncData} (F : Fun K "is_number" "is_number" s_is_number f fd) (T : Tb mg) : FnOk P w K mg base CX0 1 f fd ["thing"] spIsNum := by
  refine F.ok sc_is_number (fun vs H Q E h => ?_) (fun cdv A outer s H vs Q E hr h => ?_)
  · obtain ⟨n, rfl, _⟩ := h
    rfl
  · obtain ⟨n, rfl, q⟩ := h
    refine ⟨_, (pss_one (ps_ret (pe_and (pe_callB (id := "isinstance") (isi_rule (K := K) rfl) (by rfl) T.b_isinstance (by decide +kernel) (pa_cons (pv 0) (pa_cons (pe_bltn (v := .ty "int") (by rfl) T.b_int (by decide +kernel) rfl) pa_nil))) (pe_one (pe_not (pe_callB (id := "isinstance") (isi_rule (K := K) rfl) (by rfl) T.b_isinstance (by decide +kernel) (pa_cons (pv 0) (pa_cons (pe_bltn (v := .ty "bool") (by rfl) T.b_bool (by decide +kernel) rfl) pa_nil)))))))), ?_⟩
    refine ⟨_, rfl, _, _, _, _, _, rfl, .ty _, ty_int, kit_ii, _, rfl, ifT rfl ?_⟩
    exact ⟨_, rfl, _, _, _, _, _, rfl, .ty _, ty_int, kit_ib, _, rfl, q⟩
/-- need_number, of a number within its bounds -/
def spNeed : Sp := fun vs H Q _ => ∃ (n l : Int) (m : V), vs = [.int n, .int l, m] ∧ l ≤ n ∧ (m = .non ∨ ∃ k : Int, m = .int k ∧ n ≤ k) ∧ Q .non H
theorem ok_need_number {f : Addr} {fd : FuncData} (F : FunD K "need_number" "need_number" (defArgs s_need_number) (defBody s_need_number) (defScope s_need_number) [.non] [] f fd) (T : Tb mg)
    (D_is_number : Dn P w K mg base "is_number" 1 ["thing"] [] spIsNum) : FnOk P w K mg base CX0 2 f fd ["thing", "least", "most"] spNeed := by
  refine F.ok sc_need_number (fun vs H Q E h => ?_) (fun cdv A outer s H vs Q E hr h => ?_)
  · obtain ⟨n, l, m, rfl, _⟩ := h
    rfl
  · obtain ⟨n, l, m, rfl, h1, h2, q⟩ := h
    refine ⟨_, PSs.nox (pss_one (ps_if (PW.pt (pw_or (pt_not (pt_val (pe_callD D_is_number hr (by decide) (by rfl) (pa_cons (pv 0) pa_nil)))) (pw_or (pt_cmpR op_lt (pv 0) (pv 1) (nomark _)) (pw_or1 (PW.pt (pw_and (pt_cmpR op_notN (pv 2) pe_non (nomark _)) (pw_and1 (pt_cmpR op_gt (pv 0) (pv 2) (nomark _)))))))))
        (pss_one ps_never) pss_nil)), ?_⟩
    refine ⟨_, rfl, n, rfl, ⟨_, rfl, ifF rfl ?_⟩⟩
    refine ⟨_, rfl, _, rfl, _, _, rfl, rfl, _, rfl, ifF (decide_eq_false (by omega)) ?_⟩
    rcases h2 with rfl | ⟨k, rfl, h2⟩
    · exact ⟨_, rfl, rfl, _, rfl, ifF rfl (ifF rfl q)⟩
    · refine ⟨_, rfl, rfl, _, rfl, ifT rfl ?_⟩
      exact ⟨_, rfl, _, rfl, _, _, rfl, rfl, _, rfl, ifF (decide_eq_false (by omega)) q⟩
/-- rooted -/
def spRooted : Sp := fun vs H Q _ => ∃ n : Int, vs = [.int n] ∧ 0 ≤ n ∧ n < 2 ^ 1000 ∧ Q (.int (rt n)) H
theorem big_of {x n : Int} (h0 : 0 ≤ x) (h : x ≤ 4 * n + 1) (hn : n < 2 ^ 1000) : x.natAbs < 2 ^ 1003 := by
  have e : (2 : Int) ^ 1003 = 8 * 2 ^ 1000 := by decide +kernel
  have e2 : ((2 ^ 1003 : Nat) : Int) = (2 : Int) ^ 1003 := by decide +kernel
  have : (1 : Int) ≤ 2 ^ 1000 := by decide +kernel
  generalize (2 : Int) ^ 1000 = B at *
  generalize (2 : Int) ^ 1003 = C at *
  generalize (2 : Nat) ^ 1003 = D at *
  omega
theorem le_sq {x : Int} (h : 0 ≤ x) : x ≤ x * x := by
  by_cases e : x = 0
  · rw [e]; decide
  · have := Int.mul_le_mul_of_nonneg_right (show 1 ≤ x by omega) h
    omega
theorem ok_rooted {f : Addr} {fd : FuncData} (F : Fun K "rooted" "rooted" s_rooted f fd) : FnOk P w K mg base CX0 1 f fd ["number"] spRooted := by
  refine F.ok sc_rooted (fun vs H Q E h => ?_) (fun cdv A outer s H vs Q E hr h => ?_)
  · obtain ⟨n, rfl, _⟩ := h
    rfl
  · obtain ⟨n, rfl, h0, hb, q⟩ := h
    refine ⟨_, (pss_cons (ps_set (i := 1) sc_rooted.nd rfl (.inl rfl) pe_int)
      (pss_cons (ps_set (i := 2) sc_rooted.nd rfl (.inl rfl) pe_int)
      (pss_cons (ps_while PassesOwn.never (pt_cmpR op_le (pe_op op_mulX (pv 2) (pv 2)) (pv 0) (nomark _))
        (pss_one (ps_set (i := 2) sc_rooted.nd rfl (.inl rfl) (pe_op op_mulX (pv 2) pe_int))))
      (pss_cons (ps_while PassesOwn.never (pt_cmpR op_gt (pe_op op_sub (pv 2) (pv 1)) pe_int (nomark _))
        (pss_cons (ps_set (i := 3) sc_rooted.nd rfl (.inl rfl) (pe_op op_fdivW (pe_op op_add (pv 1) (pv 2)) pe_int))
      (pss_one (ps_if (pt_cmpR op_le (pe_op op_mulX (pv 3) (pv 3)) (pv 0) (nomark _))
        (pss_one (ps_set (i := 1) sc_rooted.nd rfl (.inl rfl) (pv 3))) (pss_one (ps_set (i := 2) sc_rooted.nd rfl (.inl rfl) (pv 3)))))))
      (pss_one (ps_ret (pv 1))))))), ?_⟩
    -- low = 0; high = 1; while high * high <= number
    refine ⟨fun m σ H' => ∃ g : Int, σ = [some (.int n), some (.int 0), some (.int g), none] ∧ H' = H ∧ 1 ≤ g ∧ g * g ≤ 4 * n + 1 ∧ m = (4 * n + 2 - g).toNat, ⟨_, 1, rfl, rfl, by omega, by omega, rfl⟩, fun m σ H' hW => ?_⟩
    obtain ⟨g, rfl, rfl, g1, g2, rfl⟩ := hW
    have gl := le_sq (show 0 ≤ g by omega)
    refine ⟨_, rfl, _, rfl, _, _, rfl, rfl, mx 1003 1003 (big_of (n := n) (by omega) (by omega) hb) (big_of (n := n) (by omega) (by omega) hb), _, rfl, _, _, rfl, rfl, _, rfl, ?_⟩
    refine ite2 (fun hc => ?_) (fun hc => ?_)
    · rw [decide_eq_true_eq] at hc
      refine ⟨fun σ' H'' => ∃ m', m' < _ ∧ ∃ g : Int, σ' = [some (.int n), some (.int 0), some (.int g), none] ∧ H'' = H' ∧ 1 ≤ g ∧ g * g ≤ 4 * n + 1 ∧ m' = (4 * n + 2 - g).toNat, fun _ _ h => h, ?_⟩
      refine ⟨_, rfl, _, _, rfl, rfl, mx 1003 2 (big_of (n := n) (by omega) (by omega) hb) (by decide), ?_⟩
      have e : (g * 2) * (g * 2) = 4 * (g * g) := by grind
      exact ⟨_, (show (4 * n + 2 - g * 2).toNat < _ by omega), g * 2, rfl, rfl, by omega, by omega, rfl⟩
    · rw [decide_eq_true_eq] at hc
      -- while high - low > 1
      refine ⟨fun m σ H'' => ∃ (lo hi : Int) (x : Option V), σ = [some (.int n), some (.int lo), some (.int hi), x] ∧ H'' = H' ∧ 0 ≤ lo ∧ lo < hi ∧ lo * lo ≤ n ∧ n < hi * hi ∧ hi ≤ 4 * n + 1 ∧ m = (hi - lo).toNat, ⟨_, 0, g, none, rfl, rfl, by omega, by omega, by omega, by omega, by omega, rfl⟩, fun m σ H'' hW => ?_⟩
      obtain ⟨lo, hi, x, rfl, rfl, l0, lh, a1, a2, a3, rfl⟩ := hW
      refine ⟨_, rfl, _, rfl, _, _, rfl, rfl, _, _, rfl, rfl, _, rfl, ?_⟩
      refine ite2 (fun hc => ?_) (fun hc => ?_)
      · rw [decide_eq_true_eq] at hc
        refine ⟨fun σ' H3 => ∃ m', m' < _ ∧ ∃ (lo hi : Int) (x : Option V), σ' = [some (.int n), some (.int lo), some (.int hi), x] ∧ H3 = H'' ∧ 0 ≤ lo ∧ lo < hi ∧ lo * lo ≤ n ∧ n < hi * hi ∧ hi ≤ 4 * n + 1 ∧ m' = (hi - lo).toNat, fun _ _ h => h, ?_⟩
        refine ⟨_, rfl, _, rfl, _, _, rfl, rfl, _, _, rfl, rfl, dv (by decide) (by decide), ?_⟩
        have hb2 : ((lo + hi) / 2).natAbs < 2 ^ 1003 := big_of (n := n) (by omega) (by omega) hb
        refine ⟨_, rfl, _, rfl, _, _, rfl, rfl, mx 1003 1003 hb2 hb2, _, rfl, _, _, rfl, rfl, _, rfl, ?_⟩
        refine ite2 (fun hd => ?_) (fun hd => ?_)
        · rw [decide_eq_true_eq] at hd
          refine ⟨_, rfl, ?_⟩
          exact ⟨_, (show (hi - (lo + hi) / 2).toNat < _ by omega), (lo + hi) / 2, hi, _, rfl, rfl, by omega, by omega, hd, a2, a3, rfl⟩
        · rw [decide_eq_true_eq] at hd
          refine ⟨_, rfl, ?_⟩
          exact ⟨_, (show ((lo + hi) / 2 - lo).toNat < _ by omega), lo, (lo + hi) / 2, _, rfl, rfl, by omega, by omega, a1, by omega, by omega, rfl⟩
      · rw [decide_eq_true_eq] at hc
        have e : hi = lo + 1 := by omega
        subst e
        refine ⟨_, rfl, ?_⟩
        rw [← rt_uniq l0 a1 a2]
        exact q
theorem rt_big {n : Int} (h0 : 0 ≤ n) (h : n < 2 ^ 1000) : (rt n).natAbs < 2 ^ 1003 := by
  obtain ⟨a, b, c⟩ := rt_spec h0
  have := le_sq a
  exact big_of (n := n) a (by omega) h
theorem dec_int {i j : Int} : decide (V.int i = V.int j) = decide (i = j) := by
  by_cases h : i = j
  · rw [h, decide_eq_true rfl, decide_eq_true rfl]
  · rw [decide_eq_false h, decide_eq_false (fun e => h (V.int.inj e))]
end
/-! need_root, of a number with a ladder -/
section
variable {P : Program} {w : World} {K : PySem.W.Frag} {mg : Str → Option Value} {base : Heap}
def spNeedRoot : Sp := fun vs H Q _ => ∃ n : Int, vs = [.int n] ∧ Rootn n ∧ Q .non H
theorem ok_need_root {f : Addr} {fd : FuncData} (F : Fun K "need_root" "need_root" s_need_root f fd) (T : Tb mg) (D_need_number : Dn P w K mg base "need_number" 2 ["thing", "least", "most"] [] spNeed) (D_rooted : Dn P w K mg base "rooted" 1 ["number"] [] spRooted) :
    FnOk P w K mg base CX0 3 f fd ["number"] spNeedRoot := by
  refine F.ok sc_need_root (fun vs H Q E h => ?_) (fun cdv A outer s H vs Q E hr h => ?_)
  · obtain ⟨n, rfl, _⟩ := h
    rfl
  · obtain ⟨n, rfl, R, q⟩ := h
    have n0 : 0 ≤ n := by have := R.two; omega
    have rb := rt_big n0 R.big
    refine ⟨_, (pss_cons (ps_expr (pe_callD D_need_number hr (by decide) (by rfl) (pa_cons (pv 0) (pa_cons pe_int (pa_cons (pe_globI (by rfl) T.g_MOST) pa_nil)))))
      (pss_one (ps_if (pt_cmpR op_eq (pe_op op_mulX (pe_callD D_rooted hr (by decide) (by rfl) (pa_cons (pv 0) pa_nil)) (pe_callD D_rooted hr (by decide) (by rfl) (pa_cons (pv 0) pa_nil))) (pv 0) (nomark _))
        (pss_one ps_never) pss_nil))), ?_⟩
    refine ⟨_, rfl, n, 2, .int 100000, rfl, R.two, .inr ⟨_, rfl, R.most⟩, ?_⟩
    refine ⟨_, rfl, n, rfl, n0, R.big, _, rfl, n, rfl, n0, R.big, _, _, rfl, rfl, mx 1003 1003 rb rb, _, rfl, rfl, _, rfl, ifF ?_ q⟩
    rw [dec_int]
    exact decide_eq_false R.ns
end
/-! the law's own helpers: a mixed number -/
section
variable {P : Program} {w : World} {K : PySem.W.Frag} {mg : Str → Option Value} {base : Heap}
theorem ok_mixed {f : Addr} {fd : FuncData} (F : Fun K "_law_mixed" "_law_mixed" s_l_mixed f fd) : FnOk P w K mg base CX0 1 f fd ["_law_number_here", "_law_k"] spMixed := by
  refine F.ok sc_l_mixed (fun vs H Q E h => ?_) (fun cdv A outer s H vs Q E hr h => ?_)
  · obtain ⟨n, k, rfl, _⟩ := h
    rfl
  · obtain ⟨n, k, rfl, h0, h1, q⟩ := h
    refine ⟨_, (pss_cons (ps_set (i := 0) sc_l_mixed.nd rfl (.inl rfl) (pe_op op_mod (pe_op op_mulX (pe_op op_add (pe_op op_add (pe_op op_mod (pv 0) pe_int) (pe_op op_mulX (pe_op op_mulX pe_int (pv 1)) (pv 1))) (pe_op op_mulX pe_int (pv 1))) pe_int) pe_int))
      (pss_one (ps_ret (pe_op op_mod (pe_op op_mulX (pv 0) (pe_op op_add pe_int (pe_op op_mulX pe_int (pv 1)))) pe_int)))), ?_⟩
    have k1 : 7919 * k * k ≤ 7919 * 1000 * 1000 := Int.mul_le_mul (by omega) h1 h0 (by decide)
    have k0 : 0 ≤ 7919 * k * k := Int.mul_nonneg (by omega) h0
    have m0 := Int.emod_nonneg n (show (2147483647 : Int) ≠ 0 by decide)
    have m1 := Int.emod_lt_of_pos n (show (0 : Int) < 2147483647 by decide)
    refine ⟨_, rfl, _, _, rfl, rfl, (by show (0 : Int) < 2147483647; decide), ?_⟩
    refine ⟨_, rfl, _, _, rfl, rfl, mx 14 14 (by decide) (by omega), _, rfl, _, _, rfl, rfl, mx 40 14 (by omega) (by omega), _, _, rfl, rfl, ?_⟩
    refine ⟨_, rfl, _, _, rfl, rfl, mx 14 14 (by decide) (by omega), _, _, rfl, rfl, _, _, rfl, rfl, mx 64 30 (by omega) (by decide), _, _, rfl, rfl, (by show (0 : Int) < 2147483647; decide), ?_⟩
    generalize hz : (n % 2147483647 + 7919 * k * k + 31 * k) * 48271 = z
    have z0 := Int.emod_nonneg z (show (2147483647 : Int) ≠ 0 by decide)
    have z1 := Int.emod_lt_of_pos z (show (0 : Int) < 2147483647 by decide)
    refine ⟨_, rfl, _, rfl, _, _, rfl, rfl, mx 14 14 (by decide) (by omega), _, _, rfl, rfl, _, _, rfl, rfl, mx 40 30 (by omega) (by omega), _, _, rfl, rfl, (by show (0 : Int) < 2147483629; decide), ?_⟩
    rw [← hz]
    exact q
end
/-! the law's own root -/
section
variable {P : Program} {w : World} {K : PySem.W.Frag} {mg : Str → Option Value} {base : Heap}
theorem ok_law_root {f : Addr} {fd : FuncData} (F : Fun K "_law_root" "_law_root" s_l_root f fd) : FnOk P w K mg base CX0 1 f fd ["_law_number_here"] spRooted := by
  refine F.ok sc_l_root (fun vs H Q E h => ?_) (fun cdv A outer s H vs Q E hr h => ?_)
  · obtain ⟨n, rfl, _⟩ := h
    rfl
  · obtain ⟨n, rfl, h0, hb, q⟩ := h
    refine ⟨_, (pss_cons (ps_set (i := 1) sc_l_root.nd rfl (.inl rfl) pe_int)
      (pss_cons (ps_set (i := 2) sc_l_root.nd rfl (.inl rfl) pe_int)
      (pss_cons (ps_while PassesOwn.never (pt_cmpR op_le (pe_op op_mulX (pv 2) (pv 2)) (pv 0) (nomark _))
        (pss_one (ps_set (i := 2) sc_l_root.nd rfl (.inl rfl) (pe_op op_mulX (pv 2) pe_int))))
      (pss_cons (ps_while PassesOwn.never (pt_cmpR op_gt (pe_op op_sub (pv 2) (pv 1)) pe_int (nomark _))
        (pss_cons (ps_set (i := 3) sc_l_root.nd rfl (.inl rfl) (pe_op op_fdivW (pe_op op_add (pv 1) (pv 2)) pe_int))
      (pss_one (ps_if (pt_cmpR op_le (pe_op op_mulX (pv 3) (pv 3)) (pv 0) (nomark _))
        (pss_one (ps_set (i := 1) sc_l_root.nd rfl (.inl rfl) (pv 3))) (pss_one (ps_set (i := 2) sc_l_root.nd rfl (.inl rfl) (pv 3)))))))
      (pss_one (ps_ret (pv 1))))))), ?_⟩
    -- low = 0; high = 1; while high * high <= number
    refine ⟨fun m σ H' => ∃ g : Int, σ = [some (.int n), some (.int 0), some (.int g), none] ∧ H' = H ∧ 1 ≤ g ∧ g * g ≤ 4 * n + 1 ∧ m = (4 * n + 2 - g).toNat, ⟨_, 1, rfl, rfl, by omega, by omega, rfl⟩, fun m σ H' hW => ?_⟩
    obtain ⟨g, rfl, rfl, g1, g2, rfl⟩ := hW
    have gl := le_sq (show 0 ≤ g by omega)
    refine ⟨_, rfl, _, rfl, _, _, rfl, rfl, mx 1003 1003 (big_of (n := n) (by omega) (by omega) hb) (big_of (n := n) (by omega) (by omega) hb), _, rfl, _, _, rfl, rfl, _, rfl, ?_⟩
    refine ite2 (fun hc => ?_) (fun hc => ?_)
    · rw [decide_eq_true_eq] at hc
      refine ⟨fun σ' H'' => ∃ m', m' < _ ∧ ∃ g : Int, σ' = [some (.int n), some (.int 0), some (.int g), none] ∧ H'' = H' ∧ 1 ≤ g ∧ g * g ≤ 4 * n + 1 ∧ m' = (4 * n + 2 - g).toNat, fun _ _ h => h, ?_⟩
      refine ⟨_, rfl, _, _, rfl, rfl, mx 1003 2 (big_of (n := n) (by omega) (by omega) hb) (by decide), ?_⟩
      have e : (g * 2) * (g * 2) = 4 * (g * g) := by grind
      exact ⟨_, (show (4 * n + 2 - g * 2).toNat < _ by omega), g * 2, rfl, rfl, by omega, by omega, rfl⟩
    · rw [decide_eq_true_eq] at hc
      -- while high - low > 1
      refine ⟨fun m σ H'' => ∃ (lo hi : Int) (x : Option V), σ = [some (.int n), some (.int lo), some (.int hi), x] ∧ H'' = H' ∧ 0 ≤ lo ∧ lo < hi ∧ lo * lo ≤ n ∧ n < hi * hi ∧ hi ≤ 4 * n + 1 ∧ m = (hi - lo).toNat, ⟨_, 0, g, none, rfl, rfl, by omega, by omega, by omega, by omega, by omega, rfl⟩, fun m σ H'' hW => ?_⟩
      obtain ⟨lo, hi, x, rfl, rfl, l0, lh, a1, a2, a3, rfl⟩ := hW
      refine ⟨_, rfl, _, rfl, _, _, rfl, rfl, _, _, rfl, rfl, _, rfl, ?_⟩
      refine ite2 (fun hc => ?_) (fun hc => ?_)
      · rw [decide_eq_true_eq] at hc
        refine ⟨fun σ' H3 => ∃ m', m' < _ ∧ ∃ (lo hi : Int) (x : Option V), σ' = [some (.int n), some (.int lo), some (.int hi), x] ∧ H3 = H'' ∧ 0 ≤ lo ∧ lo < hi ∧ lo * lo ≤ n ∧ n < hi * hi ∧ hi ≤ 4 * n + 1 ∧ m' = (hi - lo).toNat, fun _ _ h => h, ?_⟩
        refine ⟨_, rfl, _, rfl, _, _, rfl, rfl, _, _, rfl, rfl, dv (by decide) (by decide), ?_⟩
        have hb2 : ((lo + hi) / 2).natAbs < 2 ^ 1003 := big_of (n := n) (by omega) (by omega) hb
        refine ⟨_, rfl, _, rfl, _, _, rfl, rfl, mx 1003 1003 hb2 hb2, _, rfl, _, _, rfl, rfl, _, rfl, ?_⟩
        refine ite2 (fun hd => ?_) (fun hd => ?_)
        · rw [decide_eq_true_eq] at hd
          refine ⟨_, rfl, ?_⟩
          exact ⟨_, (show (hi - (lo + hi) / 2).toNat < _ by omega), (lo + hi) / 2, hi, _, rfl, rfl, by omega, by omega, hd, a2, a3, rfl⟩
        · rw [decide_eq_true_eq] at hd
          refine ⟨_, rfl, ?_⟩
          exact ⟨_, (show ((lo + hi) / 2 - lo).toNat < _ by omega), lo, (lo + hi) / 2, _, rfl, rfl, by omega, by omega, a1, by omega, by omega, rfl⟩
      · rw [decide_eq_true_eq] at hc
        have e : hi = lo + 1 := by omega
        subst e
        refine ⟨_, rfl, ?_⟩
        rw [← rt_uniq l0 a1 a2]
        exact q
end
/-! the law's number with a ladder -/
theorem rt_of {n : Int} (a : Int) (h0 : 0 ≤ a) (h1 : a * a ≤ n) (h2 : n < (a + 1) * (a + 1)) : rt n = a := rt_uniq h0 h1 h2
theorem not_sq_succ {n : Int} (h : 4 ≤ n) (e : rt n * rt n = n) : rt (n + 1) * rt (n + 1) ≠ n + 1 := by
  obtain ⟨a, _, _⟩ := rt_spec (show 0 ≤ n by omega)
  have r2 : 2 ≤ rt n := by
    by_cases q : 2 ≤ rt n
    · exact q
    · have := sq_le a (show rt n ≤ 1 by omega)
      omega
  have e2 : (rt n + 1) * (rt n + 1) = rt n * rt n + 2 * rt n + 1 := by grind
  have : rt (n + 1) = rt n := rt_uniq a (by omega) (by omega)
  rw [this]
  omega
theorem sq_four {n : Int} (h : 2 ≤ n) (e : rt n * rt n = n) : 4 ≤ n := by
  obtain ⟨a, _, _⟩ := rt_spec (show 0 ≤ n by omega)
  by_cases q : 2 ≤ rt n
  · have := sq_le (show (0 : Int) ≤ 2 by decide) q
    omega
  · have := sq_le a (show rt n ≤ 1 by omega)
    omega
structure Most (m : Int) : Prop where
  lo : 20 ≤ m
  hi : m ≤ 100000
  ns : rt m * rt m ≠ m
def spNumBy : Sp := fun vs H Q _ => ∃ n m : Int, vs = [.int n, .int m] ∧ 0 ≤ n ∧ n < 2 ^ 40 ∧ Most m ∧ ∀ z H', Same H H' → Rootn z → z ≤ m → Q (.int z) H'
section
variable {P : Program} {w : World} {K : PySem.W.Frag} {mg : Str → Option Value} {base : Heap}
theorem ok_law_number_by {f : Addr} {fd : FuncData} (F : Fun K "_law_number_by" "_law_number_by" s_l_number_by f fd) (D_law_root : Dn P w K mg base "_law_root" 1 ["_law_number_here"] [] spRooted) :
    FnOk P w K mg base CX0 2 f fd ["_law_number_here", "_law_most"] spNumBy := by
  refine F.ok sc_l_number_by (fun vs H Q E h => ?_) (fun cdv A outer s H vs Q E hr h => ?_)
  · obtain ⟨n, m, rfl, _⟩ := h
    rfl
  · obtain ⟨n, m, rfl, n0, n1, M, q⟩ := h
    have mlo := M.lo
    have mhi := M.hi
    have mb : m < 2 ^ 1000 := Int.lt_of_le_of_lt mhi (by decide +kernel)
    obtain ⟨r0, r1, r2⟩ := rt_spec (show 0 ≤ m by omega)
    have r4 : 4 ≤ rt m := by
      by_cases e : 4 ≤ rt m
      · exact e
      · have := sq_le (show 0 ≤ rt m + 1 by omega) (show rt m + 1 ≤ 4 by omega)
        omega
    have r317 : rt m ≤ 317 := by
      by_cases e : rt m ≤ 317
      · exact e
      · have := sq_le (show (0 : Int) ≤ 318 by decide) (show 318 ≤ rt m by omega)
        omega
    have rsq : rt m * rt m ≤ m - 1 := by
      have := M.ns
      omega
    -- behind the ifs
    have fin : ∀ (x : Option V) (z : Int) (H' : Hp), Same H H' → 2 ≤ z → z ≤ m → (rt z * rt z = z → z ≤ m - 1) →
        tSeq (tIfS (tTest (tOp rEq (tOp (rI CMulX fun i j => .int (i * j)) (tCall spRooted [] E0 (tCons (tVar 2) tNil)) (tCall spRooted [] E0 (tCons (tVar 2) tNil))) (tVar 2))) (tAsg (tOp (rI0 fun i j => .int (i + j)) (tVar 2) (tC (.int 1))) (gName 2)) tNext) (tRet (tVar 2)) { nx := fun _ H' => Q .non H', rt := Q } [some (.int n), some (.int m), some (.int z), x] H' := fun x z H' sm z2 zm zs => by
      have zb : z < 2 ^ 1000 := by omega
      have rb := rt_big (n := z) (by omega) zb
      refine ⟨_, rfl, z, rfl, by omega, zb, _, rfl, z, rfl, by omega, zb, _, _, rfl, rfl, mx 1003 1003 rb rb, _, rfl, rfl, _, rfl, if2 (fun e => ?_) (fun e => ?_)⟩
      · rw [dec_int, decide_eq_true_eq] at e
        refine ⟨_, rfl, _, _, rfl, rfl, ?_⟩
        refine ⟨_, rfl, q _ _ sm ⟨by omega, ?_, not_sq_succ (sq_four z2 e) e⟩ ?_⟩
        · have := zs e
          omega
        · have := zs e
          omega
      · rw [dec_int, decide_eq_false_iff_not] at e
        exact ⟨_, rfl, q _ _ sm ⟨z2, by omega, e⟩ zm⟩
    have edge : ∀ z : Int, z ≤ m → rt z * rt z = z → z ≤ m - 1 := fun z hz e => by
      by_cases q : z = m
      · rw [q] at e
        exact absurd e M.ns
      · omega
    refine ⟨_, (pss_cons (ps_set (i := 2) sc_l_number_by.nd rfl (.inl rfl) (pe_op op_add pe_int (pe_op op_mod (pe_op op_fdivW (pv 0) pe_int) (pe_op op_sub (pv 1) pe_int))))
      (pss_cons (ps_if (pt_cmpR op_eq (pe_op op_mod (pv 0) pe_int) pe_int (nomark _))
        (pss_cons (ps_set (i := 3) sc_l_number_by.nd rfl (.inl rfl) (pe_op op_add pe_int (pe_op op_mod (pe_op op_fdivW (pv 0) pe_int) (pe_op op_sub (pe_callD D_law_root hr (by decide) (by rfl) (pa_cons (pv 1) pa_nil)) pe_int))))
      (pss_one (ps_set (i := 2) sc_l_number_by.nd rfl (.inl rfl) (pe_op op_add (pe_op op_mulX (pv 3) (pv 3)) (pe_ix (ixl (K := K) rfl) (pe_lst (pa_cons (pe_un un_neg pe_int) (pa_cons (pe_un un_neg pe_int) (pa_cons pe_int (pa_cons pe_int pa_nil))))) (pe_op op_mod (pe_op op_fdivW (pv 0) pe_int) pe_int) (fun _ _ => rfl)))))) pss_nil)
      (pss_cons (ps_if (pt_cmpR op_eq (pe_op op_mulX (pe_callD D_law_root hr (by decide) (by rfl) (pa_cons (pv 2) pa_nil)) (pe_callD D_law_root hr (by decide) (by rfl) (pa_cons (pv 2) pa_nil))) (pv 2) (nomark _))
        (pss_one (ps_set (i := 2) sc_l_number_by.nd rfl (.inl rfl) (pe_op op_add (pv 2) pe_int))) pss_nil)
      (pss_one (ps_ret (pv 2)))))), ?_⟩
    have d0 := Int.emod_nonneg (n / 5) (show m - 1 ≠ 0 by omega)
    have d1 := Int.emod_lt_of_pos (n / 5) (show 0 < m - 1 by omega)
    refine ⟨_, rfl, _, _, rfl, rfl, dv (by decide) (by decide), _, rfl, _, _, rfl, rfl, _, _, rfl, rfl, (by show 0 < m - 1; omega), _, _, rfl, rfl, ?_⟩
    refine ⟨_, rfl, _, _, rfl, rfl, (by show (0 : Int) < 5; decide), rfl, _, rfl, if2 (fun _ => ?_) (fun _ => ?_)⟩
    · refine ⟨_, rfl, _, _, rfl, rfl, dv (by decide) (by decide), _, rfl, m, rfl, by omega, mb, _, _, rfl, rfl, _, _, rfl, rfl, (by show 0 < rt m - 2; omega), _, _, rfl, rfl, ?_⟩
      have e0 := Int.emod_nonneg (n / 5) (show rt m - 2 ≠ 0 by omega)
      have e1 := Int.emod_lt_of_pos (n / 5) (show 0 < rt m - 2 by omega)
      generalize hsd : 2 + n / 5 % (rt m - 2) = sd
      have s0 : 2 ≤ sd := by omega
      have s1 : sd ≤ rt m - 1 := by omega
      refine ⟨_, rfl, _, rfl, _, _, rfl, rfl, mx 64 64 (by show Int.natAbs (2 + n / 5 % (rt m - 2)) < _; omega) (by show Int.natAbs (2 + n / 5 % (rt m - 2)) < _; omega), ?_⟩
      refine ⟨_, rfl, _, rfl, (by show 4 ≤ sizeLine; decide), fun p np => ?_⟩
      refine ⟨_, rfl, _, _, rfl, rfl, dv (by decide) (by decide), _, _, rfl, rfl, (by show (0 : Int) < 4; decide), ?_⟩
      obtain ⟨v, hv, d, rfl, dlo, dhi⟩ : ∃ v, atI [V.int (-2), V.int (-1), V.int 1, V.int 2] (n / 9999 % 4) = some v ∧ ∃ d : Int, v = .int d ∧ -2 ≤ d ∧ d ≤ 2 := by
        have h4 : n / 9999 % 4 = 0 ∨ n / 9999 % 4 = 1 ∨ n / 9999 % 4 = 2 ∨ n / 9999 % 4 = 3 := by omega
        rcases h4 with h | h | h | h <;> rw [h]
        · exact ⟨_, rfl, _, rfl, by decide, by decide⟩
        · exact ⟨_, rfl, _, rfl, by decide, by decide⟩
        · exact ⟨_, rfl, _, rfl, by decide, by decide⟩
        · exact ⟨_, rfl, _, rfl, by decide, by decide⟩
      refine ⟨p, _, _, _, rfl, rfl, .inl (.inl upd_same), hv, _, _, rfl, rfl, ?_⟩
      have a1 := sq_le (show (0 : Int) ≤ 2 by decide) s0
      have a2 := sq_le (show 0 ≤ sd by omega) s1
      have a3 : (rt m - 1) * (rt m - 1) = rt m * rt m - 2 * rt m + 1 := by grind
      have b1 : 2 ≤ sd * sd + d := by omega
      have b2 : sd * sd + d ≤ m := by omega
      rw [← hsd] at b1 b2
      exact fin _ _ _ (same_new np) b1 b2 (edge _ b2)
    · have b2 : 2 + n / 5 % (m - 1) ≤ m := by omega
      exact fin _ _ _ (Same.refl H) (by omega) b2 (edge _ b2)
theorem most_3000 : Most 3000 := ⟨by decide, by decide, by rw [rt_of 54 (by decide) (by decide) (by decide)]; decide⟩
theorem most_60 : Most 60 := ⟨by decide, by decide, by rw [rt_of 7 (by decide) (by decide) (by decide)]; decide⟩
theorem most_20000 : Most 20000 := ⟨by decide, by decide, by rw [rt_of 141 (by decide) (by decide) (by decide)]; decide⟩
theorem most_100000 : Most 100000 := ⟨by decide, by decide, by rw [rt_of 316 (by decide) (by decide) (by decide)]; decide⟩
end
/-! the law's looks: a pair of numbers, a number -/
section
variable {P : Program} {w : World} {K : PySem.W.Frag} {mg : Str → Option Value} {base : Heap}
theorem kit_tt' {K : PySem.W.Frag} : PySem.W.kitOne K (.type "tuple") (.type "tuple") = some true := kit_ty (by decide +kernel)
theorem dp_pr {K : PySem.W.Frag} {H : Hp} {t : Addr} {x y : Int} (h : H t = some (.tup [.int x, .int y])) : Dp K H (.ref t) (.tuple [.int x, .int y]) := .tup (SqT.of h) (.cons (.int x) (.cons (.int y) .nil))
theorem eqv_pr (x y : Int) : PyData.eqv (.tuple [.int x, .int y]) (.tuple [.int x, .int y]) = true := SeqAt.eqv_refl _ rfl
def spIsPair : Sp := fun vs H Q _ => ∃ (x y : Int) (t u : Addr), vs = [.ref t, .ref u] ∧ H t = some (.tup [.int x, .int y]) ∧ H u = some (.tup [.int x, .int y]) ∧ ∀ H', Same H H' → Q (.bl true) H'
theorem ok_law_is_pair {f : Addr} {fd : FuncData} (F : Fun K "_law_is_pair" "_law_is_pair" s_l_is_pair f fd) (T : Tb mg) : FnOk P w K mg base CX0 1 f fd ["_law_found", "_law_due"] spIsPair := by
  refine F.ok sc_l_is_pair (fun vs H Q E h => ?_) (fun cdv A outer s H vs Q E hr h => ?_)
  · obtain ⟨x, y, t, u, rfl, _⟩ := h
    rfl
  · obtain ⟨x, y, t, u, rfl, ht, hu, q⟩ := h
    refine ⟨_, (pss_cons (ps_if (PW.pt (pw_or (pt_not (pt_val (pe_callB (id := "isinstance") (isi_rule (K := K) rfl) (by rfl) T.b_isinstance (by decide +kernel) (pa_cons (pv 0) (pa_cons (pe_bltn (v := .ty "tuple") (by rfl) T.b_tuple (by decide +kernel) rfl) pa_nil))))) (pw_or (pt_cmpR (op_neD hr.units) (pv 0) (pv 1) (nomark _)) (pw_or1 (pt_cmpR op_ne (pe_callB (id := "len") (len_rule (K := K) rfl) (by rfl) T.b_len (by decide +kernel) (pa_cons (pv 0) pa_nil)) pe_int (nomark _))))))
        (pss_one (ps_ret pe_bl)) pss_nil)
      (pss_one (ps_ret (pe_callB (id := "all") (cr_all rfl) (by rfl) T.b_all (by decide +kernel) (pa_cons (pe_lc (own := [("_law_one", 2)]) rfl sc_l_is_pair.nd ((pi_tup (pv 0))) (blkOk_by (own := [("_law_one", 2)]) (N := ["_law_found", "_law_due", "_law_one"]) (sc := defScope s_l_is_pair) (by decide +kernel)) (fun _ _ _ _ _ => (pg_name (i := 2) sc_l_is_pair.nd rfl (.inl rfl))) (fun _ _ _ _ _ => pts_nil) (fun _ _ _ _ _ => (pe_and (pe_callB (id := "isinstance") (isi_rule (K := K) rfl) (by rfl) T.b_isinstance (by decide +kernel) (pa_cons (pv 2) (pa_cons (pe_bltn (v := .ty "int") (by rfl) T.b_int (by decide +kernel) rfl) pa_nil))) (pe_one (pe_not (pe_callB (id := "isinstance") (isi_rule (K := K) rfl) (by rfl) T.b_isinstance (by decide +kernel) (pa_cons (pv 2) (pa_cons (pe_bltn (v := .ty "bool") (by rfl) T.b_bool (by decide +kernel) rfl) pa_nil)))))))) pa_nil))))), ?_⟩
    refine ⟨_, rfl, _, _, _, _, _, rfl, .ty _, .base (.tup ht), kit_tt', _, rfl, ifF rfl ?_⟩
    refine ⟨_, rfl, _, rfl, _, _, dp_pr ht, dp_pr hu, rfl, rfl, _, rfl, ifF ?_ ?_⟩
    · rw [eqv_pr]
      rfl
    refine ⟨_, rfl, t, _, rfl, .inr (SqT.of ht), rfl, _, rfl, ifF rfl ?_⟩
    refine ⟨_, rfl, t, rfl, ⟨_, SqT.of ht⟩, fun D nD => lc_tup (K := K) (a := t) (xs := [.int x, .int y]) (fun i H' => Same H H' ∧ H' D = some (.lst ((List.replicate i true).map V.bl)) ∧ i ≤ 2) ⟨same_new nD, upd_same, by omega⟩ (fun i H' _ hP => .inl (.inl (hP.1 _ _ ht))) (fun i z H' hz hP => ?_) (fun H' hP => ?_)⟩
    · obtain ⟨sm, hD, hi⟩ := hP
      obtain ⟨k, rfl⟩ : ∃ k : Int, z = .int k := by
        have := List.mem_of_getElem? hz
        rcases List.mem_cons.mp this with e | e
        · exact ⟨_, e⟩
        · exact ⟨_, List.mem_singleton.mp e⟩
      have hl := (List.getElem?_eq_some_iff.mp hz).1
      have hl2 : i < 2 := hl
      refine ⟨rfl, _, rfl, _, _, _, _, _, rfl, .ty _, ty_int, kit_ii, _, rfl, ifT rfl ?_⟩
      refine ⟨_, rfl, _, _, _, _, _, rfl, .ty _, ty_int, kit_ib, _, rfl, ?_⟩
      refine ⟨_, hD, sz (by rw [List.length_map, List.length_replicate]; omega), same_mut sm nD, ?_, by omega⟩
      rw [upd_same, List.replicate_succ', List.map_append]
      rfl
    · obtain ⟨sm, hD, _⟩ := hP
      exact ⟨D, List.replicate 2 true, rfl, .inl (.inl hD), q _ sm⟩
end
/-! rootladder.ladders: the round, the ladder -/
section
variable {P : Program} {w : World} {K : PySem.W.Frag} {mg : Str → Option Value} {base : Heap}
/-- the first quotients of the round -/
def quots (n : Int) (i : Nat) : List Int := (List.range i).map (aq n (rt n))
theorem quots_succ (n : Int) (i : Nat) : quots n (i + 1) = quots n i ++ [aq n (rt n) i] := by
  unfold quots
  rw [List.range_succ, List.map_append]
  rfl
theorem quots_len (n : Int) (i : Nat) : (quots n i).length = i := by
  unfold quots
  rw [List.length_map, List.length_range]
theorem quots_at (n : Int) {i l : Nat} (h : i < l) : ((quots n l).map V.int)[i]? = some (.int (aq n (rt n) i)) := by
  unfold quots
  rw [List.getElem?_map, List.getElem?_map, List.getElem?_range h]
  rfl
theorem last_small {n : Int} {l : Nat} (R : Rootn n) (L : Last n (rt n) l) : l < 200000 := by
  have a := L.le
  have b := R.r316
  have c := R.good.r1
  have : (rt n).toNat ≤ 316 := by omega
  have d : (rt n).toNat * (2 * (rt n).toNat) ≤ 316 * (2 * 316) := Nat.mul_le_mul this (by omega)
  omega
/-- what the round's sums are bounded by -/
structure Small (n : Int) (i : Nat) : Prop where
  r0 : 1 ≤ rt n
  r1 : rt n ≤ 316
  p0 : 0 < sP n (rt n) i
  p1 : sP n (rt n) i ≤ rt n
  q0 : 0 < sQ n (rt n) i
  q1 : sQ n (rt n) i ≤ 632
  a0 : 1 ≤ aq n (rt n) i
  a1 : aq n (rt n) i ≤ 632
  aq0 : 0 < aq n (rt n) i * sQ n (rt n) i
  aq1 : aq n (rt n) i * sQ n (rt n) i ≤ 632
theorem small_at {n : Int} (R : Rootn n) (i : Nat) : Small n i := by
  have G := R.good
  have r := R.r316
  have d := st_red G i
  have s := st_step G i
  have a := aq_le2 G i
  have dhi := d.hi
  have dpr := d.pr
  have sal := s.al
  have sa1 := s.a1
  have r1 := G.r1
  have m : 0 < aq n (rt n) i * sQ n (rt n) i := Int.mul_pos (by omega) d.q0
  exact ⟨r1, r, d.p0, dpr, d.q0, by omega, sa1, by omega, m, by omega⟩
def spRoundOf : Sp := fun vs H Q _ => ∃ n : Int, vs = [.int n] ∧ Rootn n ∧ ∀ l p H', Last n (rt n) l → Same H H' → H p = none → H' p = some (.lst ((quots n (l + 1)).map V.int)) → Q (.ref p) H'
theorem ok_round_of {f : Addr} {fd : FuncData} (F : Fun K "round_of" "round_of" s_round_of f fd) (D_rooted : Dn P w K mg base "rooted" 1 ["number"] [] spRooted) : FnOk P w K mg base CX0 2 f fd ["number"] spRoundOf := by
  refine F.ok sc_round_of (fun vs H Q E h => ?_) (fun cdv A outer s H vs Q E hr h => ?_)
  · obtain ⟨n, rfl, _⟩ := h
    rfl
  · obtain ⟨n, rfl, R, q⟩ := h
    have n0 : 0 ≤ n := by have := R.two; omega
    have nm := R.most
    have G := R.good
    obtain ⟨l, L⟩ := last_there G
    have lsm := last_small R L
    refine ⟨_, (pss_cons (ps_set (i := 1) sc_round_of.nd rfl (.inl rfl) (pe_callD D_rooted hr (by decide) (by rfl) (pa_cons (pv 0) pa_nil)))
      (pss_cons (ps_set (i := 2) sc_round_of.nd rfl (.inl rfl) (pv 1))
      (pss_cons (ps_set (i := 3) sc_round_of.nd rfl (.inl rfl) (pe_op op_sub (pv 0) (pe_op op_mulX (pv 1) (pv 1))))
      (pss_cons (ps_set (i := 4) sc_round_of.nd rfl (.inl rfl) (pe_lst pa_nil))
      (pss_cons (ps_while PassesOwn.never (pt_cmpR op_ne (pv 3) pe_int (nomark _))
        (pss_cons (ps_set (i := 5) sc_round_of.nd rfl (.inl rfl) (pe_op op_fdivW (pe_op op_add (pv 1) (pv 2)) (pv 3)))
      (pss_cons (ps_expr (pe_bm PySem.F.plainAttrs_list PySem.F.slot_list_append PySem.F.type_list_append mt_append (pv 4) (pa_cons (pv 5) pa_nil)))
      (pss_cons (ps_set (i := 2) sc_round_of.nd rfl (.inl rfl) (pe_op op_sub (pe_op op_mulX (pv 5) (pv 3)) (pv 2)))
      (pss_one (ps_set (i := 3) sc_round_of.nd rfl (.inl rfl) (pe_op op_fdivW (pe_op op_sub (pv 0) (pe_op op_mulX (pv 2) (pv 2))) (pv 3))))))))
      (pss_cons (ps_expr (pe_bm PySem.F.plainAttrs_list PySem.F.slot_list_append PySem.F.type_list_append mt_append (pv 4) (pa_cons (pe_op op_mulX pe_int (pv 1)) pa_nil)))
      (pss_one (ps_ret (pv 4))))))))), ?_⟩
    have S0 := small_at R 0
    have r0 := S0.r0
    have r1 := S0.r1
    refine ⟨_, rfl, n, rfl, n0, R.big, _, rfl, ?_⟩
    refine ⟨_, rfl, _, rfl, _, rfl, _, _, rfl, rfl, mx 30 30 (by omega) (by omega), _, _, rfl, rfl, ?_⟩
    refine ⟨Nat.zero_le _, fun p np => ?_⟩
    refine ⟨fun m σ H' => ∃ (i : Nat) (y : Option V), σ = [some (.int n), some (.int (rt n)), some (.int (sP n (rt n) i)), some (.int (sQ n (rt n) i)), some (.ref p), y] ∧ i + m = l ∧ Same H H' ∧ H' p = some (.lst ((quots n i).map V.int)),
      ⟨l, 0, none, rfl, by omega, same_new np, upd_same⟩, fun m σ H' hW => ?_⟩
    obtain ⟨i, y, rfl, em, sm, hp⟩ := hW
    have S := small_at R i
    have p0 := S.p0
    have p1 := S.p1
    have q0 := S.q0
    have q1 := S.q1
    have T1 := small_at R (i + 1)
    have t0 := T1.p0
    have t1 := T1.p1
    refine ⟨_, rfl, rfl, _, rfl, if2 (fun hc => ?_) (fun hc => ?_)⟩
    · have hne : sQ n (rt n) i ≠ 1 := fun e => by
        rw [e] at hc
        exact absurd hc (by decide)
      have hil : i < l := by
        by_cases e : i < l
        · exact e
        · have : i = l := by omega
          rw [this] at hne
          exact absurd L.one hne
      refine ⟨fun σ' H'' => ∃ m', m' < m ∧ ∃ (i : Nat) (y : Option V), σ' = [some (.int n), some (.int (rt n)), some (.int (sP n (rt n) i)), some (.int (sQ n (rt n) i)), some (.ref p), y] ∧ i + m' = l ∧ Same H H'' ∧ H'' p = some (.lst ((quots n i).map V.int)), fun _ _ h => h, ?_⟩
      have a0 := S.a0
      have a1 := S.a1
      have aq0 := S.aq0
      have aq1 := S.aq1
      refine ⟨_, rfl, _, rfl, _, _, rfl, rfl, _, rfl, _, _, rfl, rfl, dv q0 (by omega), ?_⟩
      refine ⟨.ref p, rfl, .inl ⟨rfl, _, .inl (.inl hp)⟩, _, rfl, p, _, _, rfl, rfl, hp, sz (by rw [List.length_map, quots_len]; omega), ?_⟩
      refine ⟨_, rfl, _, rfl, _, _, rfl, rfl, mx 30 30 (show (aq n (rt n) i).natAbs < _ by omega) (by omega), _, rfl, _, _, rfl, rfl, ?_⟩
      refine ⟨_, rfl, _, rfl, _, rfl, _, _, rfl, rfl, mx 30 30 (show (sP n (rt n) (i + 1)).natAbs < _ by omega) (show (sP n (rt n) (i + 1)).natAbs < _ by omega), _, _, rfl, rfl, _, rfl, _, _, rfl, rfl, dv q0 (by omega), ?_⟩
      refine ⟨m - 1, by omega, i + 1, _, rfl, by omega, same_mut sm np, ?_⟩
      rw [upd_same, quots_succ, List.map_append]
      rfl
    · have he : sQ n (rt n) i = 1 := by
        by_cases e : sQ n (rt n) i = 1
        · exact e
        · rw [decide_eq_false (fun z => e (V.int.inj z))] at hc
          exact absurd hc (by decide)
      have hil : i = l := by
        by_cases e : i < l
        · exact absurd he (L.no i e)
        · omega
      subst hil
      refine ⟨.ref p, rfl, .inl ⟨rfl, _, .inl (.inl hp)⟩, _, rfl, _, _, rfl, rfl, mx 30 30 (by decide) (by omega), p, _, _, rfl, rfl, hp, sz (by rw [List.length_map, quots_len]; omega), ?_⟩
      refine ⟨_, rfl, q i p _ L (same_mut sm np) np ?_⟩
      rw [upd_same, quots_succ, List.map_append, last_a G L.one]
      rfl
end
/-! ladder -/
section
variable {P : Program} {w : World} {K : PySem.W.Frag} {mg : Str → Option Value} {base : Heap}
def spLadder : Sp := fun vs H Q _ => ∃ n : Int, vs = [.int n] ∧ Rootn n ∧ ∀ l p t H', Last n (rt n) l → Same H H' → H p = none → H t = none → t ≠ p → H' p = some (.lst ((quots n (l + 1)).map V.int)) → H' t = some (.tup [.int (rt n), .ref p]) → Q (.ref t) H'
theorem ok_ladder {f : Addr} {fd : FuncData} (F : Fun K "ladder" "ladder" s_ladder f fd) (D_need_root : Dn P w K mg base "need_root" 3 ["number"] [] spNeedRoot) (D_rooted : Dn P w K mg base "rooted" 1 ["number"] [] spRooted)
    (D_round_of : Dn P w K mg base "round_of" 2 ["number"] [] spRoundOf) : FnOk P w K mg base CX0 4 f fd ["number"] spLadder := by
  refine F.ok sc_ladder (fun vs H Q E h => ?_) (fun cdv A outer s H vs Q E hr h => ?_)
  · obtain ⟨n, rfl, _⟩ := h
    rfl
  · obtain ⟨n, rfl, R, q⟩ := h
    refine ⟨_, (pss_cons (ps_expr (pe_callD D_need_root hr (by decide) (by rfl) (pa_cons (pv 0) pa_nil)))
      (pss_one (ps_ret (pe_tup (pa_cons (pe_callD D_rooted hr (by decide) (by rfl) (pa_cons (pv 0) pa_nil)) (pa_cons (pe_callD D_round_of hr (by decide) (by rfl) (pa_cons (pv 0) pa_nil)) pa_nil)))))), ?_⟩
    refine ⟨_, rfl, n, rfl, R, _, rfl, n, rfl, by have := R.two; omega, R.big, _, rfl, n, rfl, R, fun l p H1 L sm np hp => ⟨(by show 2 ≤ sizeLine; decide), fun t nt => ?_⟩⟩
    exact q l p t _ L (sm.trans (same_new nt)) np (sm.free nt) (fun e => by rw [e, hp] at nt; cases nt) (kp hp nt _) upd_same
end
/-! the fractions -/
section
variable {P : Program} {w : World} {K : PySem.W.Frag} {mg : Str → Option Value} {base : Heap}
/-- as are the first m fractions' places -/
structure Frs (n : Int) (H : Hp) (as : List Addr) (m : Nat) : Prop where
  len : as.length = m
  at_ : ∀ i t, as[i]? = some t → H t = some (pr (hh n (rt n) i) (kk n (rt n) i))
theorem Frs.same {n : Int} {H H' : Hp} {as : List Addr} {m : Nat} (h : Frs n H as m) (s : Same H H') : Frs n H' as m := ⟨h.len, fun i t e => s _ _ (h.at_ i t e)⟩
theorem nat_big {x : Int} {b : Nat} (h0 : 0 ≤ x) (h : x < 2 ^ b) : x.natAbs < 2 ^ b := by
  have e : ((2 ^ b : Nat) : Int) = (2 : Int) ^ b := by simp
  rw [← e] at h
  omega
theorem big10 (i : Nat) : (2 : Int) ^ (10 * (i + 1)) ≤ 2 ^ (10 * (i + 1)) := Int.le_refl _
theorem hk_big {n : Int} (R : Rootn n) (i : Nat) : (hh n (rt n) i).natAbs < 2 ^ (10 * (i + 1)) ∧ (kk n (rt n) i).natAbs < 2 ^ (10 * (i + 1)) ∧ (gh n (rt n) i).natAbs < 2 ^ (10 * (i + 1)) ∧ (gk n (rt n) i).natAbs < 2 ^ (10 * (i + 1)) := by
  have G := R.good
  have r := R.r316
  have a := hh_small G (b := 10) (by omega) i
  have b := pos2 G i
  have b1 := b.h1
  have b2 := b.k1
  have b3 := b.gh1
  have b4 := b.gk0
  obtain ⟨c, d⟩ := kk_hh G i
  have e := gh_le G i
  have f := gk_le G i
  exact ⟨nat_big (by omega) a, nat_big (by omega) (Int.lt_of_le_of_lt c a), nat_big (by omega) (Int.lt_of_le_of_lt e a), nat_big (by omega) (Int.lt_of_le_of_lt (Int.le_trans f c) a)⟩
def spFracsOf : Sp := fun vs H Q _ => ∃ n m : Int, vs = [.int n, .int m] ∧ Rootn n ∧ 0 ≤ m ∧ m ≤ 500000 ∧ ∀ p as H', Same H H' → H p = none → H' p = some (.lst (as.map V.ref)) → Frs n H' as m.toNat → Q (.ref p) H'
theorem ok_fractions_of {f : Addr} {fd : FuncData} (F : Fun K "fractions_of" "fractions_of" s_fractions_of f fd) (T : Tb mg) (D_rooted : Dn P w K mg base "rooted" 1 ["number"] [] spRooted) (D_round_of : Dn P w K mg base "round_of" 2 ["number"] [] spRoundOf) :
    FnOk P w K mg base CX0 3 f fd ["number", "many"] spFracsOf := by
  refine F.ok sc_fractions_of (fun vs H Q E h => ?_) (fun cdv A outer s H vs Q E hr h => ?_)
  · obtain ⟨n, m, rfl, _⟩ := h
    rfl
  · obtain ⟨n, m, rfl, R, m0, m1, q⟩ := h
    have n0 : 0 ≤ n := by have := R.two; omega
    have G := R.good
    refine ⟨_, (pss_cons (ps_set (i := 2) sc_fractions_of.nd rfl (.inl rfl) (pe_callD D_round_of hr (by decide) (by rfl) (pa_cons (pv 0) pa_nil)))
      (pss_cons (ps_set (i := 3) sc_fractions_of.nd rfl (.inl rfl) (pe_tup (pa_cons pe_int (pa_cons pe_int pa_nil))))
      (pss_cons (ps_set (i := 4) sc_fractions_of.nd rfl (.inl rfl) (pe_tup (pa_cons (pe_callD D_rooted hr (by decide) (by rfl) (pa_cons (pv 0) pa_nil)) (pa_cons pe_int pa_nil))))
      (pss_cons (ps_set (i := 5) sc_fractions_of.nd rfl (.inl rfl) (pe_lst pa_nil))
      (pss_cons (ps_for PassesOwn.never rfl (pi_range1 (by rfl) T.b_range (pa_cons (pv 1) pa_nil)) (pg_name (i := 6) sc_fractions_of.nd rfl (.inl rfl))
        (pss_cons (ps_expr (pe_bm PySem.F.plainAttrs_list PySem.F.slot_list_append PySem.F.type_list_append mt_append (pv 5) (pa_cons (pv 4) pa_nil)))
      (pss_cons (ps_set (i := 7) sc_fractions_of.nd rfl (.inl rfl) (pe_ix (ixl (K := K) rfl) (pv 2) (pe_op op_mod (pv 6) (pe_callB (id := "len") (len_rule (K := K) rfl) (by rfl) T.b_len (by decide +kernel) (pa_cons (pv 2) pa_nil))) (fun _ _ => rfl)))
      (pss_cons (ps_set (i := 8) sc_fractions_of.nd rfl (.inl rfl) (pe_tup (pa_cons (pe_op op_add (pe_op op_mulX (pv 7) (pe_ix (ixt (K := K) rfl) (pv 4) pe_int (fun _ _ => rfl))) (pe_ix (ixt (K := K) rfl) (pv 3) pe_int (fun _ _ => rfl))) (pa_cons (pe_op op_add (pe_op op_mulX (pv 7) (pe_ix (ixt (K := K) rfl) (pv 4) pe_int (fun _ _ => rfl))) (pe_ix (ixt (K := K) rfl) (pv 3) pe_int (fun _ _ => rfl))) pa_nil))))
      (pss_cons (ps_set (i := 3) sc_fractions_of.nd rfl (.inl rfl) (pv 4))
      (pss_one (ps_set (i := 4) sc_fractions_of.nd rfl (.inl rfl) (pv 8))))))))
      (pss_one (ps_ret (pv 5)))))))), ?_⟩
    refine ⟨_, rfl, n, rfl, R, fun l p0 H1 L s1 np0 hp0 => ?_⟩
    have lsm := last_small R L
    refine ⟨(by show 2 ≤ sizeLine; decide), fun t1 nt1 => ?_⟩
    have s2 : Same H1 (upd H1 t1 (pr 1 0)) := same_new nt1
    have ht1 : (upd H1 t1 (pr 1 0)) t1 = some (pr 1 0) := upd_same
    show tSeq _ _ _ _ (upd H1 t1 (pr 1 0))
    generalize (upd H1 t1 (pr 1 0)) = H2 at *
    refine ⟨_, rfl, n, rfl, n0, R.big, (by show 2 ≤ sizeLine; decide), fun t2 nt2 => ?_⟩
    have s3 : Same H2 (upd H2 t2 (pr (rt n) 1)) := same_new nt2
    have ht2 : (upd H2 t2 (pr (rt n) 1)) t2 = some (pr (rt n) 1) := upd_same
    show tSeq _ _ _ _ (upd H2 t2 (pr (rt n) 1))
    generalize (upd H2 t2 (pr (rt n) 1)) = H3 at *
    refine ⟨Nat.zero_le _, fun p np => ?_⟩
    have s4 : Same H3 (upd H3 p (.lst [])) := same_new np
    have s14 := s1.trans (s2.trans (s3.trans s4))
    have np1 : H p = none := (s1.trans (s2.trans s3)).free np
    have np2 : H1 p = none := (s2.trans s3).free np
    have np0p : p0 ≠ p := ne_of_none hp0 np2
    refine ⟨_, rfl, m, rfl, by omega, by omega, for_range (lo := 0) (n := m.toNat) (fun i σ H' => ∃ (t1 t2 : Addr) (as : List Addr) (y6 y7 y8 : Option V), σ = [some (.int n), some (.int m), some (.ref p0), some (.ref t1), some (.ref t2), some (.ref p), y6, y7, y8] ∧ Same H H' ∧
        H' p0 = some (.lst ((quots n (l + 1)).map V.int)) ∧ H' t1 = some (pr (gh n (rt n) i) (gk n (rt n) i)) ∧ H' t2 = some (pr (hh n (rt n) i) (kk n (rt n) i)) ∧ H' p = some (.lst (as.map V.ref)) ∧ Frs n H' as i)
      ⟨t1, t2, [], none, none, none, rfl, s14, s4 _ _ (s3 _ _ (s2 _ _ hp0)), s4 _ _ (s3 _ _ ht1), s4 _ _ ht2, upd_same, rfl, fun i t e => by simp at e⟩ (fun i σ H' hi hG => ?_) (fun σ H' hG => ?_)⟩
    · obtain ⟨t1, t2, as, y6, y7, y8, rfl, sm, hp0, ht1, ht2, hp, fr⟩ := hG
      have d0 : p0 ≠ p := np0p
      have d1 : t1 ≠ p := ne_of ht1 hp (by intro z; cases z)
      have d2 : t2 ≠ p := ne_of ht2 hp (by intro z; cases z)
      have hlen := fr.len
      -- found.append(here)
      refine ⟨.ref p, rfl, .inl ⟨rfl, _, SqL.of hp⟩, _, rfl, p, _, _, rfl, rfl, hp, sz (by rw [List.length_map]; omega), ?_⟩
      have hp0' := (upd_ne (o := .lst (as.map V.ref ++ [.ref t2])) d0).trans hp0
      have ht1' := (upd_ne (o := .lst (as.map V.ref ++ [.ref t2])) d1).trans ht1
      have ht2' := (upd_ne (o := .lst (as.map V.ref ++ [.ref t2])) d2).trans ht2
      have hp' : (upd H' p (.lst (as.map V.ref ++ [.ref t2]))) p = some (.lst (as.map V.ref ++ [.ref t2])) := upd_same
      have sm' : Same H (upd H' p (.lst (as.map V.ref ++ [.ref t2]))) := same_mut sm np1
      have fr' : Frs n (upd H' p (.lst (as.map V.ref ++ [.ref t2]))) (as ++ [t2]) (i + 1) := ⟨by rw [List.length_append, hlen]; rfl, fun j t e => by
        by_cases hj : j < as.length
        · rw [List.getElem?_append_left hj] at e
          have z := fr.at_ j t e
          rw [upd_ne (ne_of z hp (by intro z; cases z))]
          exact z
        · rw [List.getElem?_append_right (by omega)] at e
          have hj0 : j - as.length = 0 := by
            by_cases q : j - as.length = 0
            · exact q
            · rw [List.getElem?_eq_none (by rw [List.length_singleton]; omega)] at e
              cases e
          rw [hj0] at e
          have et : t2 = t := Option.some.inj e
          have ej : j = i := by omega
          subst et ej
          exact ht2'⟩
      generalize (upd H' p (.lst (as.map V.ref ++ [.ref t2]))) = H4 at *
      -- the quotient
      have hln : ((quots n (l + 1)).map V.int).length = l + 1 := by rw [List.length_map, quots_len]
      have hat : atI ((quots n (l + 1)).map V.int) ((0 + (i : Int)) % (((quots n (l + 1)).map V.int).length : Int)) = some (.int (aq n (rt n) i)) := by
        rw [hln, show (0 + (i : Int)) % (((l + 1 : Nat)) : Int) = ((i % (l + 1) : Nat) : Int) by rw [Int.zero_add]; rfl]
        rw [← aq_mod G L.one i]
        exact atI_nat (quots_at n (Nat.mod_lt _ (by omega)))
      refine ⟨_, rfl, _, rfl, _, rfl, p0, _, rfl, .inl (SqL.of hp0'), _, _, rfl, rfl, (by show (0 : Int) < (((quots n (l + 1)).map V.int).length : Int); rw [hln]; omega), p0, _, _, _, rfl, rfl, SqL.of hp0', hat, ?_⟩
      -- after
      obtain ⟨b1, b2, b3, b4⟩ := hk_big R i
      have S := small_at R i
      have a0 := S.a0
      have a1 := S.a1
      have ab : (aq n (rt n) i).natAbs < 2 ^ 10 := by omega
      have q1 := sq_pr (K := K) ht1'
      have q2 := sq_pr (K := K) ht2'
      refine ⟨_, rfl, _, rfl, _, _, _, _, rfl, rfl, q2, at0, _, _, rfl, rfl, mx 10 (10 * (i + 1)) ab b1 (by omega), _, rfl, _, _, _, _, rfl, rfl, q1, at0, _, _, rfl, rfl, _, rfl, _, rfl, _, _, _, _, rfl, rfl, q2, at1, _, _, rfl, rfl, mx 10 (10 * (i + 1)) ab b2 (by omega), _, rfl, _, _, _, _, rfl, rfl, q1, at1, _, _, rfl, rfl, (by show 2 ≤ sizeLine; decide), fun t3 nt3 => ?_⟩
      have s5 : Same H4 (upd H4 t3 (pr (hh n (rt n) (i + 1)) (kk n (rt n) (i + 1)))) := same_new nt3
      refine ⟨_, rfl, _, rfl, t2, t3, as ++ [t2], _, _, _, rfl, sm'.trans s5, s5 _ _ hp0', s5 _ _ ht2', upd_same, ?_, fr'.same s5⟩
      rw [List.map_append]
      exact s5 _ _ hp'
    · obtain ⟨t1, t2, as, y6, y7, y8, rfl, sm, hp0, ht1, ht2, hp, fr⟩ := hG
      exact ⟨_, rfl, q p as _ sm np1 hp fr⟩
end
/-! fractions, of what is looked at first -/
section
variable {P : Program} {w : World} {K : PySem.W.Frag} {mg : Str → Option Value} {base : Heap}
def spFractions : Sp := fun vs H Q _ => ∃ n m : Int, vs = [.int n, .int m] ∧ Rootn n ∧ 0 ≤ m ∧ m ≤ 200 ∧ ∀ p as H', Same H H' → H p = none → H' p = some (.lst (as.map V.ref)) → Frs n H' as m.toNat → Q (.ref p) H'
theorem ok_fractions {f : Addr} {fd : FuncData} (F : FunD K "fractions" "fractions" (defArgs s_fractions) (defBody s_fractions) (defScope s_fractions) [.int 10] [] f fd) (T : Tb mg) (D_need_number : Dn P w K mg base "need_number" 2 ["thing", "least", "most"] [] spNeed) (D_need_root : Dn P w K mg base "need_root" 3 ["number"] [] spNeedRoot)
    (D_fractions_of : Dn P w K mg base "fractions_of" 3 ["number", "many"] [] spFracsOf) : FnOk P w K mg base CX0 4 f fd ["number", "many"] spFractions := by
  refine F.ok sc_fractions (fun vs H Q E h => ?_) (fun cdv A outer s H vs Q E hr h => ?_)
  · obtain ⟨n, m, rfl, _⟩ := h
    rfl
  · obtain ⟨n, m, rfl, R, m0, m1, q⟩ := h
    refine ⟨_, PSs.nox (pss_cons (ps_expr (pe_callD D_need_number hr (by decide) (by rfl) (pa_cons (pv 0) (pa_cons pe_int (pa_cons (pe_globI (by rfl) T.g_MOST) pa_nil)))))
      (pss_cons (ps_expr (pe_callD D_need_number hr (by decide) (by rfl) (pa_cons (pv 1) (pa_cons pe_int (pa_cons (pe_globI (by rfl) T.g_MOST_FRACTIONS) pa_nil)))))
      (pss_cons (ps_expr (pe_callD D_need_root hr (by decide) (by rfl) (pa_cons (pv 0) pa_nil)))
      (pss_one (ps_ret (pe_callD D_fractions_of hr (by decide) (by rfl) (pa_cons (pv 0) (pa_cons (pv 1) pa_nil)))))))), ?_⟩
    refine ⟨_, rfl, n, 2, .int 100000, rfl, R.two, .inr ⟨_, rfl, R.most⟩, ?_⟩
    refine ⟨_, rfl, m, 0, .int 200, rfl, m0, .inr ⟨_, rfl, m1⟩, ?_⟩
    exact ⟨_, rfl, n, rfl, R, _, rfl, _, rfl, n, m, rfl, R, m0, by omega, q⟩
end
/-! rootladder.pairs -/
section
variable {P : Program} {w : World} {K : PySem.W.Frag} {mg : Str → Option Value} {base : Heap}
def wth (n x y : Int) : Int := x * x - n * y * y
def pr1 (n x y z v : Int) : Int := x * z + n * y * v
def pr2 (x y z v : Int) : Int := x * v + y * z
theorem n17 {n : Int} (h0 : 0 ≤ n) (h1 : n ≤ 100000) : n.natAbs < 2 ^ 17 := by omega
theorem pr_big {n x y z v : Int} {B C : Nat} (h0 : 0 ≤ n) (h1 : n ≤ 100000) (hx : x.natAbs < 2 ^ B) (hy : y.natAbs < 2 ^ B) (hz : z.natAbs < 2 ^ C) (hv : v.natAbs < 2 ^ C) : (pr1 n x y z v).natAbs < 2 ^ (B + C + 18) ∧ (pr2 x y z v).natAbs < 2 ^ (B + C + 18) := by
  have a1 := wide_lt hx hz
  have a2 := wide_lt (wide_lt (n17 h0 h1) hy) hv
  have a3 := wide_lt hx hv
  have a4 := wide_lt hy hz
  have e1 : 2 ^ (17 + B + C) = 2 ^ 17 * 2 ^ (B + C) := by rw [show 17 + B + C = 17 + (B + C) by omega, Nat.pow_add]
  have e2 : 2 ^ (B + C + 18) = 2 ^ (B + C) * 2 ^ 18 := Nat.pow_add ..
  unfold pr1 pr2
  rw [e1] at a2
  rw [e2]
  generalize 2 ^ (B + C) = D at *
  omega
def spWorthOf : Sp := fun vs H Q _ => ∃ (n x y : Int) (t : Addr) (B : Nat), vs = [.int n, .ref t] ∧ 0 ≤ n ∧ n ≤ 100000 ∧ H t = some (pr x y) ∧ x.natAbs < 2 ^ B ∧ y.natAbs < 2 ^ B ∧ B ≤ 40000000 ∧ Q (.int (wth n x y)) H
theorem ok_worth_of {f : Addr} {fd : FuncData} (F : Fun K "worth_of" "worth_of" s_worth_of f fd) : FnOk P w K mg base CX0 1 f fd ["number", "pair"] spWorthOf := by
  refine F.ok sc_worth_of (fun vs H Q E h => ?_) (fun cdv A outer s H vs Q E hr h => ?_)
  · obtain ⟨n, x, y, t, B, rfl, _⟩ := h
    rfl
  · obtain ⟨n, x, y, t, B, rfl, n0, n1, ht, hx, hy, hB, q⟩ := h
    refine ⟨_, (pss_one (ps_ret (pe_op op_sub (pe_op op_mulX (pe_ix (ixt (K := K) rfl) (pv 1) pe_int (fun _ _ => rfl)) (pe_ix (ixt (K := K) rfl) (pv 1) pe_int (fun _ _ => rfl))) (pe_op op_mulX (pe_op op_mulX (pv 0) (pe_ix (ixt (K := K) rfl) (pv 1) pe_int (fun _ _ => rfl))) (pe_ix (ixt (K := K) rfl) (pv 1) pe_int (fun _ _ => rfl)))))), ?_⟩
    have st : SqT K H t [.int x, .int y] := .inl (.inl ht)
    refine ⟨_, rfl, _, _, _, _, rfl, rfl, st, at0, _, rfl, _, _, _, _, rfl, rfl, st, at0, _, _, rfl, rfl, mx B B hx hx (by omega), ?_⟩
    exact ⟨_, rfl, _, rfl, _, _, _, _, rfl, rfl, st, at1, _, _, rfl, rfl, mx 17 B (n17 n0 n1) hy (by omega), _, rfl, _, _, _, _, rfl, rfl, st, at1, _, _, rfl, rfl, mx (17 + B) B (wide_lt (n17 n0 n1) hy) hy (by omega), _, _, rfl, rfl, q⟩
end
/-! rows of pairs -/
section
/-- as are the first m places of a row of pairs -/
structure Row (f : Nat → Int × Int) (H : Hp) (as : List Addr) (m : Nat) : Prop where
  len : as.length = m
  at_ : ∀ i t, as[i]? = some t → H t = some (pr (f i).1 (f i).2)
theorem Row.same {f : Nat → Int × Int} {H H' : Hp} {as : List Addr} {m : Nat} (h : Row f H as m) (s : Same H H') : Row f H' as m := ⟨h.len, fun i t e => s _ _ (h.at_ i t e)⟩
/-- one more, on the list that is at p -/
theorem Row.more {f : Nat → Int × Int} {H : Hp} {as : List Addr} {m : Nat} {p t : Addr} {xs : List V} {o : List V} (h : Row f H as m) (hp : H p = some (.lst xs)) (ht : H t = some (pr (f m).1 (f m).2)) : Row f (upd H p (.lst o)) (as ++ [t]) (m + 1) := by
  have hl := h.len
  refine ⟨by rw [List.length_append, hl]; rfl, fun j u e => ?_⟩
  by_cases hj : j < as.length
  · rw [List.getElem?_append_left hj] at e
    have z := h.at_ j u e
    rw [upd_ne (ne_of z hp (by intro z; cases z))]
    exact z
  · rw [List.getElem?_append_right (by omega)] at e
    have hj0 : j - as.length = 0 := by
      by_cases q : j - as.length = 0
      · exact q
      · rw [List.getElem?_eq_none (by rw [List.length_singleton]; omega)] at e
        cases e
    rw [hj0] at e
    have et : t = u := Option.some.inj e
    have ej : j = m := by omega
    subst et ej
    rw [upd_ne (ne_of ht hp (by intro z; cases z))]
    exact ht
theorem Row.over {f : Nat → Int × Int} {H : Hp} {as : List Addr} {m : Nat} {p : Addr} {xs o : List V} (h : Row f H as m) (hp : H p = some (.lst xs)) : Row f (upd H p (.lst o)) as m := ⟨h.len, fun j u e => by
  have z := h.at_ j u e
  rw [upd_ne (ne_of z hp (by intro z; cases z))]
  exact z⟩
theorem dpAll_of {K : PySem.W.Frag} {H : Hp} : ∀ {as : List Addr} {ds : List PyData}, as.length = ds.length → (∀ (i : Nat) t d, as[i]? = some t → ds[i]? = some d → Dp K H (.ref t) d) → DpAll K H (as.map V.ref) ds
  | [], [], _, _ => .nil
  | [], _ :: _, h, _ => by simp at h
  | _ :: _, [], h, _ => by simp at h
  | a :: as, d :: ds, h, k => .cons (k 0 a d rfl rfl) (dpAll_of (Nat.succ.inj h) fun i t e h1 h2 => k (i + 1) t e h1 h2)
def dRow (f : Nat → Int × Int) (m : Nat) : List PyData := (List.range m).map (fun i => .tuple [.int (f i).1, .int (f i).2])
theorem dp_row {K : PySem.W.Frag} {f : Nat → Int × Int} {H : Hp} {p : Addr} {as : List Addr} {m : Nat} (h : H p = some (.lst (as.map V.ref))) (r : Row f H as m) : Dp K H (.ref p) (.list (dRow f m)) := by
  refine .lst (SqL.of h) (dpAll_of ?_ fun i t d h1 h2 => ?_)
  · unfold dRow
    rw [List.length_map, List.length_range, r.len]
  · unfold dRow at h2
    rw [List.getElem?_map] at h2
    have hi : i < m := by
      have := (List.getElem?_eq_some_iff.mp h1).1
      rw [r.len] at this
      exact this
    rw [List.getElem?_range hi] at h2
    have e := Option.some.inj h2
    subst e
    exact dp_pr (r.at_ i t h1)
theorem shaped_row (f : Nat → Int × Int) (m : Nat) : SeqAt.shaped (.list (dRow f m)) = true := by
  have key : ∀ l : List Nat, PyData.canLayAll0 (l.map (fun i => PyData.tuple [.int (f i).1, .int (f i).2])) = true ∧ PyData.depthAll (l.map (fun i => PyData.tuple [.int (f i).1, .int (f i).2])) ≤ 2 := fun l => by
    induction l with
    | nil => exact ⟨rfl, by simp [PyData.depthAll]⟩
    | cons i l ih =>
      refine ⟨?_, ?_⟩
      · rw [List.map_cons]
        show (PyData.canLay0 (.tuple [.int (f i).1, .int (f i).2]) && PyData.canLayAll0 _) = true
        rw [ih.1]
        rfl
      · rw [List.map_cons]
        have := ih.2
        simp only [PyData.depthAll, PyData.depth] at this ⊢
        omega
  obtain ⟨a, b⟩ := key (List.range m)
  unfold SeqAt.shaped
  rw [Bool.and_eq_true]
  refine ⟨a, decide_eq_true ?_⟩
  unfold dRow
  simp only [PyData.depth]
  omega
theorem row_ref {as : List Addr} {i : Nat} {x : V} (h : (as.map V.ref)[i]? = some x) : ∃ t, as[i]? = some t ∧ x = .ref t := by
  rw [List.getElem?_map] at h
  cases e : as[i]? with
  | none => rw [e] at h; cases h
  | some t =>
    rw [e] at h
    exact ⟨t, rfl, (Option.some.inj h).symm⟩
end
/-! rootladder.solving: reach -/
section
variable {P : Program} {w : World} {K : PySem.W.Frag} {mg : Str → Option Value} {base : Heap}
theorem Frs.over {n : Int} {H : Hp} {as : List Addr} {m : Nat} {p : Addr} {xs o : List V} (h : Frs n H as m) (hp : H p = some (.lst xs)) : Frs n (upd H p (.lst o)) as m := ⟨h.len, fun j u e => by
  have z := h.at_ j u e
  rw [upd_ne (ne_of z hp (by intro z; cases z))]
  exact z⟩
def spBySize : Sp := fun vs H Q _ => ∃ (t : Addr) (x y : Int), vs = [.ref t] ∧ H t = some (pr x y) ∧ Q (.int y) H
theorem ok_by_size {f : Addr} {fd : FuncData} (F : Fun K "by_size" "by_size" s_by_size f fd) : FnOk P w K mg base CX0 1 f fd ["pair"] spBySize := by
  refine F.ok sc_by_size (fun vs H Q E h => ?_) (fun cdv A outer s H vs Q E hr h => ?_)
  · obtain ⟨t, x, y, rfl, _⟩ := h
    rfl
  · obtain ⟨t, x, y, rfl, ht, q⟩ := h
    refine ⟨_, (pss_one (ps_ret (pe_ix (ixt (K := K) rfl) (pv 0) pe_int (fun _ _ => rfl)))), ?_⟩
    have st := sq_pr (K := K) ht
    exact ⟨_, rfl, t, _, _, _, rfl, rfl, st, at1, q⟩
/-- one more, of a row -/
def put (f : Nat → Int × Int) (m : Nat) (z : Int × Int) : Nat → Int × Int := fun i => if i = m then z else f i
theorem put_at {f : Nat → Int × Int} {m : Nat} {z : Int × Int} : put f m z m = z := by
  unfold put
  rw [if_pos rfl]
theorem put_lt {f : Nat → Int × Int} {m i : Nat} {z : Int × Int} (h : i < m) : put f m z i = f i := by
  unfold put
  rw [if_neg (by omega)]
theorem Row.put {f : Nat → Int × Int} {H : Hp} {as : List Addr} {m : Nat} {z : Int × Int} (h : Row f H as m) : Row (put f m z) H as m := ⟨h.len, fun i t e => by
  have hi := (List.getElem?_eq_some_iff.mp e).1
  rw [h.len] at hi
  rw [put_lt hi]
  exact h.at_ i t e⟩
/-- what is found up to a place -/
structure Some_ (n : Int) (l : Nat) (c : Int) (J : Nat) (B : Int) (f : Nat → Int × Int) (m : Nat) : Prop where
  sound : ∀ i, i < m → Cand n (rt n) l c (f i).1 (f i).2
  all : ∀ (j : Nat) (b : Int), (j < J ∨ (j = J ∧ b < B)) → 1 ≤ b → own n (rt n) j * b * b = c → ∃ i, i < m ∧ f i = (hh n (rt n) j * b, kk n (rt n) j * b)
  few : m ≤ 20 * J + (B - 1).toNat
theorem Some_.skip {n c B : Int} {l J m : Nat} {f : Nat → Int × Int} (h : Some_ n l c J B f m) (hb : 1 ≤ B) (hn : own n (rt n) J * B * B ≠ c) : Some_ n l c J (B + 1) f m := ⟨h.sound, fun j b hj b1 e => by
  refine h.all j b ?_ b1 e
  rcases hj with hj | ⟨rfl, hb⟩
  · exact .inl hj
  · refine .inr ⟨rfl, ?_⟩
    by_cases q : b = B
    · rw [q] at e
      exact absurd e hn
    · omega, by have := h.few; omega⟩
theorem Some_.put {n c B : Int} {l J m : Nat} {f : Nat → Int × Int} (h : Some_ n l c J B f m) (hJ : J < 2 * (l + 1)) (hb : 1 ≤ B) (e : own n (rt n) J * B * B = c) : Some_ n l c J (B + 1) (put f m (hh n (rt n) J * B, kk n (rt n) J * B)) (m + 1) := ⟨fun i hi => by
  by_cases q : i = m
  · rw [q, put_at]
    exact ⟨J, B, hJ, hb, e, rfl, rfl⟩
  · rw [put_lt (by omega)]
    exact h.sound i (by omega), fun j b hj b1 e' => by
  by_cases q : j = J ∧ b = B
  · obtain ⟨rfl, rfl⟩ := q
    exact ⟨m, by omega, put_at⟩
  · obtain ⟨i, h1, h2⟩ := h.all j b (by
      rcases hj with hj | ⟨rfl, hb⟩
      · exact .inl hj
      · refine .inr ⟨rfl, ?_⟩
        by_cases q2 : b = B
        · exact absurd ⟨rfl, q2⟩ q
        · omega) b1 e'
    exact ⟨i, by omega, by rw [put_lt h1]; exact h2⟩, by have := h.few; omega⟩
theorem Some_.next {n c B : Int} {l J m : Nat} {f : Nat → Int × Int} (G : Good n (rt n)) (h : Some_ n l c J B f m) (hb : 1 ≤ B) (hB : B ≤ 21) (stop : ab c < B * B) : Some_ n l c (J + 1) 1 f m := ⟨h.sound, fun j b hj b1 e => by
  refine h.all j b ?_ b1 e
  rcases hj with hj | ⟨_, hb⟩
  · by_cases q : j < J
    · exact .inl q
    · have ej : j = J := by omega
      subst ej
      refine .inr ⟨rfl, ?_⟩
      have := ab_of (own_big G j) e
      by_cases q2 : b < B
      · exact q2
      · have := Int.mul_le_mul (show B ≤ b by omega) (show B ≤ b by omega) (by omega) (by omega)
        omega
  · omega, by have := h.few; omega⟩
theorem small_by {B c : Int} (h : B * B ≤ ab c) (hc : ab c ≤ 316) : B ≤ 17 := by
  by_cases q : B ≤ 17
  · exact q
  · have := Int.mul_le_mul (show (18 : Int) ≤ B by omega) (show (18 : Int) ≤ B by omega) (by omega) (by omega)
    omega
def spReach : Sp := fun vs H Q _ => ∃ n c : Int, vs = [.int n, .int c] ∧ Rootn n ∧ c ≠ 0 ∧ c * c < n ∧ ∀ l H', Last n (rt n) l → Same H H' → ((∀ x y, ¬ Cand n (rt n) l c x y) → Q .non H') ∧ ∀ x y t, Reach n (rt n) l c x y → H' t = some (pr x y) → Q (.ref t) H'
theorem ok_reach {f : Addr} {fd : FuncData} (F : Fun K "reach" "reach" s_reach f fd) (T : Tb mg) (D_is_number : Dn P w K mg base "is_number" 1 ["thing"] [] spIsNum) (D_need_number : Dn P w K mg base "need_number" 2 ["thing", "least", "most"] [] spNeed)
    (D_need_root : Dn P w K mg base "need_root" 3 ["number"] [] spNeedRoot) (D_round_of : Dn P w K mg base "round_of" 2 ["number"] [] spRoundOf) (D_fractions_of : Dn P w K mg base "fractions_of" 3 ["number", "many"] [] spFracsOf)
    (D_worth_of : Dn P w K mg base "worth_of" 1 ["number", "pair"] [] spWorthOf) (D_by_size : Dn P w K mg base "by_size" 1 ["pair"] [] spBySize) : FnOk P w K mg base CX0 4 f fd ["number", "told"] spReach := by
  obtain ⟨fb, fdb, dsb, Fb, hmb, hkb, hbb, hdb⟩ := D_by_size.ex
  cases hdb
  refine F.ok sc_reach (fun vs H Q E h => ?_) (fun cdv A outer s H vs Q E hr h => ?_)
  · obtain ⟨n, c, rfl, _⟩ := h
    rfl
  · obtain ⟨n, c, rfl, R, c0, c1, q⟩ := h
    have n0 : 0 ≤ n := by have := R.two; omega
    have nm := R.most
    have G := R.good
    obtain ⟨cl, cu⟩ := told_in G c1
    have r316 := R.r316
    have ac : ab c ≤ 316 := by unfold ab; split <;> omega
    have cb : c.natAbs < 2 ^ 10 := by omega
    refine ⟨_, PSs.nox (pss_cons (ps_expr (pe_callD D_need_number hr (by decide) (by rfl) (pa_cons (pv 0) (pa_cons pe_int (pa_cons (pe_globI (by rfl) T.g_MOST) pa_nil)))))
      (pss_cons (ps_if (pt_not (pt_val (pe_callD D_is_number hr (by decide) (by rfl) (pa_cons (pv 1) pa_nil))))
        (pss_one ps_never) pss_nil)
      (pss_cons (ps_expr (pe_callD D_need_root hr (by decide) (by rfl) (pa_cons (pv 0) pa_nil)))
      (pss_cons (ps_if (PW.pt (pw_or (pt_cmpR op_eq (pv 1) pe_int (nomark _)) (pw_or1 (pt_cmpR op_ge (pe_op op_mulX (pv 1) (pv 1)) (pv 0) (nomark _)))))
        (pss_one ps_never) pss_nil)
      (pss_cons (ps_set (i := 2) sc_reach.nd rfl (.inl rfl) (pe_lst pa_nil))
      (pss_cons (ps_for PassesOwn.never rfl (pi_list (pe_callD D_fractions_of hr (by decide) (by rfl) (pa_cons (pv 0) (pa_cons (pe_op op_mulX pe_int (pe_callB (id := "len") (len_rule (K := K) rfl) (by rfl) T.b_len (by decide +kernel) (pa_cons (pe_callD D_round_of hr (by decide) (by rfl) (pa_cons (pv 0) pa_nil)) pa_nil))) pa_nil)))) (pg_name (i := 3) sc_reach.nd rfl (.inl rfl))
        (pss_cons (ps_set (i := 4) sc_reach.nd rfl (.inl rfl) (pe_callD D_worth_of hr (by decide) (by rfl) (pa_cons (pv 0) (pa_cons (pv 3) pa_nil))))
      (pss_cons (ps_set (i := 5) sc_reach.nd rfl (.inl rfl) pe_int)
      (pss_one (ps_while PassesOwn.never (pt_cmpR op_le (pe_op op_mulX (pv 5) (pv 5)) (pe_callB (id := "abs") call_abs (by rfl) T.b_abs (by decide +kernel) (pa_cons (pv 1) pa_nil)) (nomark _))
        (pss_cons (ps_if (pt_cmpR op_eq (pe_op op_mulX (pe_op op_mulX (pv 4) (pv 5)) (pv 5)) (pv 1) (nomark _))
        (pss_one (ps_expr (pe_bm PySem.F.plainAttrs_list PySem.F.slot_list_append PySem.F.type_list_append mt_append (pv 2) (pa_cons (pe_tup (pa_cons (pe_op op_mulX (pe_ix (ixt (K := K) rfl) (pv 3) pe_int (fun _ _ => rfl)) (pv 5)) (pa_cons (pe_op op_mulX (pe_ix (ixt (K := K) rfl) (pv 3) pe_int (fun _ _ => rfl)) (pv 5)) pa_nil))) pa_nil)))) pss_nil)
      (pss_one (ps_aug (i := 5) sc_reach.nd rfl (.inl rfl) pe_int ip_add))))))))
      (pss_cons (ps_if (pt_cmpR (op_eqD hr.units) (pv 2) (pe_lst pa_nil) (nomark _))
        (pss_one (ps_ret pe_non)) pss_nil)
      (pss_one (ps_ret (pe_callBK (call_minKey Fb (hr.mono (by decide)) hbb) (by rfl) T.b_min rfl (pa_cons (pv 2) pa_nil) (pk_cons (pe_glob (v := .ref fb) (by rfl) hmb rfl) pk_nil))))))))))), ?_⟩
    refine ⟨_, rfl, n, 2, .int 100000, rfl, R.two, .inr ⟨_, rfl, R.most⟩, ?_⟩
    refine ⟨_, rfl, c, rfl, _, rfl, ifF rfl ?_⟩
    refine ⟨_, rfl, n, rfl, R, ?_⟩
    refine ⟨_, rfl, rfl, _, rfl, ifF ?_ ?_⟩
    · rw [dec_int]
      exact decide_eq_false c0
    refine ⟨_, rfl, _, rfl, _, _, rfl, rfl, mx 10 10 cb cb, _, rfl, _, _, rfl, rfl, _, rfl, ifF (decide_eq_false (by omega)) ?_⟩
    -- some = []
    refine ⟨Nat.zero_le _, fun p np => ?_⟩
    have s1 : Same H (upd H p (.lst [])) := same_new np
    have hp1 : (upd H p (.lst [])) p = some (.lst []) := upd_same
    show tSeq _ _ _ _ (upd H p (.lst []))
    generalize (upd H p (.lst [])) = H1 at *
    refine ⟨_, rfl, _, rfl, n, rfl, R, fun l p0 H2 L s2 np0 hp0 => ?_⟩
    have lsm := last_small R L
    have hln : ((quots n (l + 1)).map V.int).length = l + 1 := by rw [List.length_map, quots_len]
    refine ⟨p0, _, rfl, .inl (SqL.of hp0), _, _, rfl, rfl, mx 4 20 (by decide) (by rw [hln]; omega), n, _, rfl, R, by omega, by rw [hln]; omega, fun p2 as H3 s3 np2 hp2 fr => ?_⟩
    rw [hln] at fr
    have flen := fr.len
    have e2L : ((2 : Int) * ((l + 1 : Nat) : Int)).toNat = 2 * (l + 1) := by omega
    rw [e2L] at fr flen
    have hpp : p2 ≠ p := fun e => by
      have := s2.trans s3 p _ hp1
      rw [← e] at this
      have z := s2 _ _ hp1
      rw [e] at np2
      rw [np2] at z
      cases z
    refine ⟨p2, rfl, ⟨_, SqL.of hp2⟩, for_list (K := K) (a := p2) (xs := as.map V.ref) (fun i σ H' => ∃ (f : Nat → Int × Int) (bs : List Addr) (m : Nat) (y3 y4 y5 : Option V), σ = [some (.int n), some (.int c), some (.ref p), y3, y4, y5] ∧ Same H H' ∧
        H' p2 = some (.lst (as.map V.ref)) ∧ Frs n H' as (2 * (l + 1)) ∧ H' p = some (.lst (bs.map V.ref)) ∧ Row f H' bs m ∧ Some_ n l c i 1 f m)
      ⟨fun _ => (0, 0), [], 0, none, none, none, rfl, s1.trans (s2.trans s3), hp2, fr, s3 _ _ (s2 _ _ hp1), ⟨rfl, fun i t e => by simp at e⟩, ⟨fun i hi => absurd hi (Nat.not_lt_zero _), fun j b hj b1 e => by omega, Nat.zero_le _⟩⟩ (fun i σ H' _ hG => ?_) (fun i x σ H' hx hG => ?_) (fun σ H' hG => ?_)⟩
    · obtain ⟨_, _, _, _, _, _, _, _, hp2', _⟩ := hG
      exact SqL.of hp2'
    · obtain ⟨f, bs, m, y3, y4, y5, rfl, sm, hp2, fr, hp, row, so⟩ := hG
      obtain ⟨t, hat, rfl⟩ := row_ref hx
      have hi : i < 2 * (l + 1) := by
        have := (List.getElem?_eq_some_iff.mp hat).1
        rw [flen] at this
        exact this
      have ht := fr.at_ i t hat
      obtain ⟨b1, b2, _, _⟩ := hk_big R i
      have S := small_at R i
      have q0 := S.q0
      have q1 := S.q1
      have ew : wth n (hh n (rt n) i) (kk n (rt n) i) = own n (rt n) i := by
        have := own_eq G i
        unfold wth
        rw [Int.mul_assoc]
        exact this
      have ob : (own n (rt n) i).natAbs < 2 ^ 10 := by
        unfold own
        rcases sg_mod i with ⟨_, s⟩ | ⟨_, s⟩ <;> rw [s] <;> omega
      refine ⟨_, rfl, _, rfl, n, _, _, t, 10 * (i + 1), rfl, n0, nm, ht, b1, b2, by omega, ?_⟩
      rw [ew]
      -- while by * by <= abs(told)
      refine ⟨fun k σ H'' => ∃ (B : Int) (f : Nat → Int × Int) (bs : List Addr) (m : Nat), σ = [some (.int n), some (.int c), some (.ref p), some (.ref t), some (.int (own n (rt n) i)), some (.int B)] ∧ Same H H'' ∧
        H'' p2 = some (.lst (as.map V.ref)) ∧ Frs n H'' as (2 * (l + 1)) ∧ H'' p = some (.lst (bs.map V.ref)) ∧ Row f H'' bs m ∧ Some_ n l c i B f m ∧ 1 ≤ B ∧ B ≤ 18 ∧ k = (20 - B).toNat,
        ⟨_, 1, f, bs, m, rfl, sm, hp2, fr, hp, row, so, by decide, by decide, rfl⟩, fun k σ H'' hW => ?_⟩
      obtain ⟨B, f, bs, m, rfl, sm, hp2, fr, hp, row, so, B1, B18, rfl⟩ := hW
      have Bb : B.natAbs < 2 ^ 5 := by omega
      refine ⟨_, rfl, _, rfl, _, _, rfl, rfl, mx 5 5 Bb Bb, _, rfl, _, rfl, _, _, rfl, rfl, _, rfl, ite2 (fun hc => ?_) (fun hc => ?_)⟩
      · rw [decide_eq_true_eq] at hc
        have B17 := small_by (c := c) hc ac
        refine ⟨fun σ' H3 => ∃ m', m' < _ ∧ ∃ (B : Int) (f : Nat → Int × Int) (bs : List Addr) (m : Nat), σ' = [some (.int n), some (.int c), some (.ref p), some (.ref t), some (.int (own n (rt n) i)), some (.int B)] ∧ Same H H3 ∧
          H3 p2 = some (.lst (as.map V.ref)) ∧ Frs n H3 as (2 * (l + 1)) ∧ H3 p = some (.lst (bs.map V.ref)) ∧ Row f H3 bs m ∧ Some_ n l c i B f m ∧ 1 ≤ B ∧ B ≤ 18 ∧ m' = (20 - B).toNat, fun _ _ h => h, ?_⟩
        refine ⟨_, rfl, _, rfl, _, _, rfl, rfl, mx 10 5 ob Bb, _, rfl, _, _, rfl, rfl, mx 15 5 (wide_lt ob Bb) Bb, _, rfl, rfl, _, rfl, if2 (fun hd => ?_) (fun hd => ?_)⟩
        · rw [dec_int, decide_eq_true_eq] at hd
          have st := sq_pr (K := K) (fr.at_ i t hat)
          have few := so.few
          have hl := row.len
          refine ⟨.ref p, rfl, .inl ⟨rfl, _, SqL.of hp⟩, _, rfl, _, _, _, _, rfl, rfl, st, at0, _, rfl, _, _, rfl, rfl, mx (10 * (i + 1)) 5 b1 Bb (by omega), _, rfl, _, _, _, _, rfl, rfl, st, at1, _, rfl, _, _, rfl, rfl, mx (10 * (i + 1)) 5 b2 Bb (by omega), (by show 2 ≤ sizeLine; decide), fun u nu => ?_⟩
          have s4 : Same H'' (upd H'' u (pr (hh n (rt n) i * B) (kk n (rt n) i * B))) := same_new nu
          have hu : (upd H'' u (pr (hh n (rt n) i * B) (kk n (rt n) i * B))) u = some (pr (hh n (rt n) i * B) (kk n (rt n) i * B)) := upd_same
          have hp4 := s4 _ _ hp
          have hp24 := s4 _ _ hp2
          have fr4 := fr.same s4
          have row4 := row.same s4
          have sm4 := sm.trans s4
          refine ⟨p, _, _, rfl, rfl, hp4, Nat.lt_of_le_of_lt (show (bs.map V.ref).length ≤ 9000000 by rw [List.length_map]; omega) (by decide), ?_⟩
          refine ⟨_, rfl, _, _, rfl, rfl, _, (by show (20 - (B + 1)).toNat < _; omega), B + 1, _, bs ++ [u], m + 1, rfl, same_mut sm4 np, (upd_ne hpp).trans hp24, fr4.over hp4, ?_, Row.more (f := put f m (hh n (rt n) i * B, kk n (rt n) i * B)) row4.put hp4 (by rw [put_at]; exact hu), so.put hi B1 hd, by omega, by omega, rfl⟩
          rw [List.map_append]
          exact upd_same
        · rw [dec_int, decide_eq_false_iff_not] at hd
          exact ⟨_, rfl, _, _, rfl, rfl, _, (by show (20 - (B + 1)).toNat < _; omega), B + 1, f, bs, m, rfl, sm, hp2, fr, hp, row, so.skip B1 hd, by omega, by omega, rfl⟩
      · rw [decide_eq_true_eq] at hc
        have hc : ¬ B * B ≤ ab c := hc
        exact ⟨f, bs, m, _, _, _, rfl, sm, hp2, fr, hp, row, so.next G B1 (by omega) (by omega)⟩
    · obtain ⟨f, bs, m, y3, y4, y5, rfl, sm, hp2, fr, hp, row, so⟩ := hG
      rw [List.length_map, flen] at so
      have hl := row.len
      refine ⟨_, rfl, Nat.zero_le _, fun e ne => ?_⟩
      have s5 : Same H' (upd H' e (.lst [])) := same_new ne
      refine ⟨_, _, dp_row (s5 _ _ hp) (row.same s5), .lst (SqL.of upd_same) .nil, shaped_row _ _, rfl, _, rfl, if2 (fun hz => ?_) (fun hz => ?_)⟩
      · have m0 : m = 0 := by
          cases m with
          | zero => rfl
          | succ k =>
            unfold dRow at hz
            rw [List.range_succ_eq_map] at hz
            exact absurd (show false = true from hz) (by decide)
        refine (q l _ L (sm.trans s5)).1 fun x y ⟨j, b, hj, hb, hc, _⟩ => ?_
        obtain ⟨i, hi, _⟩ := so.all j b (.inl hj) hb hc
        omega
      · have m0 : 0 < m := by
          cases m with
          | zero => exact absurd (show true = false from hz) (by decide)
          | succ k => omega
        refine ⟨_, rfl, p, bs.map V.ref, fun i => (f i).2, rfl, rfl, SqL.of (s5 _ _ hp), by rw [List.length_map]; omega, fun i x hx H6 s6 => ?_, fun i x H6 hx low s6 => ?_⟩
        · obtain ⟨t, hat, rfl⟩ := row_ref hx
          exact ⟨t, _, _, rfl, s6 _ _ (s5 _ _ (row.at_ i t hat)), rfl, rfl⟩
        · obtain ⟨t, hat, rfl⟩ := row_ref hx
          have hi := (List.getElem?_eq_some_iff.mp hat).1
          refine (q l H6 L (sm.trans (s5.trans s6))).2 _ _ t ⟨so.sound i (by omega), fun x' y' hc => ?_⟩ (s6 _ _ (s5 _ _ (row.at_ i t hat)))
          obtain ⟨j, b, hj, hb, he, _, ey⟩ := hc
          obtain ⟨k, hk, ek⟩ := so.all j b (.inl hj) hb he
          have : (f i).2 ≤ (f k).2 := low k (by rw [List.length_map]; omega)
          rw [ek] at this
          rw [ey]
          exact this
end
/-! the law -/
section
variable {P : Program} {w : World} {K : PySem.W.Frag} {mg : Str → Option Value} {base : Heap}
def spTried : Sp := fun vs H Q _ => ∃ n d m : Int, vs = [.int n, .int d, .int m] ∧ 0 ≤ n ∧ n ≤ 100000 ∧ -400 ≤ d ∧ d ≤ 400 ∧ - n < d ∧ 0 ≤ m ∧ m ≤ 30 ∧ (∀ x y : Int, 1 ≤ y → y < m → 0 < x → x * x - n * (y * y) ≠ d) ∧ Q .non H
theorem ok_law_tried {f : Addr} {fd : FuncData} (F : Fun K "_law_tried" "_law_tried" s_l_tried f fd) (T : Tb mg) (D_law_root : Dn P w K mg base "_law_root" 1 ["_law_number_here"] [] spRooted) :
    FnOk P w K mg base CX0 2 f fd ["_law_number_here", "_law_more", "_law_most"] spTried := by
  refine F.ok sc_l_tried (fun vs H Q E h => ?_) (fun cdv A outer s H vs Q E hr h => ?_)
  · obtain ⟨n, d, m, rfl, _⟩ := h
    rfl
  · obtain ⟨n, d, m, rfl, n0, n1, d0, d1, dn, m0, m1, hno, q⟩ := h
    refine ⟨_, (pss_cons (ps_for PassesOwn.never rfl (pi_range2 (by rfl) T.b_range (pa_cons pe_int (pa_cons (pv 2) pa_nil))) (pg_name (i := 3) sc_l_tried.nd rfl (.inl rfl))
        (pss_cons (ps_set (i := 4) sc_l_tried.nd rfl (.inl rfl) (pe_op op_add (pe_op op_mulX (pe_op op_mulX (pv 0) (pv 3)) (pv 3)) (pv 1)))
      (pss_cons (ps_set (i := 5) sc_l_tried.nd rfl (.inl rfl) (pe_ifExp (pt_cmpR op_ge (pv 4) pe_int (nomark _)) (pe_callD D_law_root hr (by decide) (by rfl) (pa_cons (pv 4) pa_nil)) pe_int))
      (pss_one (ps_if (PW.pt (pw_and (pt_cmpR op_ge (pv 4) pe_int (nomark _)) (pw_and1 (pt_cmpR op_eq (pe_op op_mulX (pv 5) (pv 5)) (pv 4) (nomark _)))))
        (pss_one (ps_ret (pv 3))) pss_nil)))))
      (pss_one (ps_ret pe_non))), ?_⟩
    refine ⟨_, rfl, 1, m, rfl, ⟨by decide, by decide, by omega, by omega⟩, for_range (lo := 1) (n := (m - 1).toNat) (fun i σ H' => H' = H ∧ ∃ y3 y4 y5 : Option V, σ = [some (.int n), some (.int d), some (.int m), y3, y4, y5]) ⟨rfl, none, none, none, rfl⟩ (fun i σ H' hi hG => ?_) (fun σ H' hG => ?_)⟩
    · obtain ⟨rfl, y3, y4, y5, rfl⟩ := hG
      have y0 : 1 ≤ (1 + (i : Nat) : Int) := by omega
      have ym : (1 + (i : Nat) : Int) < m := by omega
      have inv : ∀ (a b c : Option V), H' = H' ∧ ∃ y3 y4 y5 : Option V, [some (V.int n), some (.int d), some (.int m), a, b, c] = [some (.int n), some (.int d), some (.int m), y3, y4, y5] := fun a b c => ⟨rfl, a, b, c, rfl⟩
      generalize (1 + (i : Nat) : Int) = y at *
      have a0 : n ≤ n * y := by
        have := Int.mul_le_mul_of_nonneg_left y0 n0
        omega
      have a1 : n * y ≤ 100000 * 30 := Int.mul_le_mul n1 (by omega) (by omega) (by decide)
      have b0 : n ≤ n * y * y := by
        have := Int.mul_le_mul_of_nonneg_left y0 (show 0 ≤ n * y by omega)
        omega
      have b1 : n * y * y ≤ 100000 * 30 * 30 := Int.mul_le_mul a1 (by omega) (by omega) (by decide)
      refine ⟨_, rfl, _, rfl, _, _, rfl, rfl, mx 30 30 (by omega) (by omega), _, rfl, _, _, rfl, rfl, mx 30 30 (by omega) (by omega), _, rfl, _, _, rfl, rfl, ?_⟩
      have hq : ∀ x : Int, 0 < x → x * x ≠ n * y * y + d := fun x hx e => hno x y y0 ym hx (by rw [← Int.mul_assoc]; omega)
      have qb : n * y * y + d < 2 ^ 1000 := Int.lt_of_le_of_lt (show n * y * y + d ≤ 100000 * 30 * 30 + 400 by omega) (by decide +kernel)
      have hs : n * y * y + d ≥ 0 := by omega
      refine ⟨_, rfl, _, _, rfl, rfl, _, rfl, ifT (decide_eq_true hs) ⟨_, rfl, _, rfl, by omega, qb, ?_⟩⟩
      have rb := rt_big (show 0 ≤ n * y * y + d by omega) qb
      refine ⟨_, rfl, _, _, rfl, rfl, _, rfl, ifT (decide_eq_true hs) ⟨_, rfl, _, rfl, _, _, rfl, rfl, mx 1003 1003 rb rb, _, rfl, rfl, _, rfl, ifF ?_ (inv _ _ _)⟩⟩
      rw [dec_int]
      refine decide_eq_false fun e => ?_
      obtain ⟨r0, _, _⟩ := rt_spec (show 0 ≤ n * y * y + d by omega)
      refine hq _ ?_ e
      by_cases z : rt (n * y * y + d) = 0
      · rw [z] at e
        omega
      · omega
    · obtain ⟨rfl, _⟩ := hG
      exact q
/-- a worth within the bound -/
def spToldBy : Sp := fun vs H Q _ => ∃ n m : Int, vs = [.int n, .int m] ∧ Rootn n ∧ 0 ≤ m ∧ m < 2147483629 ∧ ∀ c H', Same H H' → c ≠ 0 → - rt n ≤ c → c ≤ rt n → (0 < m % 4 → ∃ x y, Worth n c x y) → Q (.int c) H'
theorem ab_dec {c : Int} : (if c < 0 then -c else c) = ab c := rfl
theorem ab_le {c r : Int} (h : ab c ≤ r) : - r ≤ c ∧ c ≤ r := by
  unfold ab at h
  split at h <;> omega
theorem ab_pos {c : Int} (h : 0 < ab c) : c ≠ 0 := fun e => by
  rw [e] at h
  exact absurd h (by decide)
theorem Worth.by {n c x y b : Int} (h : Worth n c x y) (hb : 1 ≤ b) : Worth n (c * b * b) (x * b) (y * b) := by
  obtain ⟨x1, y1, e⟩ := h
  refine ⟨?_, ?_, ?_⟩
  · have := Int.mul_le_mul x1 hb (by omega) (by omega)
    omega
  · have := Int.mul_le_mul y1 hb (by omega) (by omega)
    omega
  · rw [← e]
    grind
theorem ok_law_told_by {f : Addr} {fd : FuncData} (F : Fun K "_law_told_by" "_law_told_by" s_l_told_by f fd) (T : Tb mg) (D_law_root : Dn P w K mg base "_law_root" 1 ["_law_number_here"] [] spRooted) (D_fractions : Dn P w K mg base "fractions" 4 ["number", "many"] [] spFractions) :
    FnOk P w K mg base CX0 5 f fd ["_law_number_here", "_law_more"] spToldBy := by
  refine F.ok sc_l_told_by (fun vs H Q E h => ?_) (fun cdv A outer s H vs Q E hr h => ?_)
  · obtain ⟨n, m, rfl, _⟩ := h
    rfl
  · obtain ⟨n, m, rfl, R, m0, m1, q⟩ := h
    have n2 := R.two
    have nm := R.most
    have G := R.good
    have r1 := G.r1
    have r316 := R.r316
    refine ⟨_, (pss_cons (ps_set (i := 2) sc_l_told_by.nd rfl (.inl rfl) (pe_callD D_law_root hr (by decide) (by rfl) (pa_cons (pe_op op_sub (pv 0) pe_int) pa_nil)))
      (pss_cons (ps_set (i := 3) sc_l_told_by.nd rfl (.inl rfl) (pe_op op_sub (pe_op op_mod (pe_op op_fdivW (pv 1) pe_int) (pe_op op_add (pe_op op_mulX pe_int (pv 2)) pe_int)) (pv 2)))
      (pss_cons (ps_if (pt_cmpR op_gt (pe_op op_mod (pv 1) pe_int) pe_int (nomark _))
        (pss_cons (ps_asg (pe_ix (ixl (K := K) rfl) (pe_callD D_fractions hr (by decide) (by rfl) (pa_cons (pv 0) (pa_cons (pe_op op_add pe_int (pe_op op_mod (pe_op op_fdivW (pv 1) pe_int) pe_int)) pa_nil))) (pe_un un_neg pe_int) (fun _ _ => rfl)) (pg_tup rfl (pgs_cons (pg_name (i := 4) sc_l_told_by.nd rfl (.inl rfl)) (pgs_cons (pg_name (i := 5) sc_l_told_by.nd rfl (.inl rfl)) pgs_nil))))
      (pss_cons (ps_set (i := 3) sc_l_told_by.nd rfl (.inl rfl) (pe_op op_sub (pe_op op_mulX (pv 4) (pv 4)) (pe_op op_mulX (pe_op op_mulX (pv 0) (pv 5)) (pv 5))))
      (pss_cons (ps_set (i := 6) sc_l_told_by.nd rfl (.inl rfl) (pe_op op_add pe_int (pe_op op_mod (pe_op op_fdivW (pv 1) pe_int) pe_int)))
      (pss_one (ps_if (pt_cmpR op_le (pe_callB (id := "abs") call_abs (by rfl) T.b_abs (by decide +kernel) (pa_cons (pe_op op_mulX (pe_op op_mulX (pv 3) (pv 6)) (pv 6)) pa_nil)) (pv 2) (nomark _))
        (pss_one (ps_set (i := 3) sc_l_told_by.nd rfl (.inl rfl) (pe_op op_mulX (pe_op op_mulX (pv 3) (pv 6)) (pv 6)))) pss_nil))))) pss_nil)
      (pss_one (ps_ret (pe_ifExp (pt_chain op_lt op_le pe_int (pe_callB (id := "abs") call_abs (by rfl) T.b_abs (by decide +kernel) (pa_cons (pv 3) pa_nil)) (pv 2)) (pv 3) pe_int)))))), ?_⟩
    refine ⟨_, rfl, _, _, rfl, rfl, _, rfl, by omega, Int.lt_of_le_of_lt (show n - 1 ≤ 100000 by omega) (by decide +kernel), ?_⟩
    rw [rt_less G]
    obtain ⟨l, L⟩ := last_there G
    refine ⟨_, rfl, _, _, rfl, rfl, dv (by decide) (by decide), _, rfl, _, _, rfl, rfl, mx 4 10 (by decide) (by omega), _, _, rfl, rfl, _, _, rfl, rfl, (by show 0 < 2 * rt n + 1; omega), _, rfl, _, _, rfl, rfl, ?_⟩
    dsimp only
    refine go_next ?_
    refine gen_seq (fun σ' H' => ∃ (c : Int) (y4 y5 y6 : Option V), σ' = [some (.int n), some (.int m), some (.int (rt n)), some (.int c), y4, y5, y6] ∧ Same H H' ∧ (- 10000000 < c ∧ c < 10000000) ∧ (0 < m % 4 → ∃ x y, Worth n c x y)) (fun N k => ?_) (fun σ' H' hG => ?_)
    · refine ⟨_, rfl, _, _, rfl, rfl, (by show (0 : Int) < 4; decide), _, _, rfl, rfl, _, rfl, ifD (fun hm => ?_) (fun hm => ?_)⟩
      · refine ⟨_, rfl, _, rfl, _, _, rfl, rfl, dv (by decide) (by decide), _, _, rfl, rfl, (by show (0 : Int) < 60; decide), _, _, rfl, rfl, n, _, rfl, R, by omega, by omega, fun p as H1 s1 np hp fr => ?_⟩
        have flen := fr.len
        have f60 : (1 + m / 4 % 60).toNat ≤ 60 := by omega
        obtain ⟨j, hj⟩ : ∃ j : Nat, (1 + m / 4 % 60).toNat = j + 1 := ⟨(m / 4 % 60).toNat, by omega⟩
        rw [hj] at fr flen f60
        have hjl : j < as.length := by omega
        have hat : atI (as.map V.ref) (-1) = some (.ref as[j]) := by
          have e : as = as.take j ++ [as[j]] := by
            rw [← List.take_succ_eq_append_getElem hjl, List.take_of_length_le (by omega)]
          have e2 : as.map V.ref = (as.take j).map V.ref ++ [.ref as[j]] := by
            rw [← List.map_singleton, ← List.map_append, ← e]
          rw [e2]
          exact atI_last _ _
        have ht := fr.at_ j _ (List.getElem?_eq_getElem hjl)
        generalize as[j] = t at *
        have st := sq_pr (K := K) ht
        refine ⟨_, rfl, p, _, _, _, rfl, rfl, SqL.of hp, hat, t, _, rfl, st, rfl, _, _, rfl, _, [], rfl, rfl, ?_⟩
        have S := small_at R j
        have q0 := S.q0
        have q1 := S.q1
        have pp := pos2 G j
        have hk1 := pp.h1
        have kk1 := pp.k1
        have ew := own_eq G j
        have ob : - 632 ≤ own n (rt n) j ∧ own n (rt n) j ≤ 632 := by
          unfold own
          rcases sg_mod j with ⟨_, s⟩ | ⟨_, s⟩ <;> rw [s] <;> omega
        obtain ⟨b1, b2, _, _⟩ := hk_big R j
        have nb := n17 (by omega) nm
        have hW : Worth n (own n (rt n) j) (hh n (rt n) j) (kk n (rt n) j) := ⟨hk1, kk1, ew⟩
        have j60 : 10 * (j + 1) ≤ 600 := by omega
        refine ⟨_, rfl, _, rfl, _, _, rfl, rfl, mx (10 * (j + 1)) (10 * (j + 1)) b1 b1 (by omega), _, rfl, _, rfl, _, _, rfl, rfl, mx 17 (10 * (j + 1)) nb b2 (by omega), _, rfl, _, _, rfl, rfl, mx (17 + 10 * (j + 1)) (10 * (j + 1)) (wide_lt nb b2) b2 (by omega), _, _, rfl, rfl, ?_⟩
        dsimp only
        rw [Int.mul_assoc, ew]
        refine ⟨_, rfl, _, _, rfl, rfl, dv (by decide) (by decide), _, _, rfl, rfl, (by show (0 : Int) < 5; decide), _, _, rfl, rfl, ?_⟩
        have bb0 : 1 ≤ 1 + m / 48 % 5 := by omega
        have bb1 : 1 + m / 48 % 5 ≤ 5 := by omega
        dsimp only
        generalize 1 + m / 48 % 5 = b at *
        have hWb := hW.by bb0
        generalize own n (rt n) j = o at *
        have obb : o.natAbs < 2 ^ 10 := by omega
        have bbb : b.natAbs < 2 ^ 3 := by omega
        refine ⟨_, rfl, _, rfl, _, _, rfl, rfl, mx 10 3 obb bbb, _, rfl, _, _, rfl, rfl, mx 13 3 (wide_lt obb bbb) bbb, _, rfl, _, rfl, _, _, rfl, rfl, _, rfl, ifD (fun h => ?_) (fun h => ?_)⟩
        · refine ⟨_, rfl, _, rfl, _, _, rfl, rfl, mx 10 3 obb bbb, _, rfl, _, _, rfl, rfl, mx 13 3 (wide_lt obb bbb) bbb, k _ _ ⟨_, _, _, _, rfl, s1, ?_, fun _ => ⟨_, _, hWb⟩⟩⟩
          have := wide_lt (wide_lt obb bbb) bbb
          omega
        · exact k _ _ ⟨_, _, _, _, rfl, s1, by omega, fun _ => ⟨_, _, hW⟩⟩
      · have z0 := Int.emod_nonneg (m / 4) (show 2 * rt n + 1 ≠ 0 by omega)
        have z1 := Int.emod_lt_of_pos (m / 4) (show 0 < 2 * rt n + 1 by omega)
        exact k _ _ ⟨_, _, _, _, rfl, Same.refl _, by omega, fun h => absurd h hm⟩
    · obtain ⟨c, y4, y5, y6, rfl, sm, cb, hw⟩ := hG
      refine ⟨_, rfl, _, rfl, _, _, rfl, rfl, _, rfl, ifD (fun h1 => ?_) (fun h1 => ?_)⟩
      · refine ⟨_, rfl, _, _, rfl, rfl, _, rfl, ifD (fun h2 => ?_) (fun h2 => ?_)⟩
        · obtain ⟨h3, h4⟩ := ab_le h2
          exact ⟨_, rfl, q c _ sm (ab_pos h1) h3 h4 hw⟩
        · exact q 1 _ sm (by decide) (by omega) (by omega) fun _ => one_worth G L
      · exact ⟨_, rfl, ifF rfl (q 1 _ sm (by decide) (by omega) (by omega) fun _ => one_worth G L)⟩
/-- sizes of what is reached -/
theorem cand_big {n c x y : Int} {l : Nat} (R : Rootn n) (lsm : l < 200000) (hc : ab c ≤ 316) (h : Cand n (rt n) l c x y) : x.natAbs < 2 ^ 4000005 ∧ y.natAbs < 2 ^ 4000005 := by
  obtain ⟨j, b, hj, b1, e, rfl, rfl⟩ := h
  have b17 := small_by (Int.le_trans (ab_of (own_big R.good j) e) (Int.le_refl _)) hc
  obtain ⟨c1, c2, _, _⟩ := hk_big R j
  have bb : b.natAbs < 2 ^ 5 := by omega
  have le := Nat.pow_le_pow_right (n := 2) (by decide) (show 10 * (j + 1) + 5 ≤ 4000005 by omega)
  exact ⟨Nat.lt_of_lt_of_le (wide_lt c1 bb) le, Nat.lt_of_lt_of_le (wide_lt c2 bb) le⟩
def spOnLadder : Sp := fun vs H Q _ => ∃ (n x y c : Int) (t : Addr) (l : Nat), vs = [.int n, .ref t] ∧ Rootn n ∧ Last n (rt n) l ∧ H t = some (pr x y) ∧ ab c ≤ 316 ∧ Cand n (rt n) l c x y ∧ ∀ H', Same H H' → Q (.bl true) H'
theorem ok_law_on_ladder {f : Addr} {fd : FuncData} (F : Fun K "_law_on_ladder" "_law_on_ladder" s_l_on_ladder f fd) (T : Tb mg) (D_ladder : Dn P w K mg base "ladder" 4 ["number"] [] spLadder) (D_fractions : Dn P w K mg base "fractions" 4 ["number", "many"] [] spFractions) :
    FnOk P w K mg base CX0 5 f fd ["_law_number_here", "_law_pair"] spOnLadder := by
  refine F.ok sc_l_on_ladder (fun vs H Q E h => ?_) (fun cdv A outer s H vs Q E hr h => ?_)
  · obtain ⟨n, x, y, c, t, l, rfl, _⟩ := h
    rfl
  · obtain ⟨n, x, y, c, t, l, rfl, R, L, ht, hc, hC, q⟩ := h
    have G := R.good
    have lsm := last_small R L
    obtain ⟨bx, bY⟩ := cand_big R lsm hc hC
    obtain ⟨j, b, hj, b1, _, ex, ey⟩ := hC
    refine ⟨_, (pss_cons (ps_if (pt_cmpR op_gt (pe_callB (id := "len") (len_rule (K := K) rfl) (by rfl) T.b_len (by decide +kernel) (pa_cons (pe_ix (ixt (K := K) rfl) (pe_callD D_ladder hr (by decide) (by rfl) (pa_cons (pv 0) pa_nil)) pe_int (fun _ _ => rfl)) pa_nil)) pe_int (nomark _))
        (pss_one (ps_ret pe_bl)) pss_nil)
      (pss_cons (ps_for PassesOwn.never rfl (pi_list (pe_callD D_fractions hr (by decide) (by rfl) (pa_cons (pv 0) (pa_cons pe_int pa_nil)))) (pg_tup rfl (pgs_cons (pg_name (i := 2) sc_l_on_ladder.nd rfl (.inl rfl)) (pgs_cons (pg_name (i := 3) sc_l_on_ladder.nd rfl (.inl rfl)) pgs_nil)))
        (pss_one (ps_if (PW.pt (pw_and (pt_cmpR op_eq (pe_op op_mulX (pe_ix (ixt (K := K) rfl) (pv 1) pe_int (fun _ _ => rfl)) (pv 3)) (pe_op op_mulX (pe_ix (ixt (K := K) rfl) (pv 1) pe_int (fun _ _ => rfl)) (pv 2)) (nomark _)) (pw_and1 (pt_cmpR op_eq (pe_op op_mod (pe_ix (ixt (K := K) rfl) (pv 1) pe_int (fun _ _ => rfl)) (pv 3)) pe_int (nomark _)))))
        (pss_one (ps_ret pe_bl)) pss_nil)))
      (pss_one (ps_ret pe_bl)))), ?_⟩
    refine ⟨_, rfl, n, rfl, R, fun l1 p1 t1 H1 L1 s1 np1 nt1 htp hp1 ht1 => ?_⟩
    have el := last_uniq L L1
    subst el
    have hln : ((quots n (l + 1)).map V.int).length = l + 1 := by rw [List.length_map, quots_len]
    refine ⟨t1, _, 1, _, rfl, rfl, SqT.of ht1, at1, p1, _, rfl, .inl (SqL.of hp1), _, _, rfl, rfl, _, rfl, ifD (fun h => ?_) (fun h => ?_)⟩
    · exact q _ s1
    · rw [hln] at h
      refine ⟨_, rfl, n, 200, rfl, R, by decide, by decide, fun p as H2 s2 np hp fr => ⟨p, rfl, ⟨_, SqL.of hp⟩, for_list (K := K) (a := p) (xs := as.map V.ref) (fun i σ H' => H' = H2 ∧ i ≤ j ∧ ∃ y2 y3 : Option V, σ = [some (.int n), some (.ref t), y2, y3])
        ⟨rfl, Nat.zero_le _, none, none, rfl⟩ (fun i σ H' _ hG => ?_) (fun i z σ H' hz hG => ?_) (fun σ H' hG => ?_)⟩⟩
      · obtain ⟨rfl, _⟩ := hG
        exact SqL.of hp
      · obtain ⟨rfl, hij, y2, y3, rfl⟩ := hG
        obtain ⟨u, hat, rfl⟩ := row_ref hz
        have flen := fr.len
        have i200 : i < 200 := by
          have := (List.getElem?_eq_some_iff.mp hat).1
          rw [flen] at this
          exact this
        have hu := fr.at_ i u hat
        have st := sq_pr (K := K) (s2 _ _ (s1 _ _ ht))
        obtain ⟨c1, c2, _, _⟩ := hk_big R i
        have k1 := (pos2 G i).k1
        have more : ¬ (x * kk n (rt n) i = y * hh n (rt n) i ∧ y % kk n (rt n) i = 0) → H' = H' ∧ i + 1 ≤ j ∧ ∃ y2 y3 : Option V, [some (V.int n), some (.ref t), some (.int (hh n (rt n) i)), some (.int (kk n (rt n) i))] = [some (.int n), some (.ref t), y2, y3] := fun hn => by
          refine ⟨rfl, ?_, _, _, rfl⟩
          by_cases e : i = j
          · exfalso
            apply hn
            rw [ex, ey, e]
            refine ⟨by grind, Int.mul_emod_right _ _⟩
          · omega
        generalize hh n (rt n) i = X at *
        generalize kk n (rt n) i = Y at *
        refine ⟨u, _, rfl, sq_pr hu, rfl, _, _, rfl, _, [], rfl, rfl, ?_⟩
        refine ⟨_, rfl, _, _, _, _, rfl, rfl, st, at0, _, rfl, _, _, rfl, rfl, mx 4000005 (10 * (i + 1)) bx c2 (by omega), _, rfl, _, _, _, _, rfl, rfl, st, at1, _, rfl, _, _, rfl, rfl, mx 4000005 (10 * (i + 1)) bY c1 (by omega), rfl, _, rfl, if2 (fun h1 => ?_) (fun h1 => ?_)⟩
        · rw [dec_int, decide_eq_true_eq] at h1
          refine ⟨_, rfl, _, _, _, _, rfl, rfl, st, at1, _, rfl, _, _, rfl, rfl, (by show 0 < Y; omega), rfl, _, rfl, if2 (fun h2 => ?_) (fun h2 => ?_)⟩
          · exact q _ (s1.trans s2)
          · rw [dec_int, decide_eq_false_iff_not] at h2
            exact more fun z => h2 z.2
        · rw [dec_int, decide_eq_false_iff_not] at h1
          exact ifF rfl (more fun z => h1 z.1)
      · obtain ⟨rfl, hij, _⟩ := hG
        rw [List.length_map, fr.len] at hij
        have : (200 : Int).toNat = 200 := rfl
        omega
theorem min30 {y : Int} (h : 1 ≤ y) : 0 ≤ (if (30 : Int) < y then 30 else y) ∧ (if (30 : Int) < y then 30 else y) ≤ 30 ∧ (if (30 : Int) < y then 30 else y) ≤ y := by
  split <;> omega
theorem ok_law {f : Addr} {fd : FuncData} (F : Fun K "law" "law" s_law f fd) (T : Tb mg) (D_law_mixed : Dn P w K mg base "_law_mixed" 1 ["_law_number_here", "_law_k"] [] spMixed)
    (D_law_number_by : Dn P w K mg base "_law_number_by" 2 ["_law_number_here", "_law_most"] [] spNumBy) (D_law_told_by : Dn P w K mg base "_law_told_by" 5 ["_law_number_here", "_law_more"] [] spToldBy) (D_reach : Dn P w K mg base "reach" 4 ["number", "told"] [] spReach)
    (D_law_tried : Dn P w K mg base "_law_tried" 2 ["_law_number_here", "_law_more", "_law_most"] [] spTried) (D_law_is_pair : Dn P w K mg base "_law_is_pair" 1 ["_law_found", "_law_due"] [] spIsPair)
    (D_law_on_ladder : Dn P w K mg base "_law_on_ladder" 5 ["_law_number_here", "_law_pair"] [] spOnLadder) : FnOk P w K mg base CX0 8 f fd ["_law_script"] spLaw := by
  refine F.ok sc_law (fun vs H Q E h => ?_) (fun cdv A outer s H vs Q E hr h => ?_)
  · obtain ⟨a, ns, rfl, _⟩ := h
    rfl
  · obtain ⟨a, ns, rfl, hS, hlen, q⟩ := h
    refine ⟨_, (pss_cons (ps_for PassesOwn.never rfl (pi_enum (by rfl) T.b_enumerate (pa_cons (pe_slice sl_list (pe_op op_catR (pv 0) (pe_lst (pa_cons pe_int pa_nil))) po_none (po_some pe_int)) pa_nil)) (pg_tup rfl (pgs_cons (pg_name (i := 1) sc_law.nd rfl (.inl rfl)) (pgs_cons (pg_name (i := 2) sc_law.nd rfl (.inl rfl)) pgs_nil)))
        (pss_cons (ps_set (i := 3) sc_law.nd rfl (.inl rfl) (pe_callD D_law_mixed hr (by decide) (by rfl) (pa_cons (pv 2) (pa_cons (pe_op op_add pe_int (pv 1)) pa_nil))))
      (pss_cons (ps_set (i := 4) sc_law.nd rfl (.inl rfl) (pe_callD D_law_number_by hr (by decide) (by rfl) (pa_cons (pe_callD D_law_mixed hr (by decide) (by rfl) (pa_cons (pv 2) (pa_cons (pv 1) pa_nil))) (pa_cons (pe_ix (ixl (K := K) rfl) (pe_lst (pa_cons pe_int (pa_cons pe_int pa_nil))) (pe_op op_mod (pe_op op_fdivW (pv 3) pe_int) pe_int) (fun _ _ => rfl)) pa_nil))))
      (pss_cons (ps_set (i := 5) sc_law.nd rfl (.inl rfl) (pe_callD D_law_told_by hr (by decide) (by rfl) (pa_cons (pv 4) (pa_cons (pv 3) pa_nil))))
      (pss_cons (ps_set (i := 6) sc_law.nd rfl (.inl rfl) (pe_callD D_reach hr (by decide) (by rfl) (pa_cons (pv 4) (pa_cons (pv 5) pa_nil))))
      (pss_one (ps_if (pt_cmpR op_isN (pv 6) pe_non (nomark _))
        (pss_one (ps_if (PW.pt (pw_or (pt_cmpR op_gt (pe_op op_mod (pv 3) pe_int) pe_int (nomark _)) (pw_or1 (pt_cmpR op_notN (pe_callD D_law_tried hr (by decide) (by rfl) (pa_cons (pv 4) (pa_cons (pv 5) (pa_cons pe_int pa_nil)))) pe_non (nomark _)))))
        (pss_one (ps_ret pe_bl)) pss_nil)) (pss_cons (ps_if (PW.pt (pw_or (pt_not (pt_val (pe_callD D_law_is_pair hr (by decide) (by rfl) (pa_cons (pv 6) (pa_cons (pv 6) pa_nil))))) (pw_or (pt_cmpR op_lt (pe_ix (ixt (K := K) rfl) (pv 6) pe_int (fun _ _ => rfl)) pe_int (nomark _)) (pw_or1 (pt_cmpR op_lt (pe_ix (ixt (K := K) rfl) (pv 6) pe_int (fun _ _ => rfl)) pe_int (nomark _))))))
        (pss_one (ps_ret pe_bl)) pss_nil)
      (pss_cons (ps_if (pt_cmpR op_ne (pe_op op_sub (pe_op op_mulX (pe_ix (ixt (K := K) rfl) (pv 6) pe_int (fun _ _ => rfl)) (pe_ix (ixt (K := K) rfl) (pv 6) pe_int (fun _ _ => rfl))) (pe_op op_mulX (pe_op op_mulX (pv 4) (pe_ix (ixt (K := K) rfl) (pv 6) pe_int (fun _ _ => rfl))) (pe_ix (ixt (K := K) rfl) (pv 6) pe_int (fun _ _ => rfl)))) (pv 5) (nomark _))
        (pss_one (ps_ret pe_bl)) pss_nil)
      (pss_one (ps_if (PW.pt (pw_or (pt_cmpR op_notN (pe_callD D_law_tried hr (by decide) (by rfl) (pa_cons (pv 4) (pa_cons (pv 5) (pa_cons (pe_callB (id := "min") (call_min2 rfl) (by rfl) T.b_min (by decide +kernel) (pa_cons (pe_ix (ixt (K := K) rfl) (pv 6) pe_int (fun _ _ => rfl)) (pa_cons pe_int pa_nil))) pa_nil)))) pe_non (nomark _)) (pw_or1 (pt_not (pt_val (pe_callD D_law_on_ladder hr (by decide) (by rfl) (pa_cons (pv 4) (pa_cons (pv 6) pa_nil))))))))
        (pss_one (ps_ret pe_bl)) pss_nil)))))))))))
      (pss_one (ps_ret pe_bl))), ?_⟩
    refine ⟨_, rfl, (by show 1 ≤ sizeLine; decide), fun z nz => ⟨a, z, ns.map V.int, [.int 0], rfl, rfl, same_rd (same_new nz) hS, .inl upd_same, (by rw [List.length_map]; exact Nat.le_of_lt (sz (show ns.length + 1 ≤ 1000000 by omega))), fun p np => ?_⟩⟩
    refine ⟨3, rfl, p, _, rfl, SqL.of upd_same, fun c nc => ?_⟩
    have ec : cutV (ns.map V.int ++ [V.int 0]) none (some 3) = ((ns ++ [0]).take 3).map V.int := by
      rw [show (3 : Int) = ((3 : Nat) : Int) from rfl, cut_to, List.map_take, List.map_append]
      rfl
    rw [ec]
    have s0 := ((same_new (o := .lst [.int 0]) nz).trans (same_new (o := .lst (ns.map V.int ++ [V.int 0])) np)).trans (same_new (o := .lst (((ns ++ [0]).take 3).map V.int)) nc)
    have hc0 := upd_same (H := upd (upd H z (.lst [.int 0])) p (.lst (ns.map V.int ++ [V.int 0]))) (a := c) (o := .lst (((ns ++ [0]).take 3).map V.int))
    have hcl : ((ns ++ [0]).take 3).length ≤ 3 := by
      rw [List.length_take]
      omega
    generalize (ns ++ [0]).take 3 = cells at *
    refine ⟨c, _, rfl, SqL.of hc0, for_enum (xs := cells.map V.int) (fun i σ H' => ∃ y1 y2 y3 y4 y5 y6 : Option V, σ = [some (.ref a), y1, y2, y3, y4, y5, y6] ∧ H' c = some (.lst (cells.map V.int)))
      ⟨none, none, none, none, none, none, rfl, hc0⟩ (fun i σ H' hG => ?_) (fun i x0 T' σ H' hx hG nT => ?_) (fun σ H' hG => q _)⟩
    · obtain ⟨_, _, _, _, _, _, _, h1⟩ := hG
      exact .inl (.inl h1)
    · obtain ⟨y1, y2, y3, y4, y5, y6, rfl, hc⟩ := hG
      have hi := (List.getElem?_eq_some_iff.mp hx).1
      rw [List.length_map] at hi
      obtain ⟨m, _, rfl⟩ := ints_at hx
      refine ⟨T', _, rfl, .inl (.inl upd_same), rfl, _, _, rfl, _, [], rfl, rfl, ?_⟩
      have t1 : Same H' (upd H' T' (.tup [.int (i : Nat), .int m])) := same_new nT
      generalize (upd H' T' (.tup [.int (i : Nat), .int m])) = H2 at *
      -- more, the number
      refine ⟨_, rfl, _, rfl, _, _, rfl, rfl, m, 70 + (i : Nat), rfl, by omega, by omega, ?_⟩
      have mo0 := mixed_ge m (70 + (i : Nat))
      have mo1 := mixed_lt m (70 + (i : Nat))
      generalize mixed m (70 + (i : Nat)) = mo at *
      refine ⟨_, rfl, _, rfl, m, (i : Nat), rfl, by omega, by omega, (by show 2 ≤ sizeLine; decide), fun z1 nz1 => ?_⟩
      have tz : Same H2 (upd H2 z1 (.lst [.int 3000, .int 60])) := same_new nz1
      obtain ⟨M, hM, hMM, hM3⟩ : ∃ M : Int, atI [V.int 3000, V.int 60] (mo / 7 % 2) = some (.int M) ∧ Most M ∧ M ≤ 3000 := by
        have h2 : mo / 7 % 2 = 0 ∨ mo / 7 % 2 = 1 := by omega
        rcases h2 with h | h <;> rw [h]
        · exact ⟨3000, rfl, most_3000, by decide⟩
        · exact ⟨60, rfl, most_60, by decide⟩
      refine ⟨_, rfl, _, _, rfl, rfl, dv (by decide) (by decide), _, _, rfl, rfl, (by show (0 : Int) < 2; decide), z1, _, _, _, rfl, rfl, SqL.of upd_same, hM, ?_⟩
      refine ⟨_, M, rfl, mixed_ge .., by have := mixed_lt m (i : Nat); omega, hMM, fun n H3 s3 R hnM => ?_⟩
      have n0 : 0 ≤ n := by have := R.two; omega
      have nm := R.most
      have G := R.good
      have lo := G.lo
      have r1 := G.r1
      have rn : rt n < n := by
        have := le_sq (show 0 ≤ rt n by omega)
        omega
      have r316 := R.r316
      have hc3 := (t1.trans (tz.trans s3)) _ _ hc
      -- the worth that is told
      refine ⟨_, rfl, _, rfl, n, mo, rfl, R, mo0, by omega, fun d H4 s4 d0 dl du hw => ?_⟩
      have hd : ab d ≤ 316 := by unfold ab; split <;> omega
      refine ⟨_, rfl, _, rfl, n, d, rfl, R, d0, in_told G dl du, fun l H5 L s5 => ?_⟩
      have hc5 := s5 _ _ (s4 _ _ hc3)
      have lsm := last_small R L
      refine ⟨fun hno => ?_, fun x y t RE ht => ?_⟩
      · have hno2 : ∀ x y : Int, 0 < x → 0 < y → x * x - n * (y * y) ≠ d := fun x y hx hy e => by
          obtain ⟨x', y', hC, _⟩ := cand_of G L hx hy e dl du
          exact hno x' y' hC
        refine ⟨_, rfl, rfl, _, rfl, ifT rfl ?_⟩
        refine ⟨_, rfl, _, _, rfl, rfl, (by show (0 : Int) < 4; decide), _, _, rfl, rfl, _, rfl, ifD (fun h => ?_) (fun h => ?_)⟩
        · obtain ⟨x, y, x1, y1', e⟩ := hw h
          exact absurd e (hno2 x y (by omega) (by omega))
        · refine ⟨_, rfl, _, rfl, n, d, 30, rfl, n0, nm, by omega, by omega, by omega, by decide, by decide, fun x y hy hym hx e => hno2 x y hx (by omega) e, rfl, _, rfl, ifF rfl ?_⟩
          exact ⟨_, _, _, _, _, _, rfl, hc5⟩
      · obtain ⟨bX, bY⟩ := cand_big R lsm hd RE.cand
        have hW := RE.cand.worth G
        have mn := fun (x' y' : Int) h1 h2 h3 => RE.min (x' := x') (y' := y') G L dl du h1 h2 h3
        obtain ⟨x1, y1', we⟩ := hW
        have nb := n17 n0 nm
        refine ⟨_, rfl, rfl, _, rfl, ifF rfl ?_⟩
        refine ⟨_, rfl, _, rfl, x, y, t, t, rfl, ht, ht, fun H6 s6 => ⟨_, rfl, ifF rfl ?_⟩⟩
        have ht6 := s6 _ _ ht
        have st := sq_pr (K := K) ht6
        refine ⟨_, rfl, _, _, _, _, rfl, rfl, st, at0, _, _, rfl, rfl, _, rfl, ifF (decide_eq_false (by omega)) ?_⟩
        refine ⟨_, rfl, _, _, _, _, rfl, rfl, st, at1, _, _, rfl, rfl, _, rfl, ifF (decide_eq_false (by omega)) ?_⟩
        refine ⟨_, rfl, _, _, _, _, rfl, rfl, st, at0, _, rfl, _, _, _, _, rfl, rfl, st, at0, _, _, rfl, rfl, mx 4000005 4000005 bX bX (by decide), _, rfl, _, rfl, _, _, _, _, rfl, rfl, st, at1, _, _, rfl, rfl, mx 17 4000005 nb bY (by decide), _, rfl, _, _, _, _, rfl, rfl, st, at1, _, _, rfl, rfl, mx (17 + 4000005) 4000005 (wide_lt nb bY) bY (by decide), _, _, rfl, rfl, _, rfl, rfl, _, rfl, ifF ?_ ?_⟩
        · rw [dec_int, decide_eq_true (show x * x - n * y * y = d by rw [Int.mul_assoc]; exact we)]
          rfl
        obtain ⟨p0, p1, p2⟩ := min30 y1'
        refine ⟨_, rfl, _, rfl, _, rfl, _, _, _, _, rfl, rfl, st, at1, y, 30, rfl, n, d, _, rfl, n0, nm, by omega, by omega, by omega, p0, p1, fun x' y' hy hym hx e => ?_, rfl, _, rfl, ifF rfl ?_⟩
        · have := mn x' y' hx (by omega) e
          omega
        refine ⟨_, rfl, _, rfl, n, x, y, d, t, l, rfl, R, L, ht6, hd, RE.cand, fun H7 s7 => ⟨_, rfl, ifF rfl ?_⟩⟩
        exact ⟨_, _, _, _, _, _, rfl, s7 _ _ (s6 _ _ hc5)⟩
end
end RL
namespace RL
open PySem PySem.Spec PyProof.Rows L2
/-! the head, the end -/
def ds_is_number : He.DefD := ⟨("is_number", none), "is_number", "is_number", defArgs s_is_number, defBody s_is_number, defScope s_is_number, [], []⟩
def ds_need_number : He.DefD := ⟨("need_number", none), "need_number", "need_number", defArgs s_need_number, defBody s_need_number, defScope s_need_number, [.non], []⟩
def ds_rooted : He.DefD := ⟨("rooted", none), "rooted", "rooted", defArgs s_rooted, defBody s_rooted, defScope s_rooted, [], []⟩
def ds_need_root : He.DefD := ⟨("need_root", none), "need_root", "need_root", defArgs s_need_root, defBody s_need_root, defScope s_need_root, [], []⟩
def ds_l_mixed : He.DefD := ⟨("_law_mixed", none), "_law_mixed", "_law_mixed", defArgs s_l_mixed, defBody s_l_mixed, defScope s_l_mixed, [], []⟩
def ds_l_root : He.DefD := ⟨("_law_root", none), "_law_root", "_law_root", defArgs s_l_root, defBody s_l_root, defScope s_l_root, [], []⟩
def ds_l_number_by : He.DefD := ⟨("_law_number_by", none), "_law_number_by", "_law_number_by", defArgs s_l_number_by, defBody s_l_number_by, defScope s_l_number_by, [], []⟩
def ds_round_of : He.DefD := ⟨("round_of", none), "round_of", "round_of", defArgs s_round_of, defBody s_round_of, defScope s_round_of, [], []⟩
def ds_ladder : He.DefD := ⟨("ladder", none), "ladder", "ladder", defArgs s_ladder, defBody s_ladder, defScope s_ladder, [], []⟩
def ds_fractions_of : He.DefD := ⟨("fractions_of", none), "fractions_of", "fractions_of", defArgs s_fractions_of, defBody s_fractions_of, defScope s_fractions_of, [], []⟩
def ds_fractions : He.DefD := ⟨("fractions", none), "fractions", "fractions", defArgs s_fractions, defBody s_fractions, defScope s_fractions, [.int 10], []⟩
def ds_worth_of : He.DefD := ⟨("worth_of", none), "worth_of", "worth_of", defArgs s_worth_of, defBody s_worth_of, defScope s_worth_of, [], []⟩
def ds_by_size : He.DefD := ⟨("by_size", none), "by_size", "by_size", defArgs s_by_size, defBody s_by_size, defScope s_by_size, [], []⟩
def ds_reach : He.DefD := ⟨("reach", none), "reach", "reach", defArgs s_reach, defBody s_reach, defScope s_reach, [], []⟩
def ds_l_is_pair : He.DefD := ⟨("_law_is_pair", none), "_law_is_pair", "_law_is_pair", defArgs s_l_is_pair, defBody s_l_is_pair, defScope s_l_is_pair, [], []⟩
def ds_l_tried : He.DefD := ⟨("_law_tried", none), "_law_tried", "_law_tried", defArgs s_l_tried, defBody s_l_tried, defScope s_l_tried, [], []⟩
def ds_l_told_by : He.DefD := ⟨("_law_told_by", none), "_law_told_by", "_law_told_by", defArgs s_l_told_by, defBody s_l_told_by, defScope s_l_told_by, [], []⟩
def ds_l_on_ladder : He.DefD := ⟨("_law_on_ladder", none), "_law_on_ladder", "_law_on_ladder", defArgs s_l_on_ladder, defBody s_l_on_ladder, defScope s_l_on_ladder, [], []⟩
def ds_law : He.DefD := ⟨("law", none), "law", "law", defArgs s_law, defBody s_law, defScope s_law, [], []⟩
def fnT : List He.DefD := [ds_is_number, ds_need_number, ds_rooted, ds_need_root, ds_l_mixed, ds_l_root, ds_l_number_by, ds_round_of, ds_ladder, ds_fractions_of, ds_fractions, ds_worth_of, ds_by_size, ds_reach, ds_l_is_pair, ds_l_tried, ds_l_told_by, ds_l_on_ladder, ds_law]
def faT : List He.Fa := [.glo "is_number", .glo "need_number", .glo "rooted", .glo "need_root", .glo "_law_mixed", .glo "_law_root", .glo "_law_number_by", .glo "round_of", .glo "ladder", .glo "fractions_of", .glo "fractions", .glo "worth_of", .glo "by_size", .glo "reach", .glo "_law_is_pair", .glo "_law_tried", .glo "_law_told_by", .glo "_law_on_ladder", .glo "law", .free "isinstance", .free "int", .free "bool", .free "tuple", .free "len", .free "enumerate", .free "range", .free "all", .free "min", .free "abs", .int "MOST" 100000, .int "MOST_FRACTIONS" 200]
abbrev RT : PySem.W.OpenRow := PySem.W.OpenLaw.row PySem.Challenge.rw_rootladder_k09_whole_reached_worths
abbrev hkT : PySem.W.Hook := hookN 4 faT fnT
def obT (s : PySem.W.SharedT) : He.AlD := obN 4 faT fnT (HandSHeadRun.getT s)
theorem obT_eq (s : PySem.W.SharedT) : obT s = hkT.obs s.abs := obN_eq (HandSHeadRun.getT_eq s)
def looseT : List Str := ["RootError", "NoNumber", "NoRoot", "MOST", "is_number", "need_number", "rooted", "need_root", "MOST_FRACTIONS", "round_of", "ladder", "fractions_of", "fractions", "worth_of", "by_size", "reach", "_law_mixed", "_law_number", "_law_root", "_law_number_by", "_law_is_pair", "_law_whole", "_law_tried", "_law_told_by", "_law_on_ladder"]
set_option maxHeartbeats 0 in
theorem runT (w : World) : HandSHeadRun.RunEq RT (PySem.W.view RT.prog [31]) hkT obT 3000 looseT w := by
  intro os
  kernel_rfl
theorem factsT {P : Program} {w : World} {K : PySem.W.Frag} {h : Heap} {mg : Str → Option Value} {f : Addr} (X : K.In h) (G : h.Ns mainGlobals mg) (hfa : mg ("law" : Str) = some (.ref f)) (c : He.SaysD faT fnT K) :
    ∃ fd : FuncData, (∀ (s : Shared) (v : Value), BindsTo s fd ⟨[v], []⟩ [("_law_script", v)]) ∧ ∀ base : Heap, K.In base → base.Ns mainGlobals mg → FnOk P w K mg base CX0 8 f fd ["_law_script"] spLaw := by
  obtain ⟨fd0, F0⟩ := c.def_ 0 (d := ds_is_number) rfl
  obtain ⟨fd1, F1⟩ := c.def_ 1 (d := ds_need_number) rfl
  obtain ⟨fd2, F2⟩ := c.def_ 2 (d := ds_rooted) rfl
  obtain ⟨fd3, F3⟩ := c.def_ 3 (d := ds_need_root) rfl
  obtain ⟨fd4, F4⟩ := c.def_ 4 (d := ds_l_mixed) rfl
  obtain ⟨fd5, F5⟩ := c.def_ 5 (d := ds_l_root) rfl
  obtain ⟨fd6, F6⟩ := c.def_ 6 (d := ds_l_number_by) rfl
  obtain ⟨fd7, F7⟩ := c.def_ 7 (d := ds_round_of) rfl
  obtain ⟨fd8, F8⟩ := c.def_ 8 (d := ds_ladder) rfl
  obtain ⟨fd9, F9⟩ := c.def_ 9 (d := ds_fractions_of) rfl
  obtain ⟨fd10, F10⟩ := c.def_ 10 (d := ds_fractions) rfl
  obtain ⟨fd11, F11⟩ := c.def_ 11 (d := ds_worth_of) rfl
  obtain ⟨fd12, F12⟩ := c.def_ 12 (d := ds_by_size) rfl
  obtain ⟨fd13, F13⟩ := c.def_ 13 (d := ds_reach) rfl
  obtain ⟨fd14, F14⟩ := c.def_ 14 (d := ds_l_is_pair) rfl
  obtain ⟨fd15, F15⟩ := c.def_ 15 (d := ds_l_tried) rfl
  obtain ⟨fd16, F16⟩ := c.def_ 16 (d := ds_l_told_by) rfl
  obtain ⟨fd17, F17⟩ := c.def_ 17 (d := ds_l_on_ladder) rfl
  obtain ⟨fd18, F18⟩ := c.def_ 18 (d := ds_law) rfl
  have T : Tb mg := ⟨He.free_ok X G (c.fact 19 (f := .free "isinstance") rfl), He.free_ok X G (c.fact 20 (f := .free "int") rfl), He.free_ok X G (c.fact 21 (f := .free "bool") rfl), He.free_ok X G (c.fact 22 (f := .free "tuple") rfl), He.free_ok X G (c.fact 23 (f := .free "len") rfl), He.free_ok X G (c.fact 24 (f := .free "enumerate") rfl), He.free_ok X G (c.fact 25 (f := .free "range") rfl), He.free_ok X G (c.fact 26 (f := .free "all") rfl), He.free_ok X G (c.fact 27 (f := .free "min") rfl), He.free_ok X G (c.fact 28 (f := .free "abs") rfl), He.int_ok X G (c.fact 29 (f := .int "MOST" 100000) rfl), He.int_ok X G (c.fact 30 (f := .int "MOST_FRACTIONS" 200) rfl)⟩
  have e := hfa.symm.trans (He.glo_ok X G (c.fact 18 (f := .glo "law") rfl))
  cases e
  have b := FunD.bindsA (ps := ["_law_script"]) F18 fun _ _ _ _ _ _ us hl => match us, hl with | [_], _ => rfl
  have b0 := FunD.bindsN (ps := ["thing"]) F0 fun _ _ _ _ _ _ us hl => match us, hl with | [_], _ => rfl
  obtain ⟨ds1, v1, b1⟩ := FunD.binds1 (ps := ["thing", "least", "most"]) F1 3 1 (List.cons_ne_nil _ _) rfl fun _ _ _ _ _ _ _ us its hl hi => match us, hl, its, hi with | [_, _, _], _, [_], _ => ⟨_, rfl, rfl⟩
  obtain ⟨es1, w1, c1⟩ := FunD.binds1 (ps := ["thing", "least", "most"]) F1 2 0 (List.cons_ne_nil _ _) rfl fun _ _ _ _ _ _ _ us its hl hi => match us, hl, its, hi with | [_, _], _, [_], _ => ⟨_, rfl, rfl⟩
  have b2 := FunD.bindsN (ps := ["number"]) F2 fun _ _ _ _ _ _ us hl => match us, hl with | [_], _ => rfl
  have b3 := FunD.bindsN (ps := ["number"]) F3 fun _ _ _ _ _ _ us hl => match us, hl with | [_], _ => rfl
  have b4 := FunD.bindsN (ps := ["_law_number_here", "_law_k"]) F4 fun _ _ _ _ _ _ us hl => match us, hl with | [_, _], _ => rfl
  have b5 := FunD.bindsN (ps := ["_law_number_here"]) F5 fun _ _ _ _ _ _ us hl => match us, hl with | [_], _ => rfl
  have b6 := FunD.bindsN (ps := ["_law_number_here", "_law_most"]) F6 fun _ _ _ _ _ _ us hl => match us, hl with | [_, _], _ => rfl
  have b7 := FunD.bindsN (ps := ["number"]) F7 fun _ _ _ _ _ _ us hl => match us, hl with | [_], _ => rfl
  have b8 := FunD.bindsN (ps := ["number"]) F8 fun _ _ _ _ _ _ us hl => match us, hl with | [_], _ => rfl
  have b9 := FunD.bindsN (ps := ["number", "many"]) F9 fun _ _ _ _ _ _ us hl => match us, hl with | [_, _], _ => rfl
  obtain ⟨ds10, v10, b10⟩ := FunD.binds1 (ps := ["number", "many"]) F10 2 1 (List.cons_ne_nil _ _) rfl fun _ _ _ _ _ _ _ us its hl hi => match us, hl, its, hi with | [_, _], _, [_], _ => ⟨_, rfl, rfl⟩
  obtain ⟨es10, w10, c10⟩ := FunD.binds1 (ps := ["number", "many"]) F10 1 0 (List.cons_ne_nil _ _) rfl fun _ _ _ _ _ _ _ us its hl hi => match us, hl, its, hi with | [_], _, [_], _ => ⟨_, rfl, rfl⟩
  have b11 := FunD.bindsN (ps := ["number", "pair"]) F11 fun _ _ _ _ _ _ us hl => match us, hl with | [_, _], _ => rfl
  have b12 := FunD.bindsN (ps := ["pair"]) F12 fun _ _ _ _ _ _ us hl => match us, hl with | [_], _ => rfl
  have b13 := FunD.bindsN (ps := ["number", "told"]) F13 fun _ _ _ _ _ _ us hl => match us, hl with | [_, _], _ => rfl
  have b14 := FunD.bindsN (ps := ["_law_found", "_law_due"]) F14 fun _ _ _ _ _ _ us hl => match us, hl with | [_, _], _ => rfl
  have b15 := FunD.bindsN (ps := ["_law_number_here", "_law_more", "_law_most"]) F15 fun _ _ _ _ _ _ us hl => match us, hl with | [_, _, _], _ => rfl
  have b16 := FunD.bindsN (ps := ["_law_number_here", "_law_more"]) F16 fun _ _ _ _ _ _ us hl => match us, hl with | [_, _], _ => rfl
  have b17 := FunD.bindsN (ps := ["_law_number_here", "_law_pair"]) F17 fun _ _ _ _ _ _ us hl => match us, hl with | [_, _], _ => rfl
  refine ⟨fd18, fun s v => b s [v] rfl, fun base _ _ => ?_⟩
  have G0 : FnOk P w K mg base CX0 1 (He.fAd K ds_is_number.at_) fd0 ["thing"] spIsNum := ok_is_number (toFun F0) T
  have D_is_number : Dn P w K mg base "is_number" 1 ["thing"] [] spIsNum := ⟨_, _, [], G0, He.glo_ok X G (c.fact 0 (f := .glo "is_number") rfl), F0.kp, b0, .nil⟩
  have G1 : FnOk P w K mg base CX0 2 (He.fAd K ds_need_number.at_) fd1 ["thing", "least", "most"] spNeed := ok_need_number F1 T D_is_number
  have D_need_number : Dn P w K mg base "need_number" 2 ["thing", "least", "most"] [] spNeed := ⟨_, _, ds1, G1, He.glo_ok X G (c.fact 1 (f := .glo "need_number") rfl), F1.kp, b1, v1⟩
  have D_need_number_d : Dn P w K mg base "need_number" 2 ["thing", "least", "most"] [.non] spNeed := ⟨_, _, es1, G1, He.glo_ok X G (c.fact 1 (f := .glo "need_number") rfl), F1.kp, c1, w1⟩
  have G2 : FnOk P w K mg base CX0 1 (He.fAd K ds_rooted.at_) fd2 ["number"] spRooted := ok_rooted (toFun F2) 
  have D_rooted : Dn P w K mg base "rooted" 1 ["number"] [] spRooted := ⟨_, _, [], G2, He.glo_ok X G (c.fact 2 (f := .glo "rooted") rfl), F2.kp, b2, .nil⟩
  have G3 : FnOk P w K mg base CX0 3 (He.fAd K ds_need_root.at_) fd3 ["number"] spNeedRoot := ok_need_root (toFun F3) T D_need_number D_rooted
  have D_need_root : Dn P w K mg base "need_root" 3 ["number"] [] spNeedRoot := ⟨_, _, [], G3, He.glo_ok X G (c.fact 3 (f := .glo "need_root") rfl), F3.kp, b3, .nil⟩
  have G4 : FnOk P w K mg base CX0 1 (He.fAd K ds_l_mixed.at_) fd4 ["_law_number_here", "_law_k"] spMixed := ok_mixed (toFun F4) 
  have D_law_mixed : Dn P w K mg base "_law_mixed" 1 ["_law_number_here", "_law_k"] [] spMixed := ⟨_, _, [], G4, He.glo_ok X G (c.fact 4 (f := .glo "_law_mixed") rfl), F4.kp, b4, .nil⟩
  have G5 : FnOk P w K mg base CX0 1 (He.fAd K ds_l_root.at_) fd5 ["_law_number_here"] spRooted := ok_law_root (toFun F5) 
  have D_law_root : Dn P w K mg base "_law_root" 1 ["_law_number_here"] [] spRooted := ⟨_, _, [], G5, He.glo_ok X G (c.fact 5 (f := .glo "_law_root") rfl), F5.kp, b5, .nil⟩
  have G6 : FnOk P w K mg base CX0 2 (He.fAd K ds_l_number_by.at_) fd6 ["_law_number_here", "_law_most"] spNumBy := ok_law_number_by (toFun F6) D_law_root
  have D_law_number_by : Dn P w K mg base "_law_number_by" 2 ["_law_number_here", "_law_most"] [] spNumBy := ⟨_, _, [], G6, He.glo_ok X G (c.fact 6 (f := .glo "_law_number_by") rfl), F6.kp, b6, .nil⟩
  have G7 : FnOk P w K mg base CX0 2 (He.fAd K ds_round_of.at_) fd7 ["number"] spRoundOf := ok_round_of (toFun F7) D_rooted
  have D_round_of : Dn P w K mg base "round_of" 2 ["number"] [] spRoundOf := ⟨_, _, [], G7, He.glo_ok X G (c.fact 7 (f := .glo "round_of") rfl), F7.kp, b7, .nil⟩
  have G8 : FnOk P w K mg base CX0 4 (He.fAd K ds_ladder.at_) fd8 ["number"] spLadder := ok_ladder (toFun F8) D_need_root D_rooted D_round_of
  have D_ladder : Dn P w K mg base "ladder" 4 ["number"] [] spLadder := ⟨_, _, [], G8, He.glo_ok X G (c.fact 8 (f := .glo "ladder") rfl), F8.kp, b8, .nil⟩
  have G9 : FnOk P w K mg base CX0 3 (He.fAd K ds_fractions_of.at_) fd9 ["number", "many"] spFracsOf := ok_fractions_of (toFun F9) T D_rooted D_round_of
  have D_fractions_of : Dn P w K mg base "fractions_of" 3 ["number", "many"] [] spFracsOf := ⟨_, _, [], G9, He.glo_ok X G (c.fact 9 (f := .glo "fractions_of") rfl), F9.kp, b9, .nil⟩
  have G10 : FnOk P w K mg base CX0 4 (He.fAd K ds_fractions.at_) fd10 ["number", "many"] spFractions := ok_fractions F10 T D_need_number D_need_root D_fractions_of
  have D_fractions : Dn P w K mg base "fractions" 4 ["number", "many"] [] spFractions := ⟨_, _, ds10, G10, He.glo_ok X G (c.fact 10 (f := .glo "fractions") rfl), F10.kp, b10, v10⟩
  have D_fractions_d : Dn P w K mg base "fractions" 4 ["number", "many"] [.int 10] spFractions := ⟨_, _, es10, G10, He.glo_ok X G (c.fact 10 (f := .glo "fractions") rfl), F10.kp, c10, w10⟩
  have G11 : FnOk P w K mg base CX0 1 (He.fAd K ds_worth_of.at_) fd11 ["number", "pair"] spWorthOf := ok_worth_of (toFun F11) 
  have D_worth_of : Dn P w K mg base "worth_of" 1 ["number", "pair"] [] spWorthOf := ⟨_, _, [], G11, He.glo_ok X G (c.fact 11 (f := .glo "worth_of") rfl), F11.kp, b11, .nil⟩
  have G12 : FnOk P w K mg base CX0 1 (He.fAd K ds_by_size.at_) fd12 ["pair"] spBySize := ok_by_size (toFun F12) 
  have D_by_size : Dn P w K mg base "by_size" 1 ["pair"] [] spBySize := ⟨_, _, [], G12, He.glo_ok X G (c.fact 12 (f := .glo "by_size") rfl), F12.kp, b12, .nil⟩
  have G13 : FnOk P w K mg base CX0 4 (He.fAd K ds_reach.at_) fd13 ["number", "told"] spReach := ok_reach (toFun F13) T D_is_number D_need_number D_need_root D_round_of D_fractions_of D_worth_of D_by_size
  have D_reach : Dn P w K mg base "reach" 4 ["number", "told"] [] spReach := ⟨_, _, [], G13, He.glo_ok X G (c.fact 13 (f := .glo "reach") rfl), F13.kp, b13, .nil⟩
  have G14 : FnOk P w K mg base CX0 1 (He.fAd K ds_l_is_pair.at_) fd14 ["_law_found", "_law_due"] spIsPair := ok_law_is_pair (toFun F14) T
  have D_law_is_pair : Dn P w K mg base "_law_is_pair" 1 ["_law_found", "_law_due"] [] spIsPair := ⟨_, _, [], G14, He.glo_ok X G (c.fact 14 (f := .glo "_law_is_pair") rfl), F14.kp, b14, .nil⟩
  have G15 : FnOk P w K mg base CX0 2 (He.fAd K ds_l_tried.at_) fd15 ["_law_number_here", "_law_more", "_law_most"] spTried := ok_law_tried (toFun F15) T D_law_root
  have D_law_tried : Dn P w K mg base "_law_tried" 2 ["_law_number_here", "_law_more", "_law_most"] [] spTried := ⟨_, _, [], G15, He.glo_ok X G (c.fact 15 (f := .glo "_law_tried") rfl), F15.kp, b15, .nil⟩
  have G16 : FnOk P w K mg base CX0 5 (He.fAd K ds_l_told_by.at_) fd16 ["_law_number_here", "_law_more"] spToldBy := ok_law_told_by (toFun F16) T D_law_root D_fractions
  have D_law_told_by : Dn P w K mg base "_law_told_by" 5 ["_law_number_here", "_law_more"] [] spToldBy := ⟨_, _, [], G16, He.glo_ok X G (c.fact 16 (f := .glo "_law_told_by") rfl), F16.kp, b16, .nil⟩
  have G17 : FnOk P w K mg base CX0 5 (He.fAd K ds_l_on_ladder.at_) fd17 ["_law_number_here", "_law_pair"] spOnLadder := ok_law_on_ladder (toFun F17) T D_ladder D_fractions
  have D_law_on_ladder : Dn P w K mg base "_law_on_ladder" 5 ["_law_number_here", "_law_pair"] [] spOnLadder := ⟨_, _, [], G17, He.glo_ok X G (c.fact 17 (f := .glo "_law_on_ladder") rfl), F17.kp, b17, .nil⟩
  exact ok_law (toFun F18) T D_law_mixed D_law_number_by D_law_told_by D_reach D_law_tried D_law_is_pair D_law_on_ladder
end RL
open PySem PySem.W PySem.Calls PyProof.Rows
set_option maxHeartbeats 0 in
theorem PySem.Challenge.cw_rootladder_k09_whole_reached_worths_holds : PySem.Challenge.rw_rootladder_k09_whole_reached_worths.Holds := by
  w_on; o_law
  refine HandSHeadRun.head_any (r := RL.RT) (q := view RL.RT.prog [31]) (H := RL.hkT) (ob := RL.obT) (M := 3000) (loose := RL.looseT) (d := HandSHeadRun.topDef RL.RT.prog 31) (kwd := []) RL.obT_eq
    (by kernel_rfl) (fun s => by kernel_rfl) RL.runT (by kernel_rfl) (by kernel_rfl) (by kernel_rfl) (by rfl) (by first | assumption | decide +kernel) (by decide +kernel) ⟨rfl, rfl, rfl, rfl, rfl, by decide +kernel⟩ ?hw ?hc
  case hw => w_witness2
  case hc =>
    refine L2.walk_ofE (l := PySem.Challenge.rw_rootladder_k09_whole_reached_worths) (n := 63) (k := 8) (x := "_law_script") (CX := L2.CX0) rfl (by decide) (by kernel_rfl) ⟨rfl, by decide, by decide⟩ ?F (fun _ _ _ _ z => z)
    intro w mg fa h Y G hmg0
    obtain ⟨K, KX, hN, c⟩ := Y
    have hmg : mg ("law" : PySem.Str) = some (.ref fa) := by
      have e : (HandSHeadRun.topDef RL.RT.prog 31).name = ("law" : PySem.Str) := by kernel_rfl
      rw [← e]
      exact hmg0
    obtain ⟨fd, hb, hF⟩ := RL.factsT (P := (PySem.Challenge.rw_rootladder_k09_whole_reached_worths).prog) (w := w) KX G hmg c
    exact ⟨K, fd, RL.spLaw, KX, hb, fun H a ns hl _ hS => ⟨a, ns, rfl, RL.rd_of hN hS, hl, fun _ => rfl⟩, hF⟩
#print axioms PySem.Challenge.cw_rootladder_k09_whole_reached_worths_holds
