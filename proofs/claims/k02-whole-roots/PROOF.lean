import PyProof.Rows.All
import Wide.All
import OpenK.AllK
import Wide.FinOn
import KE.KStateDown
import HandS.ForMost
import HandS.IsInst
import HandS.Defaults
import HandS.Wide
import HandS.More
import HandS.WordsExc
import HandS.Head0
import HandS.Head1
import HandS.Head2
import HandS.HeadEnd
import HandS.HeadHook1
import HandS.HeadHook2
import PySem.Challenge.RW_rootladder_k02_whole_roots
set_option Elab.async false
set_option linter.all false
set_option maxRecDepth 100000
set_option maxHeartbeats 4000000
namespace RL
/-! whole roots -/
def rtN : Nat → Nat
  | 0 => 0
  | n + 1 => if (rtN n + 1) * (rtN n + 1) ≤ n + 1 then rtN n + 1 else rtN n
def rt (n : Int) : Int := (rtN n.toNat : Int)
theorem rtN_spec : ∀ n : Nat, rtN n * rtN n ≤ n ∧ n < (rtN n + 1) * (rtN n + 1)
  | 0 => ⟨Nat.le_refl 0, by decide⟩
  | n + 1 => by
    have ih := rtN_spec n
    unfold rtN
    split
    · rename_i h
      refine ⟨h, ?_⟩
      have : (rtN n + 1 + 1) * (rtN n + 1 + 1) = (rtN n + 1) * (rtN n + 1) + 2 * (rtN n + 1) + 1 := by grind
      omega
    · rename_i h
      omega
theorem rt_spec {n : Int} (h : 0 ≤ n) : 0 ≤ rt n ∧ rt n * rt n ≤ n ∧ n < (rt n + 1) * (rt n + 1) := by
  have s := rtN_spec n.toNat
  have e : ((n.toNat : Nat) : Int) = n := Int.toNat_of_nonneg h
  unfold rt
  refine ⟨Int.natCast_nonneg _, ?_, ?_⟩
  · have := s.1
    rw [← e]
    have z : ((rtN n.toNat * rtN n.toNat : Nat) : Int) ≤ (n.toNat : Int) := Int.ofNat_le.mpr this
    rw [Int.natCast_mul] at z
    rw [e] at z ⊢
    exact z
  · have := s.2
    have z : ((n.toNat : Nat) : Int) < (((rtN n.toNat + 1) * (rtN n.toNat + 1) : Nat) : Int) := Int.ofNat_lt.mpr this
    rw [Int.natCast_mul, Int.natCast_add, e] at z
    exact z
theorem sq_lt {a b : Int} (h : 0 ≤ a) (hb : a < b) : a * a < b * b := by
  have h1 : a * a ≤ a * b := Int.mul_le_mul_of_nonneg_left (by omega) h
  have h2 : a * b < b * b := Int.mul_lt_mul_of_pos_right hb (by omega)
  omega
theorem sq_le {a b : Int} (h : 0 ≤ a) (hb : a ≤ b) : a * a ≤ b * b := by
  by_cases e : a = b
  · rw [e]; exact Int.le_refl _
  · exact Int.le_of_lt (sq_lt h (by omega))
theorem lt_of_sq {a b : Int} (hb : 0 ≤ b) (h : a * a < b * b) : a < b := by
  by_cases e : a < b
  · exact e
  · have := sq_le hb (show b ≤ a by omega)
    omega
theorem le_of_sq {a b : Int} (hb : 0 ≤ b) (h : a * a ≤ b * b) : a ≤ b := by
  by_cases e : a ≤ b
  · exact e
  · have := sq_lt hb (show b < a by omega)
    omega
theorem rt_uniq {n a : Int} (ha : 0 ≤ a) (h1 : a * a ≤ n) (h2 : n < (a + 1) * (a + 1)) : rt n = a := by
  have hn : 0 ≤ n := by
    have := Int.mul_nonneg ha ha
    omega
  obtain ⟨r0, r1, r2⟩ := rt_spec hn
  have x : rt n < a + 1 := lt_of_sq (by omega) (by omega)
  have y : a < rt n + 1 := lt_of_sq (by omega) (by omega)
  omega
theorem sq_iff {n : Int} (hn : 0 ≤ n) : rt n * rt n = n ↔ ∃ a : Int, a * a = n := by
  refine ⟨fun h => ⟨_, h⟩, fun ⟨a, h⟩ => ?_⟩
  have key : ∀ b : Int, 0 ≤ b → b * b = n → rt n * rt n = n := fun b hb e => by
    have : rt n = b := rt_uniq hb (by omega) (by
      have : (b + 1) * (b + 1) = b * b + 2 * b + 1 := by grind
      omega)
    rw [this, e]
  by_cases ha : 0 ≤ a
  · exact key a ha h
  · exact key (-a) (by omega) (by rw [← h]; grind)
/-- a number between two squares -/
structure Good (n r : Int) : Prop where
  r1 : 1 ≤ r
  lo : r * r < n
  hi : n < (r + 1) * (r + 1)
theorem good_of {n : Int} (h : 2 ≤ n) (hs : rt n * rt n ≠ n) : Good n (rt n) := by
  obtain ⟨r0, r1, r2⟩ := rt_spec (show 0 ≤ n by omega)
  refine ⟨?_, by omega, r2⟩
  by_cases e : rt n = 0
  · rw [e] at r2
    omega
  · omega
structure Red (n r P Q : Int) : Prop where
  p0 : 0 < P
  pr : P ≤ r
  q0 : 0 < Q
  lo : r < P + Q
  hi : Q ≤ r + P
  dv : Q ∣ n - P * P
/-- one step of the ladder: the quotient a, what is taken, what is over -/
structure Step (n r P Q a P' Q' : Int) : Prop where
  a1 : 1 ≤ a
  al : a * Q ≤ r + P
  ah : r + P < a * Q + Q
  pe : P' = a * Q - P
  qe : Q * Q' = n - P' * P'
theorem red_step {n r P Q a P' Q' : Int} (G : Good n r) (R : Red n r P Q) (S : Step n r P Q a P' Q') : Red n r P' Q' := by
  obtain ⟨a1, al, ah, pe, qe⟩ := S
  have hq0 := R.q0
  have haq : Q ≤ a * Q := by
    have := Int.mul_le_mul_of_nonneg_right a1 (show 0 ≤ Q by omega)
    omega
  have h1 : P' ≤ r := by omega
  have h2 : r < P' + Q := by omega
  have h3 : Q ≤ r + P' := by
    have := R.pr
    omega
  have h0 : 0 < P' := by
    by_cases e : Q ≤ r
    · omega
    · have := R.pr
      omega
  have e1 : (r - P') * (r + P') = r * r - P' * P' := by grind
  have e2 : (r + 1 - P') * (r + 1 + P') = (r + 1) * (r + 1) - P' * P' := by grind
  have b1 : (r - P') * Q ≤ (r - P') * (r + P') := Int.mul_le_mul_of_nonneg_left h3 (by omega)
  have glo := G.lo
  have ghi := G.hi
  have q1 : (r - P') * Q < Q * Q' := by omega
  have q2 : r - P' < Q' := by
    rw [Int.mul_comm Q Q'] at q1
    exact Int.lt_of_mul_lt_mul_right q1 (by omega)
  have b2 : Q * (r + 1 + P') ≥ (r + 1 - P') * (r + 1 + P') := Int.mul_le_mul_of_nonneg_right (by omega) (by omega)
  have q3 : Q * Q' < Q * (r + 1 + P') := by omega
  have q4 : Q' < r + 1 + P' := Int.lt_of_mul_lt_mul_left q3 (by omega)
  exact ⟨h0, h1, by omega, by omega, by omega, ⟨Q, qe.symm.trans (Int.mul_comm _ _)⟩⟩
def nxt (n r : Int) (s : Int × Int) : Int × Int :=
  ((r + s.1) / s.2 * s.2 - s.1, (n - ((r + s.1) / s.2 * s.2 - s.1) * ((r + s.1) / s.2 * s.2 - s.1)) / s.2)
def st (n r : Int) : Nat → Int × Int
  | 0 => (r, n - r * r)
  | i + 1 => nxt n r (st n r i)
abbrev sP (n r : Int) (i : Nat) : Int := (st n r i).1
abbrev sQ (n r : Int) (i : Nat) : Int := (st n r i).2
def aq (n r : Int) (i : Nat) : Int := (r + sP n r i) / sQ n r i
theorem red_zero {n r : Int} (G : Good n r) : Red n r r (n - r * r) := by
  have := G.r1
  have := G.lo
  have := G.hi
  have e : (r + 1) * (r + 1) = r * r + 2 * r + 1 := by grind
  exact ⟨by omega, by omega, by omega, by omega, by omega, ⟨1, by omega⟩⟩
theorem step_of {n r P Q : Int} (G : Good n r) (R : Red n r P Q) : Step n r P Q ((r + P) / Q) ((r + P) / Q * Q - P) ((n - ((r + P) / Q * Q - P) * ((r + P) / Q * Q - P)) / Q) := by
  have q0 := R.q0
  have h1 : (r + P) / Q * Q ≤ r + P := Int.ediv_mul_le _ (by omega)
  have h2 : r + P < (r + P) / Q * Q + Q := by
    have := Int.lt_ediv_add_one_mul_self (r + P) q0
    have e : ((r + P) / Q + 1) * Q = (r + P) / Q * Q + Q := by grind
    omega
  have ha : 1 ≤ (r + P) / Q := by
    have := R.hi
    exact (Int.le_ediv_iff_mul_le q0).mpr (by omega)
  refine ⟨ha, h1, h2, rfl, ?_⟩
  refine Int.mul_ediv_cancel' ?_
  obtain ⟨k, hk⟩ := R.dv
  generalize (r + P) / Q = a
  refine ⟨k + 2 * a * P - a * a * Q, ?_⟩
  grind
theorem st_red {n r : Int} (G : Good n r) : ∀ i, Red n r (sP n r i) (sQ n r i)
  | 0 => red_zero G
  | i + 1 => red_step G (st_red G i) (step_of G (st_red G i))
theorem st_step {n r : Int} (G : Good n r) (i : Nat) : Step n r (sP n r i) (sQ n r i) (aq n r i) (sP n r (i + 1)) (sQ n r (i + 1)) :=
  step_of G (st_red G i)
/-- the step is one to one -/
theorem step_inj {n r P Q a P1 Q1 b T U : Int} (R : Red n r P Q) (R2 : Red n r P1 Q1) (S : Step n r P Q a T U) (S2 : Step n r P1 Q1 b T U) (hU : 0 < U) : P = P1 ∧ Q = Q1 := by
  obtain ⟨a1, al, ah, pe, qe⟩ := S
  obtain ⟨b1, bl, bh, pe2, qe2⟩ := S2
  have eQ : Q = Q1 := by
    have : Q * U = Q1 * U := by omega
    exact Int.eq_of_mul_eq_mul_right (by omega) this
  subst eQ
  refine ⟨?_, rfl⟩
  have h1 := R.pr
  have h2 := R.lo
  have h3 := R2.pr
  have h4 := R2.lo
  have e : P - P1 = (a - b) * Q := by grind
  have l1 : (a - b) * Q < 1 * Q := by omega
  have l2 : (-1) * Q < (a - b) * Q := by omega
  have m1 := Int.lt_of_mul_lt_mul_right l1 (by have := R.q0; omega)
  have m2 := Int.lt_of_mul_lt_mul_right l2 (by have := R.q0; omega)
  have : a - b = 0 := by omega
  rw [this] at e
  omega
/-! the round -/
theorem pigeon : ∀ (N : Nat) (f : Nat → Nat), (∀ i, i ≤ N → f i < N) → ∃ i j, i < j ∧ j ≤ N ∧ f i = f j
  | 0, f, h => absurd (h 0 (Nat.le_refl 0)) (Nat.not_lt_zero _)
  | N + 1, f, h => by
    by_cases hx : ∃ i, i ≤ N ∧ f i = f (N + 1)
    · obtain ⟨i, hi, e⟩ := hx
      exact ⟨i, N + 1, by omega, by omega, e⟩
    · let g : Nat → Nat := fun i => if f i < f (N + 1) then f i else f i - 1
      have hg : ∀ i, i ≤ N → g i < N := fun i hi => by
        have h1 := h i (by omega)
        have h2 := h (N + 1) (by omega)
        have h3 : f i ≠ f (N + 1) := fun e => hx ⟨i, hi, e⟩
        show (if f i < f (N + 1) then f i else f i - 1) < N
        split <;> omega
      obtain ⟨i, j, hij, hj, e⟩ := pigeon N g hg
      refine ⟨i, j, hij, by omega, ?_⟩
      have h3 : f i ≠ f (N + 1) := fun e => hx ⟨i, by omega, e⟩
      have h4 : f j ≠ f (N + 1) := fun e => hx ⟨j, by omega, e⟩
      have e' : (if f i < f (N + 1) then f i else f i - 1) = (if f j < f (N + 1) then f j else f j - 1) := e
      split at e' <;> split at e' <;> omega
theorem st_back {n r : Int} (G : Good n r) : ∀ i d, st n r i = st n r (i + d) → st n r 0 = st n r d
  | 0, d, h => by rw [Nat.zero_add] at h; exact h
  | i + 1, d, h => by
    have e1 : i + 1 + d = (i + d) + 1 := by omega
    rw [e1] at h
    have s1 := st_step G i
    have s2 := st_step G (i + d)
    unfold sP sQ at s1 s2
    rw [← h] at s2
    obtain ⟨x, y⟩ := step_inj (st_red G i) (st_red G (i + d)) s1 s2 (st_red G (i + 1)).q0
    exact st_back G i d (Prod.ext x y)
def code (r : Int) (s : Int × Int) : Nat := (s.1.toNat - 1) * (2 * r.toNat) + (s.2.toNat - 1)
theorem code_lt {n r P Q : Int} (R : Red n r P Q) : code r (P, Q) < r.toNat * (2 * r.toNat) := by
  obtain ⟨p0, pr, q0, lo, hi, _⟩ := R
  unfold code
  show (P.toNat - 1) * (2 * r.toNat) + (Q.toNat - 1) < _
  have h1 : P.toNat - 1 + 1 ≤ r.toNat := by omega
  have h2 : Q.toNat - 1 < 2 * r.toNat := by omega
  have h3 := Nat.mul_le_mul_right (2 * r.toNat) h1
  rw [Nat.add_mul] at h3
  omega
theorem code_inj {n r P Q P1 Q1 : Int} (R : Red n r P Q) (R1 : Red n r P1 Q1) (e : code r (P, Q) = code r (P1, Q1)) : (P, Q) = (P1, Q1) := by
  obtain ⟨p0, pr, q0, lo, hi, _⟩ := R
  obtain ⟨p0', pr', q0', lo', hi', _⟩ := R1
  have e' : (P.toNat - 1) * (2 * r.toNat) + (Q.toNat - 1) = (P1.toNat - 1) * (2 * r.toNat) + (Q1.toNat - 1) := e
  have h2 : Q.toNat - 1 < 2 * r.toNat := by omega
  have h3 : Q1.toNat - 1 < 2 * r.toNat := by omega
  have m0 : 0 < 2 * r.toNat := by omega
  have d1 : ((P.toNat - 1) * (2 * r.toNat) + (Q.toNat - 1)) / (2 * r.toNat) = ((P1.toNat - 1) * (2 * r.toNat) + (Q1.toNat - 1)) / (2 * r.toNat) := by rw [e']
  have d2 : ((P.toNat - 1) * (2 * r.toNat) + (Q.toNat - 1)) % (2 * r.toNat) = ((P1.toNat - 1) * (2 * r.toNat) + (Q1.toNat - 1)) % (2 * r.toNat) := by rw [e']
  rw [Nat.mul_comm (P.toNat - 1), Nat.mul_comm (P1.toNat - 1)] at d1 d2
  rw [Nat.mul_add_div m0, Nat.mul_add_div m0, Nat.div_eq_of_lt h2, Nat.div_eq_of_lt h3] at d1
  rw [Nat.mul_add_mod, Nat.mul_add_mod, Nat.mod_eq_of_lt h2, Nat.mod_eq_of_lt h3] at d2
  rw [show P = P1 by omega, show Q = Q1 by omega]
/-- there is a place where what is over is 1 -/
theorem one_there {n r : Int} (G : Good n r) : ∃ i, i < r.toNat * (2 * r.toNat) ∧ sQ n r i = 1 := by
  obtain ⟨i, j, hij, hj, e⟩ := pigeon (r.toNat * (2 * r.toNat)) (fun i => code r (st n r i)) (fun i _ => code_lt (st_red G i))
  have e2 : st n r i = st n r (i + (j - i)) := by
    rw [show i + (j - i) = j by omega]
    exact code_inj (st_red G i) (st_red G j) e
  have e3 := st_back G i (j - i) e2
  obtain ⟨d, hd⟩ : ∃ d, j - i = d + 1 := ⟨j - i - 1, by omega⟩
  rw [hd] at e3
  have s := (st_step G d).qe
  have eP : sP n r (d + 1) = r := by
    show (st n r (d + 1)).1 = r
    rw [← e3]
    rfl
  have eQ : sQ n r (d + 1) = n - r * r := by
    show (st n r (d + 1)).2 = n - r * r
    rw [← e3]
    rfl
  rw [eP, eQ] at s
  refine ⟨d, by omega, ?_⟩
  have g := G.lo
  have : sQ n r d * (n - r * r) = 1 * (n - r * r) := by omega
  exact Int.eq_of_mul_eq_mul_right (by omega) this
/-- the first place of a kind -/
theorem least_of {p : Nat → Prop} (h : ∃ i, p i) : ∃ i, p i ∧ ∀ j, j < i → ¬ p j := by
  obtain ⟨i, hi⟩ := h
  induction i using Nat.strongRecOn with
  | ind i ih =>
    by_cases hx : ∃ j, j < i ∧ p j
    · obtain ⟨j, hj, pj⟩ := hx
      exact ih j hj pj
    · exact ⟨i, hi, fun j hj pj => hx ⟨j, hj, pj⟩⟩
/-- l is the place of the round's last quotient -/
structure Last (n r : Int) (l : Nat) : Prop where
  one : sQ n r l = 1
  no : ∀ j, j < l → sQ n r j ≠ 1
  le : l < r.toNat * (2 * r.toNat)
theorem last_there {n r : Int} (G : Good n r) : ∃ l, Last n r l := by
  obtain ⟨i, hi, e⟩ := one_there G
  obtain ⟨l, e1, e2⟩ := least_of (p := fun i => sQ n r i = 1) ⟨i, e⟩
  refine ⟨l, e1, e2, ?_⟩
  by_cases h : l ≤ i
  · omega
  · exact absurd e (e2 i (by omega))
theorem last_P {n r : Int} {l : Nat} (G : Good n r) (h : sQ n r l = 1) : sP n r l = r := by
  have R := st_red G l
  have a := R.pr
  have b := R.lo
  omega
theorem last_a {n r : Int} {l : Nat} (G : Good n r) (h : sQ n r l = 1) : aq n r l = 2 * r := by
  unfold aq
  rw [last_P G h, h, Int.ediv_one]
  omega
theorem last_st {n r : Int} {l : Nat} (G : Good n r) (h : sQ n r l = 1) : st n r (l + 1) = st n r 0 := by
  have s := st_step G l
  have ep := s.pe
  have eq := s.qe
  rw [last_a G h, last_P G h, h] at ep
  have ep' : sP n r (l + 1) = r := by omega
  rw [h, ep'] at eq
  exact Prod.ext (by exact ep') (by show sQ n r (l + 1) = n - r * r; omega)
theorem st_add {n r : Int} {l : Nat} (G : Good n r) (h : sQ n r l = 1) : ∀ i, st n r (l + 1 + i) = st n r i
  | 0 => last_st G h
  | i + 1 => by
    show nxt n r (st n r (l + 1 + i)) = nxt n r (st n r i)
    rw [st_add G h i]
theorem st_mod {n r : Int} {l : Nat} (G : Good n r) (h : sQ n r l = 1) (i : Nat) : st n r (i % (l + 1)) = st n r i := by
  induction i using Nat.strongRecOn with
  | ind i ih =>
    by_cases hi : i < l + 1
    · rw [Nat.mod_eq_of_lt hi]
    · have e := ih (i - (l + 1)) (by omega)
      have e2 := st_add G h (i - (l + 1))
      rw [show l + 1 + (i - (l + 1)) = i by omega] at e2
      rw [e2, ← e]
      rw [Nat.mod_eq_sub_mod (by omega)]
theorem aq_mod {n r : Int} {l : Nat} (G : Good n r) (h : sQ n r l = 1) (i : Nat) : aq n r (i % (l + 1)) = aq n r i := by
  unfold aq sP sQ
  rw [st_mod G h i]
/-- where what is over is 1: the rounds' ends alone -/
theorem one_iff {n r : Int} {l : Nat} (G : Good n r) (L : Last n r l) (i : Nat) : sQ n r i = 1 ↔ i % (l + 1) = l := by
  have e : sQ n r (i % (l + 1)) = sQ n r i := by
    unfold sQ
    rw [st_mod G L.one i]
  rw [← e]
  refine ⟨fun h => ?_, fun h => by rw [h]; exact L.one⟩
  have h1 : i % (l + 1) < l + 1 := Nat.mod_lt _ (by omega)
  by_cases h2 : i % (l + 1) < l
  · exact absurd h (L.no _ h2)
  · omega
theorem aq_le {n r : Int} (G : Good n r) {i : Nat} (h : sQ n r i ≠ 1) : aq n r i ≤ r := by
  have R := st_red G i
  have q0 := R.q0
  have S := st_step G i
  have al := S.al
  have a1 := S.a1
  have := R.pr
  have : aq n r i * 2 ≤ aq n r i * sQ n r i := Int.mul_le_mul_of_nonneg_left (by omega) (by omega)
  omega
theorem aq_le2 {n r : Int} (G : Good n r) (i : Nat) : aq n r i ≤ 2 * r := by
  by_cases h : sQ n r i = 1
  · rw [last_a G h]
    exact Int.le_refl _
  · have := aq_le G h
    have := G.r1
    omega
theorem aq_pos {n r : Int} (G : Good n r) (i : Nat) : 1 ≤ aq n r i := (st_step G i).a1
/-- the quotient of what is taken next, over the same -/
theorem aq_rev {n r : Int} (G : Good n r) (i : Nat) : (r + sP n r (i + 1)) / sQ n r i = aq n r i := by
  have S := st_step G i
  have R := st_red G i
  have e1 := S.pe
  have q0 := R.q0
  have h1 := R.pr
  have h2 := R.lo
  refine (Int.ediv_eq_iff_of_pos q0).mpr ⟨?_, ?_⟩ <;> omega
/-- the row of quotients is the same from either end -/
theorem flip {n r : Int} {l : Nat} (G : Good n r) (h : sQ n r l = 1) : ∀ j, j < l → sP n r (l - j) = sP n r j ∧ sQ n r (l - j - 1) = sQ n r j
  | 0, hj => by
    obtain ⟨m, rfl⟩ : ∃ m, l = m + 1 := ⟨l - 1, by omega⟩
    have eP : sP n r (m + 1) = r := last_P G h
    have s := st_step G m
    have qe := s.qe
    rw [h, eP] at qe
    have eQ : sQ n r m = n - r * r := by omega
    exact ⟨eP, eQ⟩
  | j + 1, hj => by
    obtain ⟨x, y⟩ := flip G h j (by omega)
    obtain ⟨i, hi⟩ : ∃ i, l - j - 1 = i + 1 := ⟨l - j - 2, by omega⟩
    have e1 : l - (j + 1) = i + 1 := by omega
    have e2 : l - j = i + 2 := by omega
    rw [e1]
    rw [hi] at y
    rw [e2] at x
    have S := st_step G (i + 1)
    have T := st_step G j
    have U := st_step G i
    have ea : aq n r (i + 1) = aq n r j := by
      rw [← aq_rev G (i + 1)]
      unfold aq
      rw [x, y]
    have p1 := S.pe
    have p2 := T.pe
    rw [ea, y, x] at p1
    have eP : sP n r (i + 1) = sP n r (j + 1) := by omega
    refine ⟨eP, ?_⟩
    have q1 := U.qe
    have q2 := T.qe
    rw [y, eP] at q1
    show sQ n r i = sQ n r (j + 1)
    have : sQ n r i * sQ n r j = sQ n r (j + 1) * sQ n r j := by
      rw [q1, ← q2, Int.mul_comm]
    exact Int.eq_of_mul_eq_mul_right (by have := (st_red G j).q0; omega) this
theorem flip_a {n r : Int} {l : Nat} (G : Good n r) (h : sQ n r l = 1) {j : Nat} (hj : j < l) : aq n r (l - 1 - j) = aq n r j := by
  obtain ⟨x, y⟩ := flip G h j hj
  rw [show l - 1 - j = l - j - 1 by omega, ← aq_rev G (l - j - 1), show l - j - 1 + 1 = l - j by omega, x, y]
  rfl
end RL
namespace RL
open PySem PySem.Spec PyProof.Rows L2
/-! rules -/
/-- * of two factors of together less than a hundred million bits -/
def CMulX (i j : Int) : Prop := i.natAbs.log2 + j.natAbs.log2 < 100000000
theorem CMulX.ok {i j : Int} (h : CMulX i j) : IntMulOk i j := by
  have b : ∀ x : Int, Builtin.Int.intBits x ≤ x.natAbs.log2 + 1 := fun x => by
    unfold Builtin.Int.intBits
    split <;> omega
  have h1 := b i
  have h2 := b j
  have h3 : i.natAbs.log2 + j.natAbs.log2 < 100000000 := h
  have e : bitsLine = 134217728 := by decide
  unfold IntMulOk
  intro z
  rw [Bool.and_eq_true] at z
  have z2 := z.2
  unfold Builtin.Int.intTooBig at z2
  have z3 := of_decide_eq_true z2
  rw [e] at z3
  omega
theorem op_mulX {X : Cx} : OpR X (binaryOp .Mult) (rI CMulX fun i j => .int (i * j)) := opI fun _ _ _ _ _ _ _ hc q => mul_int q hc.ok
theorem log2_le {n a : Nat} (h : n < 2 ^ a) : n.log2 ≤ a := by
  by_cases h0 : n = 0
  · rw [h0]
    show Nat.log2 0 ≤ a
    have : Nat.log2 0 = 0 := by decide
    omega
  · have := (Nat.log2_lt h0).mpr h
    omega
theorem mx {i j : Int} (a b : Nat) (ha : i.natAbs < 2 ^ a) (hb : j.natAbs < 2 ^ b) (h : a + b < 100000000 := by decide) : CMulX i j := by
  have x := log2_le ha
  have y := log2_le hb
  unfold CMulX
  omega
theorem dv {i j : Int} (h0 : 0 < j) (h : j < 1073741824) : CDivW i j := by
  refine ⟨h0, ?_⟩
  have : j.natAbs < 2 ^ 30 := by omega
  have := log2_le this
  omega
/-- a def that is called: at some place, by some level, its last parameters' values dvs -/
structure Dn (P : Program) (w : World) (K : PySem.W.Frag) (mg : Str → Option Value) (base : Heap) (x : Str) (k : Nat) (ps : List Str) (dvs : List V) (sp : Sp) : Prop where
  ex : ∃ (f : Addr) (fd : FuncData) (ds : List Value), FnOk P w K mg base CX0 k f fd ps sp ∧ mg x = some (.ref f) ∧ PySem.W.keepIn K (.ref f) = true ∧ Binds K fd ps ds ∧ Vals dvs ds
theorem pe_callD {X : Cx} {x : Str} {j k : Nat} {ps : List Str} {dvs : List V} {sp : Sp} {p pos : Pos} {e : Expr} {es : List Expr} {t : TA} (D : Dn X.prog X.w X.K X.mg X.base x j ps dvs sp) (hr : Room k X.A) (hj : j ≤ k) (hg : Gl X x)
    (ha : PA X (e :: es) t) (hdb : (x == ("__debug__" : Str)) = false := by decide) (he : starEach (e :: es) X.env = (false, eval e X.env) :: starEach es X.env := by rfl) (hpl : (backTo pos (starEach es X.env)).any (·.1) = false := by rfl) :
    PE X (.Call (.Name x p) (e :: es) [] pos) (tCall sp dvs E0 t) := by
  obtain ⟨f, fd, ds, F, hm, hk, hb, hd⟩ := D.ex
  exact pe_call F (hr.mono hj) hg hm hk hb hd pass0 ha hdb he hpl
theorem pe_callD0 {X : Cx} {x : Str} {j k : Nat} {ps : List Str} {dvs : List V} {sp : Sp} {p pos : Pos} (D : Dn X.prog X.w X.K X.mg X.base x j ps dvs sp) (hr : Room k X.A) (hj : j ≤ k) (hg : Gl X x)
    (hdb : (x == ("__debug__" : Str)) = false := by decide) : PE X (.Call (.Name x p) [] [] pos) (tCall sp dvs E0 tNil) := by
  obtain ⟨f, fd, ds, F, hm, hk, hb, hd⟩ := D.ex
  exact pe_call0 F (hr.mono hj) hg hm hk hb hd pass0 hdb
/-- a module's number -/
theorem pe_globI {X : Cx} {x : Str} {i : Int} {pos : Pos} (hg : Gl X x) (hm : ∃ t, X.mg x = some (.int i t)) (hd : (x == ("__debug__" : Str)) = false := by decide) : PE X (.Name x pos) (tC (.int i)) := by
  obtain ⟨t, h⟩ := hm
  exact pe_glob hg h ⟨t, rfl⟩ hd
theorem ifT {c : Bool} {A B : Prop} (h : c = true) (a : A) : if c = true then A else B := by
  rw [if_pos h]
  exact a
theorem ifF {c : Bool} {A B : Prop} (h : c = false) (b : B) : if c = true then A else B := by
  rw [if_neg (by rw [h]; exact Bool.false_ne_true)]
  exact b
theorem if2 {c : Bool} {A B : Prop} (a : c = true → A) (b : c = false → B) : if c = true then A else B := by
  cases c with
  | true => exact a rfl
  | false => exact b rfl
/-- a test that is decided -/
theorem ifD {p : Prop} [Decidable p] {A B : Prop} (a : p → A) (b : ¬ p → B) : if decide p = true then A else B := by
  by_cases h : p
  · rw [if_pos (decide_eq_true h)]
    exact a h
  · rw [if_neg (by rw [decide_eq_true_eq]; exact h)]
    exact b h
theorem ty_int {K : PySem.W.Frag} {H : Hp} {i : Int} : TyX K H (.int i) (.type "int") := .base (.int i)
theorem ty_bl {K : PySem.W.Frag} {H : Hp} {b : Bool} : TyX K H (.bl b) (.type "bool") := .base (.bl b)
theorem kit_ii {K : PySem.W.Frag} : PySem.W.kitOne K (.type "int") (.type "int") = some true := kit_ty (by decide +kernel)
theorem kit_ib {K : PySem.W.Frag} : PySem.W.kitOne K (.type "int") (.type "bool") = some false := kit_ty (by decide +kernel)
theorem kit_bb {K : PySem.W.Frag} : PySem.W.kitOne K (.type "bool") (.type "bool") = some true := kit_ty (by decide +kernel)
theorem kit_bi {K : PySem.W.Frag} : PySem.W.kitOne K (.type "bool") (.type "int") = some true := kit_ty (by decide +kernel)
/-- what isinstance asks, of a number -/
theorem isi_ii {K : PySem.W.Frag} {H : Hp} {i : Int} {Q : VK} (q : Q (.bl true) H) : rIsi K [.int i, .ty "int"] H Q := ⟨_, _, _, _, _, rfl, .ty _, ty_int, kit_ii, q⟩
theorem isi_ib {K : PySem.W.Frag} {H : Hp} {i : Int} {Q : VK} (q : Q (.bl false) H) : rIsi K [.int i, .ty "bool"] H Q := ⟨_, _, _, _, _, rfl, .ty _, ty_int, kit_ib, q⟩
theorem isi_bb {K : PySem.W.Frag} {H : Hp} {i : Bool} {Q : VK} (q : Q (.bl true) H) : rIsi K [.bl i, .ty "bool"] H Q := ⟨_, _, _, _, _, rfl, .ty _, ty_bl, kit_bb, q⟩
/-! lists and loops -/
theorem cut_to (xs : List V) (k : Nat) : cutV xs none (some (k : Int)) = xs.take k := by
  unfold cutV
  rw [HT.sIx_none, HT.sIx_nat, List.drop_zero, Nat.sub_zero]
  by_cases h : k ≤ xs.length
  · rw [Nat.min_eq_left h]
  · rw [Nat.min_eq_right (by omega), List.take_length, List.take_of_length_le (by omega)]
theorem rd_seq {K : PySem.W.Frag} {H : Hp} {a : Addr} {xs : List V} (h : Rd H a (.lst xs)) : SqL K H a xs := Or.inl h
theorem same_rd {H H' : Hp} {a : Addr} {u : HO} (e : Same H H') (h : Rd H a u) : Rd H' a u := by
  rcases h with h | ⟨o, h⟩
  · exact .inl (e _ _ h)
  · exact .inr ⟨o, e _ _ h⟩
theorem same_new {H : Hp} {p : Addr} {o : HO} (h : H p = none) : Same H (upd H p o) := fun b x e => by
  rw [upd_ne (ne_of_none e h)]
  exact e
/-- an object unknown at the start may be changed -/
theorem same_mut {H H' : Hp} {p : Addr} {o : HO} (e : Same H H') (h : H p = none) : Same H (upd H' p o) := fun b x q => by
  rw [upd_ne (ne_of_none q h)]
  exact e _ _ q
theorem kp {H : Hp} {p b : Addr} {u : HO} (h : H b = some u) (np : H p = none) (o : HO) : upd H p o b = some u := (upd_ne (ne_of_none h np)).trans h
/-- list + list, the left one the script too -/
def rCatR : R2 := fun x y H Q => ∃ l b xs zs, x = .ref l ∧ y = .ref b ∧ Rd H l (.lst xs) ∧ Rd H b (.lst zs) ∧ xs.length + zs.length ≤ sizeLine ∧ ∀ p, H p = none → Q (.ref p) (upd H p (.lst (xs ++ zs)))
theorem op_catR {X : Cx} : OpR X (binaryOp .Add) rCatR := by
  rintro pins s σ H x y v u Q I rx ry ⟨l, b, xs, zs, rfl, rfl, hl, hb, hz, q⟩
  cases rx
  cases ry
  obtain ⟨z1, i1, n1, r1, e1⟩ := hl.ok I.hok
  obtain ⟨z2, i2, n2, r2, e2⟩ := hb.ok I.hok
  have l1 := r1.length
  have l2 := r2.length
  refine PySem.P.add_list e1 e2 ?_ (by rw [List.size_toArray, List.size_toArray]; omega)
  rw [show i1.toArray ++ i2.toArray = (i1 ++ i2).toArray by simp]
  exact ⟨.ref _, _, I.lnew (t' := s.toks) (r1.append r2) (by rw [List.length_append]; omega), rfl, q _ I.fresh⟩
/-- for i, x in enumerate(xs), xs a list that stands still -/
theorem for_enum {K : PySem.W.Frag} {a : Addr} {xs : List V} {g : TG} {tb : TS} {D : Ends} {σ : L2.St} {H : Hp} (G : Nat → L2.St → Hp → Prop) (start : G 0 σ H) (still : ∀ i σ H, G i σ H → SqL K H a xs)
    (turn : ∀ i x T σ H, xs[i]? = some x → G i σ H → H T = none → g (.ref T) σ (upd H T (.tup [.int (i : Nat), x])) fun σ2 H2 => tb { D with nx := G (i + 1), ct := G (i + 1), bk := D.nx } σ2 H2) (done : ∀ σ H, G xs.length σ H → D.nx σ H) :
    ∃ W : Nat → Nat → L2.St → Hp → Prop, (∃ m, W 0 m σ H) ∧ ∀ i m σ H, W i m σ H → ((Ite K a).stop i H ∧ D.nx σ H) ∨
      ((Ite K a).go i H ∧ ∃ N : L2.St → Hp → Prop, (∀ σ' H', N σ' H' → ∃ m', m' < m ∧ W (i + 1) m' σ' H') ∧ ∀ x H', (Ite K a).yld i H x H' → g x σ H' fun σ2 H2 => tb { D with nx := N, ct := N, bk := D.nx } σ2 H2) := by
  refine ⟨fun i m σ H => i + m = xs.length ∧ G i σ H, ⟨xs.length, Nat.zero_add _, start⟩, ?_⟩
  rintro i m σ H ⟨em, p⟩
  have st := still i σ H p
  cases m with
  | zero =>
    have ei : i = xs.length := by omega
    subst ei
    exact .inl ⟨⟨xs, st, Nat.le_refl _⟩, done σ H p⟩
  | succ m =>
    have hi : i < xs.length := by omega
    have gi : xs[i]? = some xs[i] := List.getElem?_eq_getElem hi
    refine .inr ⟨⟨xs, xs[i], st, gi⟩, G (i + 1), fun σ' H' p' => ⟨m, Nat.lt_succ_self m, by omega, p'⟩, ?_⟩
    rintro v H' ⟨T, x, rfl, nT, rfl, hx⟩
    exact turn i x T σ H (hx xs st) p nT
theorem ints_at {ns : List Int} {i : Nat} {x : V} (h : (ns.map V.int)[i]? = some x) : ∃ n, ns[i]? = some n ∧ x = .int n := by
  rw [List.getElem?_map] at h
  cases e : ns[i]? with
  | none => rw [e] at h; cases h
  | some n =>
    rw [e] at h
    exact ⟨n, rfl, (Option.some.inj h).symm⟩
theorem sz {n : Nat} (h : n ≤ 1000000) : n < sizeLine := Nat.lt_of_le_of_lt h (by decide)
/-- the law's promise -/
def spLaw : Sp := fun vs H Q _ => ∃ (a : Addr) (ns : List Int), vs = [.ref a] ∧ Rd H a (.lst (ns.map V.int)) ∧ ns.length ≤ 63 ∧ ∀ H', Q (.bl true) H'
/-! a number mixed -/
def mixed (n k : Int) : Int := (n % 2147483647 + 7919 * k * k + 31 * k) * 48271 % 2147483647 * (69621 + 2 * k) % 2147483629
theorem mixed_ge (n k : Int) : 0 ≤ mixed n k := Int.emod_nonneg _ (by decide)
theorem mixed_lt (n k : Int) : mixed n k < 2147483629 := Int.emod_lt_of_pos _ (by decide)
def spMixed : Sp := fun vs H Q _ => ∃ n k : Int, vs = [.int n, .int k] ∧ 0 ≤ k ∧ k ≤ 1000 ∧ Q (.int (mixed n k)) H

end RL
namespace RL
open PySem PySem.Spec PyProof.Rows L2
/-! the head's facts over a part of the heap in which no list stands (so the script is no part of it) -/
def lstO (o : Obj) : Bool := match o.cls with
  | .type n => decide (n = "list")
  | _ => false
def noL (g : Addr → Option Obj) (a : Addr) : Bool := match g a with
  | some o => !lstO o
  | none => true
def frN (g : Addr → Option Obj) (n : Nat) : PySem.W.Frag := He.frG g ((He.asD g n).filter (noL g))
def NoL (K : PySem.W.Frag) : Prop := ∀ a o, K.lookup a = some o → lstO o = false
theorem frG_mem {g : Addr → Option Obj} {a : Addr} {o : Obj} : ∀ as : List Addr, (He.frG g as).lookup a = some o → a ∈ as
  | [], e => nomatch (show (none : Option Obj) = some o from e)
  | b :: r, e => by
    unfold He.frG at e
    rw [List.filterMap_cons] at e
    cases hb : g b with
    | none =>
      rw [hb] at e
      exact List.mem_cons_of_mem _ (frG_mem r e)
    | some ob =>
      rw [hb] at e
      by_cases q : a = b
      · rw [q]
        exact List.mem_cons_self
      · have q2 : (a == b) = false := by simpa using q
        have e2 : (match a == b with | true => some ob | false => (He.frG g r).lookup a) = some o := e
        rw [q2] at e2
        exact List.mem_cons_of_mem _ (frG_mem r e2)
theorem frN_no (g : Addr → Option Obj) (n : Nat) : NoL (frN g n) := fun a o e => by
  have h1 := (List.mem_filter.mp (frG_mem _ e)).2
  unfold noL at h1
  rw [He.frG_at _ e] at h1
  simpa using h1
theorem rd_of {K : PySem.W.Frag} {H : Hp} {a : Addr} {xs : List V} (h : NoL K) (q : SqL K H a xs) : Rd H a (.lst xs) := by
  rcases q with q | ⟨o, its, n, lk, hc, _⟩
  · exact q
  · have z := h a o lk
    unfold lstO at z
    rw [hc] at z
    exact absurd z (by decide)
def obN (n : Nat) (fa : List He.Fa) (fn : List He.DefD) (g : Addr → Option Obj) : He.AlD := He.obsD fa fn (frN g n)
def hookN (n : Nat) (fa : List He.Fa) (fn : List He.DefD) : PySem.W.Hook where
  α := He.AlD
  obs := fun s => obN n fa fn s.heap.get?
  val := fun _ => He.valD fn
  says := fun _ h => ∃ K : PySem.W.Frag, K.In h ∧ NoL K ∧ He.SaysD fa fn K
  of := fun _ s e => ⟨frN s.heap.get? n, He.frG_in, frN_no _ _, e⟩
  keeps := fun _ _ _ ⟨K, i, z, c⟩ k => ⟨K, i.keeps k, z, c⟩
theorem obN_eq {n : Nat} {fa : List He.Fa} {fn : List He.DefD} {g : Addr → Option Obj} {s : Shared} (h : ∀ a, g a = s.heap.get? a) : obN n fa fn g = (hookN n fa fn).obs s := by
  rw [show g = s.heap.get? from funext h] <;> rfl
theorem toFun {K : PySem.W.Frag} {x : Str} {st : Stmt} {f : Addr} {fd : FuncData} (F : FunD K x x (defArgs st) (defBody st) (defScope st) [] [] f fd) : Fun K x x st f fd := by
  obtain ⟨oc, od, dV, kV, doc, pm, an, cdv, ct, osl, e, lk, hc, hd, _⟩ := F.ex
  rcases hd with ⟨_, hd⟩ | ⟨hd, _⟩
  · rw [hd] at e
    exact ⟨⟨oc, od, kV, doc, pm, an, cdv, ct, osl, e, lk, hc⟩, F.kp⟩
  · exact absurd rfl hd
end RL
namespace RL
open PySem PySem.Spec PyProof.Rows L2
def topS (i : Nat) : Stmt := PySem.Challenge.pw_rootladder_k02_whole_roots.main.body.getD i (.Pass ⟨0, 0, 0, 0⟩)
abbrev s_is_number : Stmt := topS 4
abbrev s_need_number : Stmt := topS 5
abbrev s_rooted : Stmt := topS 6
abbrev s_whole_root : Stmt := topS 7
abbrev s_is_square : Stmt := topS 8
abbrev s_l_mixed : Stmt := topS 10
abbrev s_law : Stmt := topS 12
theorem sc_is_number : FnScope ["thing"] ["thing"] (defScope s_is_number) := ⟨rfl, rfl, rfl, by decide +kernel, rfl, by decide +kernel, by decide +kernel⟩
theorem sc_need_number : FnScope ["thing", "least", "most"] ["thing", "least", "most"] (defScope s_need_number) := ⟨rfl, rfl, rfl, by decide +kernel, rfl, by decide +kernel, by decide +kernel⟩
theorem sc_rooted : FnScope ["number", "low", "high", "half"] ["number"] (defScope s_rooted) := ⟨rfl, rfl, rfl, by decide +kernel, rfl, by decide +kernel, by decide +kernel⟩
theorem sc_whole_root : FnScope ["number"] ["number"] (defScope s_whole_root) := ⟨rfl, rfl, rfl, by decide +kernel, rfl, by decide +kernel, by decide +kernel⟩
theorem sc_is_square : FnScope ["number"] ["number"] (defScope s_is_square) := ⟨rfl, rfl, rfl, by decide +kernel, rfl, by decide +kernel, by decide +kernel⟩
theorem sc_l_mixed : FnScope ["_law_number_here", "_law_k"] ["_law_number_here", "_law_k"] (defScope s_l_mixed) := ⟨rfl, rfl, rfl, by decide +kernel, rfl, by decide +kernel, by decide +kernel⟩
theorem sc_law : FnScope ["_law_script", "_law_numbers", "_law_k", "_law_cell", "_law_more", "_law_number_here", "_law_side", "_law_found", "_law_told"] ["_law_script"] (defScope s_law) := ⟨rfl, rfl, rfl, by decide +kernel, rfl, by decide +kernel, by decide +kernel⟩
/-- built-in names are no names of the module; its numbers -/
structure Tb (mg : Str → Option Value) : Prop where
  b_isinstance : mg "isinstance" = none
  b_int : mg "int" = none
  b_bool : mg "bool" = none
  b_max : mg "max" = none
  b_enumerate : mg "enumerate" = none
/-! rootladder.roots -/
section
variable {P : Program} {w : World} {K : PySem.W.Frag} {mg : Str → Option Value} {base : Heap}
/-- is_number, of a number -/
def spIsNum : Sp := fun vs H Q _ => ∃ n : Int, vs = [.int n] ∧ Q (.bl true) H
theorem ok_is_number {f : Addr} {fd : FuncData} (F : Fun K "is_number" "is_number" s_is_number f fd) (T : Tb mg) : FnOk P w K mg base CX0 1 f fd ["thing"] spIsNum := by
  refine F.ok sc_is_number (fun vs H Q E h => ?_) (fun cdv A outer s H vs Q E hr h => ?_)
  · obtain ⟨n, rfl, _⟩ := h
    rfl
  · obtain ⟨n, rfl, q⟩ := h
    refine ⟨_, (pss_one (ps_ret (pe_and (pe_callB call_isi (by rfl) T.b_isinstance (by decide +kernel) (pa_cons (pv 0) (pa_cons (pe_bltn (v := .ty "int") (by rfl) T.b_int (by decide +kernel) rfl) pa_nil))) (pe_one (pe_not (pe_callB call_isi (by rfl) T.b_isinstance (by decide +kernel) (pa_cons (pv 0) (pa_cons (pe_bltn (v := .ty "bool") (by rfl) T.b_bool (by decide +kernel) rfl) pa_nil)))))))), ?_⟩
    refine ⟨_, rfl, _, _, _, _, _, rfl, .ty _, ty_int, kit_ii, _, rfl, ifT rfl ?_⟩
    exact ⟨_, rfl, _, _, _, _, _, rfl, .ty _, ty_int, kit_ib, _, rfl, q⟩
/-- need_number, of a number within its bounds -/
def spNeed : Sp := fun vs H Q _ => ∃ (n l : Int) (m : V), vs = [.int n, .int l, m] ∧ l ≤ n ∧ (m = .non ∨ ∃ k : Int, m = .int k ∧ n ≤ k) ∧ Q .non H
theorem ok_need_number {f : Addr} {fd : FuncData} (F : FunD K "need_number" "need_number" (defArgs s_need_number) (defBody s_need_number) (defScope s_need_number) [.non] [] f fd) (T : Tb mg)
    (D_is_number : Dn P w K mg base "is_number" 1 ["thing"] [] spIsNum) : FnOk P w K mg base CX0 2 f fd ["thing", "least", "most"] spNeed := by
  refine F.ok sc_need_number (fun vs H Q E h => ?_) (fun cdv A outer s H vs Q E hr h => ?_)
  · obtain ⟨n, l, m, rfl, _⟩ := h
    rfl
  · obtain ⟨n, l, m, rfl, h1, h2, q⟩ := h
    refine ⟨_, PSs.nox (pss_one (ps_if (PW.pt (pw_or (pt_not (pt_val (pe_callD D_is_number hr (by decide) (by rfl) (pa_cons (pv 0) pa_nil)))) (pw_or (pt_cmpR op_lt (pv 0) (pv 1) (nomark _)) (pw_or1 (PW.pt (pw_and (pt_cmpR op_notN (pv 2) pe_non (nomark _)) (pw_and1 (pt_cmpR op_gt (pv 0) (pv 2) (nomark _)))))))))
        (pss_one ps_never) pss_nil)), ?_⟩
    refine ⟨_, rfl, n, rfl, ⟨_, rfl, ifF rfl ?_⟩⟩
    refine ⟨_, rfl, _, rfl, _, _, rfl, rfl, _, rfl, ifF (decide_eq_false (by omega)) ?_⟩
    rcases h2 with rfl | ⟨k, rfl, h2⟩
    · exact ⟨_, rfl, rfl, _, rfl, ifF rfl (ifF rfl q)⟩
    · refine ⟨_, rfl, rfl, _, rfl, ifT rfl ?_⟩
      exact ⟨_, rfl, _, rfl, _, _, rfl, rfl, _, rfl, ifF (decide_eq_false (by omega)) q⟩
/-- rooted -/
def spRooted : Sp := fun vs H Q _ => ∃ n : Int, vs = [.int n] ∧ 0 ≤ n ∧ n < 2 ^ 1000 ∧ Q (.int (rt n)) H
theorem big_of {x n : Int} (h0 : 0 ≤ x) (h : x ≤ 4 * n + 1) (hn : n < 2 ^ 1000) : x.natAbs < 2 ^ 1003 := by
  have e : (2 : Int) ^ 1003 = 8 * 2 ^ 1000 := by decide +kernel
  have e2 : ((2 ^ 1003 : Nat) : Int) = (2 : Int) ^ 1003 := by decide +kernel
  have : (1 : Int) ≤ 2 ^ 1000 := by decide +kernel
  generalize (2 : Int) ^ 1000 = B at *
  generalize (2 : Int) ^ 1003 = C at *
  generalize (2 : Nat) ^ 1003 = D at *
  omega
theorem le_sq {x : Int} (h : 0 ≤ x) : x ≤ x * x := by
  by_cases e : x = 0
  · rw [e]; decide
  · have := Int.mul_le_mul_of_nonneg_right (show 1 ≤ x by omega) h
    omega
theorem ok_rooted {f : Addr} {fd : FuncData} (F : Fun K "rooted" "rooted" s_rooted f fd) : FnOk P w K mg base CX0 1 f fd ["number"] spRooted := by
  refine F.ok sc_rooted (fun vs H Q E h => ?_) (fun cdv A outer s H vs Q E hr h => ?_)
  · obtain ⟨n, rfl, _⟩ := h
    rfl
  · obtain ⟨n, rfl, h0, hb, q⟩ := h
    refine ⟨_, (pss_cons (ps_set (i := 1) sc_rooted.nd rfl (.inl rfl) pe_int)
      (pss_cons (ps_set (i := 2) sc_rooted.nd rfl (.inl rfl) pe_int)
      (pss_cons (ps_while PassesOwn.never (pt_cmpR op_le (pe_op op_mulX (pv 2) (pv 2)) (pv 0) (nomark _))
        (pss_one (ps_set (i := 2) sc_rooted.nd rfl (.inl rfl) (pe_op op_mulX (pv 2) pe_int))))
      (pss_cons (ps_while PassesOwn.never (pt_cmpR op_gt (pe_op op_sub (pv 2) (pv 1)) pe_int (nomark _))
        (pss_cons (ps_set (i := 3) sc_rooted.nd rfl (.inl rfl) (pe_op op_fdivW (pe_op op_add (pv 1) (pv 2)) pe_int))
      (pss_one (ps_if (pt_cmpR op_le (pe_op op_mulX (pv 3) (pv 3)) (pv 0) (nomark _))
        (pss_one (ps_set (i := 1) sc_rooted.nd rfl (.inl rfl) (pv 3))) (pss_one (ps_set (i := 2) sc_rooted.nd rfl (.inl rfl) (pv 3)))))))
      (pss_one (ps_ret (pv 1))))))), ?_⟩
    -- low = 0; high = 1; while high * high <= number
    refine ⟨fun m σ H' => ∃ g : Int, σ = [some (.int n), some (.int 0), some (.int g), none] ∧ H' = H ∧ 1 ≤ g ∧ g * g ≤ 4 * n + 1 ∧ m = (4 * n + 2 - g).toNat, ⟨_, 1, rfl, rfl, by omega, by omega, rfl⟩, fun m σ H' hW => ?_⟩
    obtain ⟨g, rfl, rfl, g1, g2, rfl⟩ := hW
    have gl := le_sq (show 0 ≤ g by omega)
    refine ⟨_, rfl, _, rfl, _, _, rfl, rfl, mx 1003 1003 (big_of (n := n) (by omega) (by omega) hb) (big_of (n := n) (by omega) (by omega) hb), _, rfl, _, _, rfl, rfl, _, rfl, ?_⟩
    refine ite2 (fun hc => ?_) (fun hc => ?_)
    · rw [decide_eq_true_eq] at hc
      refine ⟨fun σ' H'' => ∃ m', m' < _ ∧ ∃ g : Int, σ' = [some (.int n), some (.int 0), some (.int g), none] ∧ H'' = H' ∧ 1 ≤ g ∧ g * g ≤ 4 * n + 1 ∧ m' = (4 * n + 2 - g).toNat, fun _ _ h => h, ?_⟩
      refine ⟨_, rfl, _, _, rfl, rfl, mx 1003 2 (big_of (n := n) (by omega) (by omega) hb) (by decide), ?_⟩
      have e : (g * 2) * (g * 2) = 4 * (g * g) := by grind
      exact ⟨_, (show (4 * n + 2 - g * 2).toNat < _ by omega), g * 2, rfl, rfl, by omega, by omega, rfl⟩
    · rw [decide_eq_true_eq] at hc
      -- while high - low > 1
      refine ⟨fun m σ H'' => ∃ (lo hi : Int) (x : Option V), σ = [some (.int n), some (.int lo), some (.int hi), x] ∧ H'' = H' ∧ 0 ≤ lo ∧ lo < hi ∧ lo * lo ≤ n ∧ n < hi * hi ∧ hi ≤ 4 * n + 1 ∧ m = (hi - lo).toNat, ⟨_, 0, g, none, rfl, rfl, by omega, by omega, by omega, by omega, by omega, rfl⟩, fun m σ H'' hW => ?_⟩
      obtain ⟨lo, hi, x, rfl, rfl, l0, lh, a1, a2, a3, rfl⟩ := hW
      refine ⟨_, rfl, _, rfl, _, _, rfl, rfl, _, _, rfl, rfl, _, rfl, ?_⟩
      refine ite2 (fun hc => ?_) (fun hc => ?_)
      · rw [decide_eq_true_eq] at hc
        refine ⟨fun σ' H3 => ∃ m', m' < _ ∧ ∃ (lo hi : Int) (x : Option V), σ' = [some (.int n), some (.int lo), some (.int hi), x] ∧ H3 = H'' ∧ 0 ≤ lo ∧ lo < hi ∧ lo * lo ≤ n ∧ n < hi * hi ∧ hi ≤ 4 * n + 1 ∧ m' = (hi - lo).toNat, fun _ _ h => h, ?_⟩
        refine ⟨_, rfl, _, rfl, _, _, rfl, rfl, _, _, rfl, rfl, dv (by decide) (by decide), ?_⟩
        have hb2 : ((lo + hi) / 2).natAbs < 2 ^ 1003 := big_of (n := n) (by omega) (by omega) hb
        refine ⟨_, rfl, _, rfl, _, _, rfl, rfl, mx 1003 1003 hb2 hb2, _, rfl, _, _, rfl, rfl, _, rfl, ?_⟩
        refine ite2 (fun hd => ?_) (fun hd => ?_)
        · rw [decide_eq_true_eq] at hd
          refine ⟨_, rfl, ?_⟩
          exact ⟨_, (show (hi - (lo + hi) / 2).toNat < _ by omega), (lo + hi) / 2, hi, _, rfl, rfl, by omega, by omega, hd, a2, a3, rfl⟩
        · rw [decide_eq_true_eq] at hd
          refine ⟨_, rfl, ?_⟩
          exact ⟨_, (show ((lo + hi) / 2 - lo).toNat < _ by omega), lo, (lo + hi) / 2, _, rfl, rfl, by omega, by omega, a1, by omega, by omega, rfl⟩
      · rw [decide_eq_true_eq] at hc
        have e : hi = lo + 1 := by omega
        subst e
        refine ⟨_, rfl, ?_⟩
        rw [← rt_uniq l0 a1 a2]
        exact q
end
/-! whole_root, is_square -/
section
variable {P : Program} {w : World} {K : PySem.W.Frag} {mg : Str → Option Value} {base : Heap}
def spWhole : Sp := fun vs H Q _ => ∃ n : Int, vs = [.int n] ∧ 0 ≤ n ∧ n < 2 ^ 1000 ∧ Q (.int (rt n)) H
def spIsSq : Sp := fun vs H Q _ => ∃ n : Int, vs = [.int n] ∧ 0 ≤ n ∧ n < 2 ^ 1000 ∧ Q (.bl (decide (rt n * rt n = n))) H
theorem rt_big {n : Int} (h0 : 0 ≤ n) (h : n < 2 ^ 1000) : (rt n).natAbs < 2 ^ 1003 := by
  obtain ⟨a, b, c⟩ := rt_spec h0
  have := le_sq a
  exact big_of (n := n) a (by omega) h
theorem dec_int {i j : Int} : decide (V.int i = V.int j) = decide (i = j) := by
  by_cases h : i = j
  · rw [h, decide_eq_true rfl, decide_eq_true rfl]
  · rw [decide_eq_false h, decide_eq_false (fun e => h (V.int.inj e))]
theorem ok_whole_root {f : Addr} {fd : FuncData} (F : Fun K "whole_root" "whole_root" s_whole_root f fd) (D_need_number_d : Dn P w K mg base "need_number" 2 ["thing", "least", "most"] [.non] spNeed) (D_rooted : Dn P w K mg base "rooted" 1 ["number"] [] spRooted) :
    FnOk P w K mg base CX0 3 f fd ["number"] spWhole := by
  refine F.ok sc_whole_root (fun vs H Q E h => ?_) (fun cdv A outer s H vs Q E hr h => ?_)
  · obtain ⟨n, rfl, _⟩ := h
    rfl
  · obtain ⟨n, rfl, h0, h1, q⟩ := h
    refine ⟨_, (pss_cons (ps_expr (pe_callD D_need_number_d hr (by decide) (by rfl) (pa_cons (pv 0) (pa_cons pe_int pa_nil))))
      (pss_one (ps_ret (pe_callD D_rooted hr (by decide) (by rfl) (pa_cons (pv 0) pa_nil))))), ?_⟩
    exact ⟨_, rfl, n, 0, .non, rfl, h0, .inl rfl, _, rfl, n, rfl, h0, h1, q⟩
theorem ok_is_square {f : Addr} {fd : FuncData} (F : Fun K "is_square" "is_square" s_is_square f fd) (D_need_number_d : Dn P w K mg base "need_number" 2 ["thing", "least", "most"] [.non] spNeed) (D_rooted : Dn P w K mg base "rooted" 1 ["number"] [] spRooted) :
    FnOk P w K mg base CX0 3 f fd ["number"] spIsSq := by
  refine F.ok sc_is_square (fun vs H Q E h => ?_) (fun cdv A outer s H vs Q E hr h => ?_)
  · obtain ⟨n, rfl, _⟩ := h
    rfl
  · obtain ⟨n, rfl, h0, h1, q⟩ := h
    refine ⟨_, (pss_cons (ps_expr (pe_callD D_need_number_d hr (by decide) (by rfl) (pa_cons (pv 0) (pa_cons pe_int pa_nil))))
      (pss_one (ps_ret (pe_cmpR op_eq (pe_op op_mulX (pe_callD D_rooted hr (by decide) (by rfl) (pa_cons (pv 0) pa_nil)) (pe_callD D_rooted hr (by decide) (by rfl) (pa_cons (pv 0) pa_nil))) (pv 0) (nomark _))))), ?_⟩
    refine ⟨_, rfl, n, 0, .non, rfl, h0, .inl rfl, _, rfl, n, rfl, h0, h1, _, rfl, n, rfl, h0, h1, _, _, rfl, rfl, mx 1003 1003 (rt_big h0 h1) (rt_big h0 h1), _, rfl, rfl, ?_⟩
    rw [dec_int]
    exact q
end
/-! the law's own helpers: a mixed number -/
section
variable {P : Program} {w : World} {K : PySem.W.Frag} {mg : Str → Option Value} {base : Heap}
theorem ok_mixed {f : Addr} {fd : FuncData} (F : Fun K "_law_mixed" "_law_mixed" s_l_mixed f fd) : FnOk P w K mg base CX0 1 f fd ["_law_number_here", "_law_k"] spMixed := by
  refine F.ok sc_l_mixed (fun vs H Q E h => ?_) (fun cdv A outer s H vs Q E hr h => ?_)
  · obtain ⟨n, k, rfl, _⟩ := h
    rfl
  · obtain ⟨n, k, rfl, h0, h1, q⟩ := h
    refine ⟨_, (pss_cons (ps_set (i := 0) sc_l_mixed.nd rfl (.inl rfl) (pe_op op_mod (pe_op op_mulX (pe_op op_add (pe_op op_add (pe_op op_mod (pv 0) pe_int) (pe_op op_mulX (pe_op op_mulX pe_int (pv 1)) (pv 1))) (pe_op op_mulX pe_int (pv 1))) pe_int) pe_int))
      (pss_one (ps_ret (pe_op op_mod (pe_op op_mulX (pv 0) (pe_op op_add pe_int (pe_op op_mulX pe_int (pv 1)))) pe_int)))), ?_⟩
    have k1 : 7919 * k * k ≤ 7919 * 1000 * 1000 := Int.mul_le_mul (by omega) h1 h0 (by decide)
    have k0 : 0 ≤ 7919 * k * k := Int.mul_nonneg (by omega) h0
    have m0 := Int.emod_nonneg n (show (2147483647 : Int) ≠ 0 by decide)
    have m1 := Int.emod_lt_of_pos n (show (0 : Int) < 2147483647 by decide)
    refine ⟨_, rfl, _, _, rfl, rfl, (by show (0 : Int) < 2147483647; decide), ?_⟩
    refine ⟨_, rfl, _, _, rfl, rfl, mx 14 14 (by decide) (by omega), _, rfl, _, _, rfl, rfl, mx 40 14 (by omega) (by omega), _, _, rfl, rfl, ?_⟩
    refine ⟨_, rfl, _, _, rfl, rfl, mx 14 14 (by decide) (by omega), _, _, rfl, rfl, _, _, rfl, rfl, mx 64 30 (by omega) (by decide), _, _, rfl, rfl, (by show (0 : Int) < 2147483647; decide), ?_⟩
    generalize hz : (n % 2147483647 + 7919 * k * k + 31 * k) * 48271 = z
    have z0 := Int.emod_nonneg z (show (2147483647 : Int) ≠ 0 by decide)
    have z1 := Int.emod_lt_of_pos z (show (0 : Int) < 2147483647 by decide)
    refine ⟨_, rfl, _, rfl, _, _, rfl, rfl, mx 14 14 (by decide) (by omega), _, _, rfl, rfl, _, _, rfl, rfl, mx 40 30 (by omega) (by omega), _, _, rfl, rfl, (by show (0 : Int) < 2147483629; decide), ?_⟩
    rw [← hz]
    exact q
end
/-! the law -/
theorem at_all {xs : List V} {i : Int} {R : V → Prop} (h0 : 0 ≤ i) (h1 : i < xs.length) (h : ∀ x ∈ xs, R x) : ∃ v, atI xs i = some v ∧ R v := by
  obtain ⟨j, rfl⟩ : ∃ j : Nat, i = (j : Int) := ⟨i.toNat, by omega⟩
  have hj : j < xs.length := by omega
  exact ⟨xs[j], atI_nat (List.getElem?_eq_getElem hj), h _ (List.getElem_mem hj)⟩
def Nm (v : V) : Prop := ∃ z : Int, v = .int z ∧ 0 ≤ z ∧ z < 2 ^ 300
section
variable {P : Program} {w : World} {K : PySem.W.Frag} {mg : Str → Option Value} {base : Heap}
theorem ok_law {f : Addr} {fd : FuncData} (F : Fun K "law" "law" s_law f fd) (T : Tb mg) (D_law_mixed : Dn P w K mg base "_law_mixed" 1 ["_law_number_here", "_law_k"] [] spMixed)
    (D_whole_root : Dn P w K mg base "whole_root" 3 ["number"] [] spWhole) (D_is_square : Dn P w K mg base "is_square" 3 ["number"] [] spIsSq) : FnOk P w K mg base CX0 4 f fd ["_law_script"] spLaw := by
  refine F.ok sc_law (fun vs H Q E h => ?_) (fun cdv A outer s H vs Q E hr h => ?_)
  · obtain ⟨a, ns, rfl, _⟩ := h
    rfl
  · obtain ⟨a, ns, rfl, hS, hlen, q⟩ := h
    refine ⟨_, (pss_cons (ps_set (i := 1) sc_law.nd rfl (.inl rfl) (pe_lst (pa_cons pe_int (pa_cons pe_int pa_nil))))
      (pss_cons (ps_for PassesOwn.never rfl (pi_enum (by rfl) T.b_enumerate (pa_cons (pe_slice sl_list (pv 0) po_none (po_some pe_int)) pa_nil)) (pg_tup rfl (pgs_cons (pg_name (i := 2) sc_law.nd rfl (.inl rfl)) (pgs_cons (pg_name (i := 3) sc_law.nd rfl (.inl rfl)) pgs_nil)))
        (pss_cons (ps_set (i := 4) sc_law.nd rfl (.inl rfl) (pe_callD D_law_mixed hr (by decide) (by rfl) (pa_cons (pv 3) (pa_cons (pv 2) pa_nil))))
      (pss_cons (ps_set (i := 5) sc_law.nd rfl (.inl rfl) (pe_ix ix_list (pe_lst (pa_cons (pe_op op_mod (pv 4) pe_int) (pa_cons (pv 4) (pa_cons (pe_op op_mod (pe_op op_mulX (pe_op op_mulX (pv 4) (pe_op op_add (pe_op op_pow pe_int pe_int) pe_int)) (pe_op op_add (pv 4) pe_int)) (pe_op op_pow pe_int pe_int)) pa_nil)))) (pe_op op_mod (pv 4) pe_int) (fun _ _ => rfl)))
      (pss_cons (ps_if (pt_cmpR op_eq (pe_op op_mod (pe_op op_fdivW (pv 4) pe_int) pe_int) pe_int (nomark _))
        (pss_cons (ps_set (i := 6) sc_law.nd rfl (.inl rfl) (pe_ix ix_list (pe_lst (pa_cons (pe_op op_mod (pe_op op_fdivW (pv 4) pe_int) pe_int) (pa_cons (pe_op op_mod (pe_op op_mulX (pv 4) (pe_op op_add (pe_op op_pow pe_int pe_int) pe_int)) (pe_op op_pow pe_int pe_int)) pa_nil))) (pe_op op_mod (pe_op op_fdivW (pv 4) pe_int) pe_int) (fun _ _ => rfl)))
      (pss_one (ps_set (i := 5) sc_law.nd rfl (.inl rfl) (pe_callB (call_max2 rfl) (by rfl) T.b_max (by decide +kernel) (pa_cons pe_int (pa_cons (pe_op op_sub (pe_op op_add (pe_op op_mulX (pv 6) (pv 6)) (pe_op op_mod (pe_op op_fdivW (pv 4) pe_int) pe_int)) pe_int) pa_nil)))))) pss_nil)
      (pss_one (ps_expr (pe_bm PySem.F.plainAttrs_list PySem.F.slot_list_append PySem.F.type_list_append mt_append (pv 1) (pa_cons (pv 5) pa_nil))))))))
      (pss_cons (ps_for PassesOwn.never rfl (pi_list (pv 1)) (pg_name (i := 5) sc_law.nd rfl (.inl rfl))
        (pss_cons (ps_set (i := 7) sc_law.nd rfl (.inl rfl) (pe_callD D_whole_root hr (by decide) (by rfl) (pa_cons (pv 5) pa_nil)))
      (pss_cons (ps_if (PW.pt (pw_or (pt_not (pt_val (pe_callB call_isi (by rfl) T.b_isinstance (by decide +kernel) (pa_cons (pv 7) (pa_cons (pe_bltn (v := .ty "int") (by rfl) T.b_int (by decide +kernel) rfl) pa_nil))))) (pw_or (pt_val (pe_callB call_isi (by rfl) T.b_isinstance (by decide +kernel) (pa_cons (pv 7) (pa_cons (pe_bltn (v := .ty "bool") (by rfl) T.b_bool (by decide +kernel) rfl) pa_nil)))) (pw_or1 (pt_cmpR op_lt (pv 7) pe_int (nomark _))))))
        (pss_one (ps_ret pe_bl)) pss_nil)
      (pss_cons (ps_if (PW.pt (pw_or (pt_cmpR op_gt (pe_op op_mulX (pv 7) (pv 7)) (pv 5) (nomark _)) (pw_or1 (pt_cmpR op_le (pe_op op_mulX (pe_op op_add (pv 7) pe_int) (pe_op op_add (pv 7) pe_int)) (pv 5) (nomark _)))))
        (pss_one (ps_ret pe_bl)) pss_nil)
      (pss_cons (ps_set (i := 8) sc_law.nd rfl (.inl rfl) (pe_callD D_is_square hr (by decide) (by rfl) (pa_cons (pv 5) pa_nil)))
      (pss_one (ps_if (PW.pt (pw_or (pt_not (pt_val (pe_callB call_isi (by rfl) T.b_isinstance (by decide +kernel) (pa_cons (pv 8) (pa_cons (pe_bltn (v := .ty "bool") (by rfl) T.b_bool (by decide +kernel) rfl) pa_nil))))) (pw_or1 (pt_cmpR op_ne (pv 8) (pe_cmpR op_eq (pe_op op_mulX (pv 7) (pv 7)) (pv 5) (nomark _)) (nomark _)))))
        (pss_one (ps_ret pe_bl)) pss_nil)))))))
      (pss_one (ps_ret pe_bl))))), ?_⟩
    -- numbers = [0, 1]; for k, cell in enumerate(script[:63])
    refine ⟨by decide, fun o no => ?_⟩
    have s1 : Same H (upd H o (.lst [.int 0, .int 1])) := same_new no
    refine ⟨_, rfl, 63, rfl, a, _, rfl, (rd_seq (same_rd s1 hS)), fun c nc => ?_⟩
    have co : o ≠ c := fun e => by
      rw [← e, upd_same] at nc
      cases nc
    have ec : cutV (ns.map V.int) none (some 63) = ns.map V.int := by
      rw [show (63 : Int) = ((63 : Nat) : Int) from rfl, cut_to]
      exact List.take_of_length_le (by rw [List.length_map]; exact hlen)
    rw [ec]
    refine ⟨c, _, rfl, .inl (.inl upd_same), for_enum (xs := ns.map V.int) (fun i σ H' => ∃ (y2 y3 y4 y5 y6 : Option V) (vs : List V), σ = [some (.ref a), some (.ref o), y2, y3, y4, y5, y6, none, none] ∧ H' c = some (.lst (ns.map V.int)) ∧ H' o = some (.lst vs) ∧ vs.length = i + 2 ∧ ∀ v ∈ vs, Nm v)
      ⟨none, none, none, none, none, [.int 0, .int 1], rfl, upd_same, (upd_ne co).trans upd_same, rfl, fun v hv => ?_⟩ (fun i σ H' hG => ?_) (fun i x T' σ H' hx hG nT => ?_) (fun σ H' hG => ?_)⟩
    · rcases List.mem_cons.mp hv with e | hv
      · exact ⟨0, e, by decide, by decide +kernel⟩
      · exact ⟨1, List.mem_singleton.mp hv, by decide, by decide +kernel⟩
    · obtain ⟨_, _, _, _, _, _, _, h1, _⟩ := hG
      exact .inl (.inl h1)
    · obtain ⟨y2, y3, y4, y5, y6, vs, rfl, h1, h2, h3, h4⟩ := hG
      have hi := (List.getElem?_eq_some_iff.mp hx).1
      rw [List.length_map] at hi
      obtain ⟨n, _, rfl⟩ := ints_at hx
      refine ⟨T', _, rfl, .inl (.inl upd_same), rfl, _, _, rfl, _, [], rfl, rfl, ?_⟩
      have c1 := kp h1 nT (.tup [.int (i : Nat), .int n])
      have o1 := kp h2 nT (.tup [.int (i : Nat), .int n])
      -- more = mixed(cell, k)
      refine ⟨_, rfl, _, rfl, n, (i : Nat), rfl, by omega, by omega, ?_⟩
      have m0 := mixed_ge n (i : Nat)
      have m1 := mixed_lt n (i : Nat)
      generalize mixed n (i : Nat) = m at m0 m1
      have mb : m.natAbs < 2 ^ 40 := by omega
      have b1 : ((10 : Int) ^ (52 : Int).toNat + 7).natAbs < 2 ^ 200 := by decide +kernel
      have b2 := wide_lt mb b1
      have b3 : (m + 5).natAbs < 2 ^ 40 := by omega
      -- the number drawn
      refine ⟨_, rfl, _, _, rfl, rfl, (by show (0 : Int) < 5000; decide), _, rfl, _, rfl, _, _, rfl, rfl, ⟨by decide, by decide, by decide⟩, _, _, rfl, rfl, _, _, rfl, rfl, mx 40 200 mb b1, _, rfl, _, _, rfl, rfl, _, _, rfl, rfl, mx 240 40 b2 b3, _, _, rfl, rfl, ⟨by decide, by decide, by decide⟩, _, _, rfl, rfl, (by show (0 : Int) < 10 ^ Int.toNat 60; decide +kernel), ?_⟩
      refine ⟨(by show 3 ≤ sizeLine; decide), fun p np => ?_⟩
      have c2 := kp c1 np
      have o2 := kp o1 np
      refine ⟨_, rfl, _, _, rfl, rfl, (by show (0 : Int) < 3; decide), ?_⟩
      obtain ⟨v, hv, z, rfl, z0, z1⟩ := at_all (R := Nm) (i := m % 3) (xs := [.int (m % 5000), .int m, .int (m * (10 ^ (52 : Int).toNat + 7) * (m + 5) % 10 ^ (60 : Int).toNat)]) (by omega) (by show m % 3 < 3; omega) (fun x hx => by
        rcases List.mem_cons.mp hx with e | hx
        · exact ⟨_, e, by omega, by have : (5000 : Int) < 2 ^ 300 := (by decide +kernel); omega⟩
        · rcases List.mem_cons.mp hx with e | hx
          · exact ⟨_, e, by omega, by have : (2147483629 : Int) < 2 ^ 300 := (by decide +kernel); omega⟩
          · have d : (0 : Int) < 10 ^ (60 : Int).toNat := by decide +kernel
            exact ⟨_, List.mem_singleton.mp hx, Int.emod_nonneg _ (by omega), Int.lt_trans (Int.emod_lt_of_pos _ d) (by decide +kernel)⟩)
      refine ⟨p, _, _, _, rfl, rfl, .inl (.inl upd_same), hv, ?_⟩
      -- what is appended
      have fin : ∀ (y6 : Option V) (z : Int) (H3 : Hp), 0 ≤ z → z < 2 ^ 300 → H3 c = some (.lst (ns.map V.int)) → H3 o = some (.lst vs) → ∃ (y2 y3 y4 y5 y6' : Option V) (vs' : List V), [some (.ref a), some (.ref o), some (.int (i : Nat)), some (.int n), some (.int m), some (.int z), y6, none, none] = [some (.ref a), some (.ref o), y2, y3, y4, y5, y6', none, none] ∧ upd H3 o (.lst (vs ++ [.int z])) c = some (.lst (ns.map V.int)) ∧ upd H3 o (.lst (vs ++ [.int z])) o = some (.lst vs') ∧ vs'.length = i + 1 + 2 ∧ ∀ v ∈ vs', Nm v := fun y6 z H3 z0 z1 h1 h2 =>
        ⟨_, _, _, _, _, vs ++ [.int z], rfl, (upd_ne co.symm).trans h1, upd_same, by rw [List.length_append, h3]; rfl, fun v hv => by
          rcases List.mem_append.mp hv with hv | hv
          · exact h4 v hv
          · exact ⟨z, List.mem_singleton.mp hv, z0, z1⟩⟩
      refine ⟨_, rfl, _, _, rfl, rfl, dv (by decide) (by decide), _, _, rfl, rfl, (by show (0 : Int) < 2; decide), rfl, _, rfl, if2 (fun _ => ?_) (fun _ => ?_)⟩
      · have b4 : ((10 : Int) ^ (20 : Int).toNat + 9).natAbs < 2 ^ 100 := by decide +kernel
        refine ⟨_, rfl, _, _, rfl, rfl, dv (by decide) (by decide), _, _, rfl, rfl, (by show (0 : Int) < 1000; decide), _, rfl, _, _, rfl, rfl, ⟨by decide, by decide, by decide⟩, _, _, rfl, rfl, _, _, rfl, rfl, mx 40 100 mb b4, _, _, rfl, rfl, ⟨by decide, by decide, by decide⟩, _, _, rfl, rfl, (by show (0 : Int) < 10 ^ Int.toNat 30; decide +kernel), ?_⟩
        refine ⟨(by show 2 ≤ sizeLine; decide), fun p' np' => ?_⟩
        have c3 := kp (c2 _) np'
        have o3 := kp (o2 _) np'
        refine ⟨_, rfl, _, _, rfl, rfl, dv (by decide) (by decide), _, _, rfl, rfl, (by show (0 : Int) < 2; decide), ?_⟩
        obtain ⟨v', hv', z', rfl, z0', z1'⟩ := at_all (R := fun v => ∃ z : Int, v = .int z ∧ 0 ≤ z ∧ z < 2 ^ 100) (i := m / 12 % 2) (xs := [.int (m / 6 % 1000), .int (m * (10 ^ (20 : Int).toNat + 9) % 10 ^ (30 : Int).toNat)]) (by omega) (by show m / 12 % 2 < 2; omega) (fun x hx => by
          rcases List.mem_cons.mp hx with e | hx
          · exact ⟨_, e, by omega, by have : (1000 : Int) < 2 ^ 100 := (by decide +kernel); omega⟩
          · have d : (0 : Int) < 10 ^ (30 : Int).toNat := by decide +kernel
            exact ⟨_, List.mem_singleton.mp hx, Int.emod_nonneg _ (by omega), Int.lt_trans (Int.emod_lt_of_pos _ d) (by decide +kernel)⟩)
        refine ⟨p', _, _, _, rfl, rfl, .inl (.inl upd_same), hv', ?_⟩
        have bz : z'.natAbs < 2 ^ 100 := by omega
        have bzz := wide_lt bz bz
        have zz0 := Int.mul_nonneg z0' z0'
        refine ⟨_, rfl, _, rfl, _, _, rfl, rfl, mx 100 100 bz bz, _, rfl, _, _, rfl, rfl, dv (by decide) (by decide), _, _, rfl, rfl, (by show (0 : Int) < 5; decide), _, _, rfl, rfl, _, _, rfl, rfl, _, _, rfl, ?_⟩
        refine ⟨.ref o, rfl, .inl ⟨rfl, _, .inl (.inl (o3 _))⟩, _, rfl, o, _, _, rfl, rfl, o3 _, sz (by omega), ?_⟩
        refine fin _ _ _ ?_ ?_ (c3 _) (o3 _)
        · split <;> omega
        · have e1 : (2 : Nat) ^ (100 + 100) + 10 ≤ 2 ^ 300 := by decide +kernel
          have e2 : ((2 ^ 300 : Nat) : Int) = (2 : Int) ^ 300 := by decide +kernel
          generalize (2 : Int) ^ 300 = B at *
          generalize (2 : Nat) ^ 300 = B' at *
          generalize (2 : Nat) ^ (100 + 100) = C at *
          split <;> omega
      · refine ⟨.ref o, rfl, .inl ⟨rfl, _, .inl (.inl (o2 _))⟩, _, rfl, o, _, _, rfl, rfl, o2 _, sz (by omega), ?_⟩
        exact fin _ _ _ z0 z1 (c2 _) (o2 _)
    · obtain ⟨y2, y3, y4, y5, y6, vs, rfl, h1, h2, h3, h4⟩ := hG
      -- for number in numbers
      refine ⟨_, rfl, o, rfl, ⟨_, .inl (.inl h2)⟩, for_list (K := K) (a := o) (xs := vs) (fun i σ H3 => H3 = H' ∧ ∃ y5 y7 y8 : Option V, σ = [some (.ref a), some (.ref o), y2, y3, y4, y5, y6, y7, y8]) ⟨rfl, _, _, _, rfl⟩ (fun i σ H3 _ hG => ?_) (fun i x σ H3 hx hG => ?_) (fun σ H3 hG => ?_)⟩
      · rw [hG.1]
        exact .inl (.inl h2)
      · obtain ⟨rfl, y5, y7, y8, rfl⟩ := hG
        obtain ⟨z, rfl, z0, z1⟩ := h4 x (List.mem_of_getElem? hx)
        have zb : z < 2 ^ 1000 := Int.lt_trans z1 (by decide +kernel)
        obtain ⟨r0, r1, r2⟩ := rt_spec z0
        have rb := rt_big z0 zb
        have rb1 : (rt z + 1).natAbs < 2 ^ 1004 := by
          have e1 : (2 : Nat) ^ 1004 = 2 * 2 ^ 1003 := by decide +kernel
          have e2 : (1 : Nat) ≤ 2 ^ 1003 := by decide +kernel
          generalize (2 : Nat) ^ 1003 = B at *
          generalize (2 : Nat) ^ 1004 = C at *
          omega
        refine ⟨_, rfl, z, rfl, z0, zb, ?_⟩
        refine ⟨_, rfl, _, _, _, _, _, rfl, .ty _, ty_int, kit_ii, _, rfl, ifF rfl ?_⟩
        refine ⟨_, rfl, _, _, _, _, _, rfl, .ty _, ty_int, kit_ib, _, rfl, ifF rfl ?_⟩
        refine ⟨_, rfl, _, _, rfl, rfl, _, rfl, ifF (decide_eq_false (by omega)) ?_⟩
        refine ⟨_, rfl, _, rfl, _, _, rfl, rfl, mx 1003 1003 rb rb, _, rfl, _, _, rfl, rfl, _, rfl, ifF (decide_eq_false (by omega)) ?_⟩
        refine ⟨_, rfl, _, _, rfl, rfl, _, rfl, _, _, rfl, rfl, _, _, rfl, rfl, mx 1004 1004 rb1 rb1, _, rfl, _, _, rfl, rfl, _, rfl, ifF (decide_eq_false (by omega)) ?_⟩
        refine ⟨_, rfl, z, rfl, z0, zb, ?_⟩
        refine ⟨_, rfl, _, _, _, _, _, rfl, .ty _, ty_bl, kit_bb, _, rfl, ifF rfl ?_⟩
        refine ⟨_, rfl, _, rfl, _, rfl, _, _, rfl, rfl, mx 1003 1003 rb rb, _, rfl, rfl, rfl, _, rfl, ifF ?_ ?_⟩
        · rw [dec_int, decide_eq_true rfl]
          rfl
        · exact ⟨rfl, _, _, _, rfl⟩
      · exact q H3
end
end RL
namespace RL
open PySem PySem.Spec PyProof.Rows L2
/-! the head, the end -/
def ds_is_number : He.DefD := ⟨("is_number", none), "is_number", "is_number", defArgs s_is_number, defBody s_is_number, defScope s_is_number, [], []⟩
def ds_need_number : He.DefD := ⟨("need_number", none), "need_number", "need_number", defArgs s_need_number, defBody s_need_number, defScope s_need_number, [.non], []⟩
def ds_rooted : He.DefD := ⟨("rooted", none), "rooted", "rooted", defArgs s_rooted, defBody s_rooted, defScope s_rooted, [], []⟩
def ds_whole_root : He.DefD := ⟨("whole_root", none), "whole_root", "whole_root", defArgs s_whole_root, defBody s_whole_root, defScope s_whole_root, [], []⟩
def ds_is_square : He.DefD := ⟨("is_square", none), "is_square", "is_square", defArgs s_is_square, defBody s_is_square, defScope s_is_square, [], []⟩
def ds_l_mixed : He.DefD := ⟨("_law_mixed", none), "_law_mixed", "_law_mixed", defArgs s_l_mixed, defBody s_l_mixed, defScope s_l_mixed, [], []⟩
def ds_law : He.DefD := ⟨("law", none), "law", "law", defArgs s_law, defBody s_law, defScope s_law, [], []⟩
def fnT : List He.DefD := [ds_is_number, ds_need_number, ds_rooted, ds_whole_root, ds_is_square, ds_l_mixed, ds_law]
def faT : List He.Fa := [.glo "is_number", .glo "need_number", .glo "rooted", .glo "whole_root", .glo "is_square", .glo "_law_mixed", .glo "law", .free "isinstance", .free "int", .free "bool", .free "max", .free "enumerate"]
abbrev RT : PySem.W.OpenRow := PySem.W.OpenLaw.row PySem.Challenge.rw_rootladder_k02_whole_roots
abbrev hkT : PySem.W.Hook := hookN 4 faT fnT
def obT (s : PySem.W.SharedT) : He.AlD := obN 4 faT fnT (HandSHeadRun.getT s)
theorem obT_eq (s : PySem.W.SharedT) : obT s = hkT.obs s.abs := obN_eq (HandSHeadRun.getT_eq s)
def looseT : List Str := ["RootError", "NoNumber", "is_number", "need_number", "rooted", "whole_root", "is_square", "_law_mixed", "_law_number"]
set_option maxHeartbeats 0 in
theorem runT (w : World) : HandSHeadRun.RunEq RT (PySem.W.view RT.prog [12]) hkT obT 3000 looseT w := by
  intro os
  kernel_rfl
theorem factsT {P : Program} {w : World} {K : PySem.W.Frag} {h : Heap} {mg : Str → Option Value} {f : Addr} (X : K.In h) (G : h.Ns mainGlobals mg) (hfa : mg ("law" : Str) = some (.ref f)) (c : He.SaysD faT fnT K) :
    ∃ fd : FuncData, (∀ (s : Shared) (v : Value), BindsTo s fd ⟨[v], []⟩ [("_law_script", v)]) ∧ ∀ base : Heap, K.In base → base.Ns mainGlobals mg → FnOk P w K mg base CX0 4 f fd ["_law_script"] spLaw := by
  obtain ⟨fd0, F0⟩ := c.def_ 0 (d := ds_is_number) rfl
  obtain ⟨fd1, F1⟩ := c.def_ 1 (d := ds_need_number) rfl
  obtain ⟨fd2, F2⟩ := c.def_ 2 (d := ds_rooted) rfl
  obtain ⟨fd3, F3⟩ := c.def_ 3 (d := ds_whole_root) rfl
  obtain ⟨fd4, F4⟩ := c.def_ 4 (d := ds_is_square) rfl
  obtain ⟨fd5, F5⟩ := c.def_ 5 (d := ds_l_mixed) rfl
  obtain ⟨fd6, F6⟩ := c.def_ 6 (d := ds_law) rfl
  have T : Tb mg := ⟨He.free_ok X G (c.fact 7 (f := .free "isinstance") rfl), He.free_ok X G (c.fact 8 (f := .free "int") rfl), He.free_ok X G (c.fact 9 (f := .free "bool") rfl), He.free_ok X G (c.fact 10 (f := .free "max") rfl), He.free_ok X G (c.fact 11 (f := .free "enumerate") rfl)⟩
  have e := hfa.symm.trans (He.glo_ok X G (c.fact 6 (f := .glo "law") rfl))
  cases e
  have b := FunD.bindsA (ps := ["_law_script"]) F6 fun _ _ _ _ _ _ us hl => match us, hl with | [_], _ => rfl
  have b0 := FunD.bindsN (ps := ["thing"]) F0 fun _ _ _ _ _ _ us hl => match us, hl with | [_], _ => rfl
  obtain ⟨ds1, v1, b1⟩ := FunD.binds1 (ps := ["thing", "least", "most"]) F1 3 1 (List.cons_ne_nil _ _) rfl fun _ _ _ _ _ _ _ us its hl hi => match us, hl, its, hi with | [_, _, _], _, [_], _ => ⟨_, rfl, rfl⟩
  obtain ⟨es1, w1, c1⟩ := FunD.binds1 (ps := ["thing", "least", "most"]) F1 2 0 (List.cons_ne_nil _ _) rfl fun _ _ _ _ _ _ _ us its hl hi => match us, hl, its, hi with | [_, _], _, [_], _ => ⟨_, rfl, rfl⟩
  have b2 := FunD.bindsN (ps := ["number"]) F2 fun _ _ _ _ _ _ us hl => match us, hl with | [_], _ => rfl
  have b3 := FunD.bindsN (ps := ["number"]) F3 fun _ _ _ _ _ _ us hl => match us, hl with | [_], _ => rfl
  have b4 := FunD.bindsN (ps := ["number"]) F4 fun _ _ _ _ _ _ us hl => match us, hl with | [_], _ => rfl
  have b5 := FunD.bindsN (ps := ["_law_number_here", "_law_k"]) F5 fun _ _ _ _ _ _ us hl => match us, hl with | [_, _], _ => rfl
  refine ⟨fd6, fun s v => b s [v] rfl, fun base _ _ => ?_⟩
  have G0 : FnOk P w K mg base CX0 1 (He.fAd K ds_is_number.at_) fd0 ["thing"] spIsNum := ok_is_number (toFun F0) T
  have D_is_number : Dn P w K mg base "is_number" 1 ["thing"] [] spIsNum := ⟨_, _, [], G0, He.glo_ok X G (c.fact 0 (f := .glo "is_number") rfl), F0.kp, b0, .nil⟩
  have G1 : FnOk P w K mg base CX0 2 (He.fAd K ds_need_number.at_) fd1 ["thing", "least", "most"] spNeed := ok_need_number F1 T D_is_number
  have D_need_number : Dn P w K mg base "need_number" 2 ["thing", "least", "most"] [] spNeed := ⟨_, _, ds1, G1, He.glo_ok X G (c.fact 1 (f := .glo "need_number") rfl), F1.kp, b1, v1⟩
  have D_need_number_d : Dn P w K mg base "need_number" 2 ["thing", "least", "most"] [.non] spNeed := ⟨_, _, es1, G1, He.glo_ok X G (c.fact 1 (f := .glo "need_number") rfl), F1.kp, c1, w1⟩
  have G2 : FnOk P w K mg base CX0 1 (He.fAd K ds_rooted.at_) fd2 ["number"] spRooted := ok_rooted (toFun F2) 
  have D_rooted : Dn P w K mg base "rooted" 1 ["number"] [] spRooted := ⟨_, _, [], G2, He.glo_ok X G (c.fact 2 (f := .glo "rooted") rfl), F2.kp, b2, .nil⟩
  have G3 : FnOk P w K mg base CX0 3 (He.fAd K ds_whole_root.at_) fd3 ["number"] spWhole := ok_whole_root (toFun F3) D_need_number_d D_rooted
  have D_whole_root : Dn P w K mg base "whole_root" 3 ["number"] [] spWhole := ⟨_, _, [], G3, He.glo_ok X G (c.fact 3 (f := .glo "whole_root") rfl), F3.kp, b3, .nil⟩
  have G4 : FnOk P w K mg base CX0 3 (He.fAd K ds_is_square.at_) fd4 ["number"] spIsSq := ok_is_square (toFun F4) D_need_number_d D_rooted
  have D_is_square : Dn P w K mg base "is_square" 3 ["number"] [] spIsSq := ⟨_, _, [], G4, He.glo_ok X G (c.fact 4 (f := .glo "is_square") rfl), F4.kp, b4, .nil⟩
  have G5 : FnOk P w K mg base CX0 1 (He.fAd K ds_l_mixed.at_) fd5 ["_law_number_here", "_law_k"] spMixed := ok_mixed (toFun F5) 
  have D_law_mixed : Dn P w K mg base "_law_mixed" 1 ["_law_number_here", "_law_k"] [] spMixed := ⟨_, _, [], G5, He.glo_ok X G (c.fact 5 (f := .glo "_law_mixed") rfl), F5.kp, b5, .nil⟩
  exact ok_law (toFun F6) T D_law_mixed D_whole_root D_is_square
end RL
open PySem PySem.W PySem.Calls PyProof.Rows
set_option maxHeartbeats 0 in
theorem PySem.Challenge.cw_rootladder_k02_whole_roots_holds : PySem.Challenge.rw_rootladder_k02_whole_roots.Holds := by
  w_on; o_law
  refine HandSHeadRun.head_any (r := RL.RT) (q := view RL.RT.prog [12]) (H := RL.hkT) (ob := RL.obT) (M := 3000) (loose := RL.looseT) (d := HandSHeadRun.topDef RL.RT.prog 12) (kwd := []) RL.obT_eq
    (by kernel_rfl) (fun s => by kernel_rfl) RL.runT (by kernel_rfl) (by kernel_rfl) (by kernel_rfl) (by rfl) (by first | assumption | decide +kernel) (by decide +kernel) ⟨rfl, rfl, rfl, rfl, rfl, by decide +kernel⟩ ?hw ?hc
  case hw => w_witness2
  case hc =>
    refine L2.walk_ofE (l := PySem.Challenge.rw_rootladder_k02_whole_roots) (n := 63) (k := 4) (x := "_law_script") (CX := L2.CX0) rfl (by decide) (by kernel_rfl) ⟨rfl, by decide, by decide⟩ ?F (fun _ _ _ _ z => z)
    intro w mg fa h Y G hmg0
    obtain ⟨K, KX, hN, c⟩ := Y
    have hmg : mg ("law" : PySem.Str) = some (.ref fa) := by
      have e : (HandSHeadRun.topDef RL.RT.prog 12).name = ("law" : PySem.Str) := by kernel_rfl
      rw [← e]
      exact hmg0
    obtain ⟨fd, hb, hF⟩ := RL.factsT (P := (PySem.Challenge.rw_rootladder_k02_whole_roots).prog) (w := w) KX G hmg c
    exact ⟨K, fd, RL.spLaw, KX, hb, fun H a ns hl _ hS => ⟨a, ns, rfl, RL.rd_of hN hS, hl, fun _ => rfl⟩, hF⟩
#print axioms PySem.Challenge.cw_rootladder_k02_whole_roots_holds
