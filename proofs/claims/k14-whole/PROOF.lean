import PyProof.Rows.All
import Wide.All
import OpenK.AllK
import Wide.FinOn
import HandS.Base
import HandS.Call
import HandS.List
import HandS.Comp
import HandS.Ends
import HandS.Iter
import HandS.Words
import HandS.WordsList
import HandS.Wide
import HandS.Defaults
import HandS.MakeKwOnly
import HandS.IsInst
import PyProof.StrOps2
import HandS.Codes
import HandS.Text
import PySem.Challenge.RW_cornertrade_k14_whole_wholes_reckoned
set_option Elab.async false
set_option linter.all false
set_option exponentiation.threshold 9000
set_option maxRecDepth 100000
set_option maxHeartbeats 4000000
namespace K14
abbrev Pt := Int × Int
abbrev Ar := Pt × Pt
def low (a b : Int) : Pt := (a / (Int.gcd a b : Int), b / (Int.gcd a b : Int))
def plus (x y : Pt) : Pt := low (x.1 * y.2 + y.1 * x.2) (x.2 * y.2)
def less (x y : Pt) : Pt := low (x.1 * y.2 - y.1 * x.2) (x.2 * y.2)
def times (x y : Pt) : Pt := low (x.1 * y.1) (x.2 * y.2)
def zer : Ar := ((0, 1), (0, 1))
def lone : Ar := ((1, 1), (0, 1))
def made (z w : Ar) : Ar := (less (times z.1 w.1) (times z.2 w.2), plus (times z.1 w.2) (times z.2 w.1))
def summed (z w : Ar) : Ar := (plus z.1 w.1, plus z.2 w.2)
def off (z w : Ar) : Ar := (less z.1 w.1, less z.2 w.2)
def mate (z : Ar) : Ar := (z.1, (0 - z.2.1, z.2.2))
def entry (row : List Ar) (at_ : Int) : Ar := if 0 ≤ at_ ∧ at_ < row.length then row.getD at_.toNat zer else zer
def lowAt (p q : List Ar) (z : Ar) (k : Nat) : Ar := off (entry p ((k : Int) - 1)) (made (entry q (k : Int)) (mate z))
def highAt (p q : List Ar) (z : Ar) (k : Nat) : Ar := summed (made (entry p (k : Int)) z) (entry q ((k : Int) - 1))
def lowL (p q : List Ar) (z : Ar) : List Ar := (List.range (p.length + 1)).map (lowAt p q z)
def highL (p q : List Ar) (z : Ar) : List Ar := (List.range (q.length + 1)).map (highAt p q z)
def grown (w : List Ar × List Ar) (z : Ar) : List Ar × List Ar := (lowL w.1 w.2 z, highL w.1 w.2 z)
def whole (zs : List Ar) : List Ar × List Ar := zs.foldl grown ([lone], [])

/-! lengths -/
theorem lowL_len (p q z) : (lowL p q z).length = p.length + 1 := by simp [lowL]
theorem highL_len (p q z) : (highL p q z).length = q.length + 1 := by simp [highL]
theorem fold_len : ∀ (zs : List Ar) (w : List Ar × List Ar), (zs.foldl grown w).1.length = w.1.length + zs.length ∧ (zs.foldl grown w).2.length = w.2.length + zs.length
  | [], w => ⟨rfl, rfl⟩
  | z :: r, w => by
    have h := fold_len r (grown w z)
    have e1 : (grown w z).1.length = w.1.length + 1 := lowL_len _ _ _
    have e2 : (grown w z).2.length = w.2.length + 1 := highL_len _ _ _
    rw [e1, e2] at h
    rw [List.foldl_cons, List.length_cons]
    omega
theorem whole_len1 (zs : List Ar) : (whole zs).1.length = zs.length + 1 := by
  have h := (fold_len zs ([lone], [])).1
  have e : ([lone] : List Ar).length = 1 := rfl
  unfold whole
  rw [h, e]; omega
theorem whole_len2 (zs : List Ar) : (whole zs).2.length = zs.length := by
  have h := (fold_len zs ([lone], [])).2
  have e : ([] : List Ar).length = 0 := rfl
  unfold whole
  rw [h, e]; omega
theorem whole_snoc (zs : List Ar) (z : Ar) : whole (zs ++ [z]) = grown (whole zs) z := by
  unfold whole
  rw [List.foldl_append]
  rfl

/-! lowest terms -/
theorem low_spec {a b : Int} (hb : 0 < b) : 0 < (low a b).2 ∧ Int.gcd (low a b).1 (low a b).2 = 1 ∧ (low a b).1 * b = a * (low a b).2 := by
  have hg : 0 < Int.gcd a b := Int.gcd_pos_of_ne_zero_right a (by omega)
  have hgi : (0 : Int) < (Int.gcd a b : Int) := by omega
  obtain ⟨c, hc⟩ := Int.gcd_dvd_left a b
  obtain ⟨d, hd⟩ := Int.gcd_dvd_right a b
  have e1 : (low a b).1 = c := by
    show a / (Int.gcd a b : Int) = c
    generalize Int.gcd a b = g at *
    rw [hc]
    exact Int.mul_ediv_cancel_left _ (by omega)
  have e2 : (low a b).2 = d := by
    show b / (Int.gcd a b : Int) = d
    generalize Int.gcd a b = g at *
    rw [hd]
    exact Int.mul_ediv_cancel_left _ (by omega)
  refine ⟨?_, ?_, ?_⟩
  · rw [e2]
    rw [hd] at hb
    exact Int.pos_of_mul_pos_right hb hgi
  · exact Int.gcd_ediv_gcd_ediv_gcd hg
  · rw [e1, e2]
    generalize Int.gcd a b = g at *
    rw [hd]
    conv => rhs; rw [hc]
    rw [← Int.mul_assoc, Int.mul_comm c]
theorem ne_abs_mul {a b : Int} : (a * b).natAbs = a.natAbs * b.natAbs := Int.natAbs_mul a b

structure Bd (M B : Nat) (p : Pt) : Prop where
  pos : 0 < p.2
  cop : Int.gcd p.1 p.2 = 1
  dvd : p.2 ∣ (M : Int)
  le : p.1.natAbs ≤ B * p.2.natAbs
def BdA (M B : Nat) (z : Ar) : Prop := Bd M B z.1 ∧ Bd M B z.2

theorem low_bd {M B : Nat} {a b : Int} (hb : 0 < b) (hl : a.natAbs ≤ B * b.natAbs) (hk : ∃ k : Int, a * M = k * b) : Bd M B (low a b) := by
  obtain ⟨h1, h2, h3⟩ := low_spec (a := a) hb
  generalize low a b = p at *
  refine ⟨h1, h2, ?_, ?_⟩
  · obtain ⟨k, hk⟩ := hk
    have e : p.1 * M = k * p.2 := by
      apply Int.eq_of_mul_eq_mul_right (a := b) (by omega)
      calc p.1 * M * b = (p.1 * b) * M := by rw [Int.mul_assoc, Int.mul_comm (M : Int) b, ← Int.mul_assoc]
        _ = a * p.2 * M := by rw [h3]
        _ = (a * M) * p.2 := by rw [Int.mul_assoc, Int.mul_comm p.2, ← Int.mul_assoc]
        _ = k * b * p.2 := by rw [hk]
        _ = k * p.2 * b := by rw [Int.mul_assoc, Int.mul_comm b, ← Int.mul_assoc]
    have hd : p.2 ∣ p.1 * M := ⟨k, by rw [e, Int.mul_comm]⟩
    have h := Int.dvd_gcd_mul_iff_dvd_mul.mpr hd
    rw [Int.gcd_comm, h2] at h
    simpa using h
  · have e : p.1.natAbs * b.natAbs = a.natAbs * p.2.natAbs := by rw [← Int.natAbs_mul, ← Int.natAbs_mul, h3]
    have h4 : a.natAbs * p.2.natAbs ≤ B * b.natAbs * p.2.natAbs := Nat.mul_le_mul_right _ hl
    have h5 : p.1.natAbs * b.natAbs ≤ B * p.2.natAbs * b.natAbs := by
      rw [e]
      refine Nat.le_trans h4 (Nat.le_of_eq ?_)
      rw [Nat.mul_assoc, Nat.mul_comm b.natAbs, ← Nat.mul_assoc]
    exact Nat.le_of_mul_le_mul_right h5 (by omega)
theorem Bd.mono {M B M' B' : Nat} {p : Pt} (h : Bd M B p) (hM : M ∣ M') (hB : B ≤ B') : Bd M' B' p :=
  ⟨h.pos, h.cop, Int.dvd_trans h.dvd (Int.natCast_dvd_natCast.mpr hM), Nat.le_trans h.le (Nat.mul_le_mul_right _ hB)⟩
theorem BdA.mono {M B M' B' : Nat} {p : Ar} (h : BdA M B p) (hM : M ∣ M') (hB : B ≤ B') : BdA M' B' p := ⟨h.1.mono hM hB, h.2.mono hM hB⟩
theorem times_bd {M₁ B₁ M₂ B₂ : Nat} {x y : Pt} (hx : Bd M₁ B₁ x) (hy : Bd M₂ B₂ y) : Bd (M₁ * M₂) (B₁ * B₂) (times x y) := by
  refine low_bd (Int.mul_pos hx.pos hy.pos) ?_ ?_
  · rw [ne_abs_mul, ne_abs_mul]
    refine Nat.le_trans (Nat.mul_le_mul hx.le hy.le) (Nat.le_of_eq ?_)
    rw [Nat.mul_assoc, Nat.mul_assoc]
    congr 1
    rw [← Nat.mul_assoc, ← Nat.mul_assoc, Nat.mul_comm x.2.natAbs]
  · obtain ⟨c, hc⟩ := hx.dvd
    obtain ⟨d, hd⟩ := hy.dvd
    refine ⟨x.1 * y.1 * (c * d), ?_⟩
    rw [Int.natCast_mul, hc, hd]
    simp only [Int.mul_assoc, Int.mul_comm, Int.mul_left_comm]
theorem plus_bd {M B₁ B₂ : Nat} {x y : Pt} (hx : Bd M B₁ x) (hy : Bd M B₂ y) : Bd M (B₁ + B₂) (plus x y) := by
  refine low_bd (Int.mul_pos hx.pos hy.pos) ?_ ?_
  · refine Nat.le_trans (Int.natAbs_add_le _ _) ?_
    rw [ne_abs_mul, ne_abs_mul, ne_abs_mul, Nat.add_mul]
    refine Nat.add_le_add ?_ ?_
    · rw [← Nat.mul_assoc]
      exact Nat.mul_le_mul_right _ hx.le
    · rw [Nat.mul_comm x.2.natAbs, ← Nat.mul_assoc]
      exact Nat.mul_le_mul_right _ hy.le
  · obtain ⟨c, hc⟩ := hx.dvd
    obtain ⟨d, hd⟩ := hy.dvd
    refine ⟨x.1 * c + y.1 * d, ?_⟩
    rw [Int.add_mul, Int.add_mul]
    congr 1
    · rw [hc]
      simp only [Int.mul_assoc, Int.mul_comm, Int.mul_left_comm]
    · rw [hd]
      simp only [Int.mul_assoc, Int.mul_comm, Int.mul_left_comm]
theorem less_bd {M B₁ B₂ : Nat} {x y : Pt} (hx : Bd M B₁ x) (hy : Bd M B₂ y) : Bd M (B₁ + B₂) (less x y) := by
  refine low_bd (Int.mul_pos hx.pos hy.pos) ?_ ?_
  · refine Nat.le_trans (Int.natAbs_sub_le _ _) ?_
    rw [ne_abs_mul, ne_abs_mul, ne_abs_mul, Nat.add_mul]
    refine Nat.add_le_add ?_ ?_
    · rw [← Nat.mul_assoc]
      exact Nat.mul_le_mul_right _ hx.le
    · rw [Nat.mul_comm x.2.natAbs, ← Nat.mul_assoc]
      exact Nat.mul_le_mul_right _ hy.le
  · obtain ⟨c, hc⟩ := hx.dvd
    obtain ⟨d, hd⟩ := hy.dvd
    refine ⟨x.1 * c - y.1 * d, ?_⟩
    rw [Int.sub_mul, Int.sub_mul]
    congr 1
    · rw [hc]
      simp only [Int.mul_assoc, Int.mul_comm, Int.mul_left_comm]
    · rw [hd]
      simp only [Int.mul_assoc, Int.mul_comm, Int.mul_left_comm]
theorem made_bd {M₁ B₁ M₂ B₂ : Nat} {x y : Ar} (hx : BdA M₁ B₁ x) (hy : BdA M₂ B₂ y) : BdA (M₁ * M₂) (B₁ * B₂ + B₁ * B₂) (made x y) :=
  ⟨less_bd (times_bd hx.1 hy.1) (times_bd hx.2 hy.2), plus_bd (times_bd hx.1 hy.2) (times_bd hx.2 hy.1)⟩
theorem mate_bd {M B : Nat} {x : Ar} (hx : BdA M B x) : BdA M B (mate x) := by
  refine ⟨hx.1, hx.2.pos, ?_, hx.2.dvd, ?_⟩
  · show Int.gcd (0 - x.2.1) x.2.2 = 1
    rw [Int.zero_sub, Int.neg_gcd]
    exact hx.2.cop
  · show (0 - x.2.1).natAbs ≤ B * x.2.2.natAbs
    rw [Int.zero_sub, Int.natAbs_neg]
    exact hx.2.le
theorem less_zero {p : Pt} (h : 0 < p.2) (c : Int.gcd p.1 p.2 = 1) : less (0, 1) p = (0 - p.1, p.2) := by
  unfold less low
  have e1 : (0 : Int) * p.2 - p.1 * 1 = 0 - p.1 := by omega
  have e2 : (1 : Int) * p.2 = p.2 := by omega
  have e3 : Int.gcd (0 - p.1) p.2 = 1 := by
    rw [Int.zero_sub, Int.neg_gcd]
    exact c
  show (((0 : Int) * p.2 - p.1 * 1) / (Int.gcd ((0 : Int) * p.2 - p.1 * 1) (1 * p.2) : Int), ((1 : Int) * p.2) / (Int.gcd ((0 : Int) * p.2 - p.1 * 1) (1 * p.2) : Int)) = _
  rw [e1, e2, e3]
  simp
theorem zero_bd {M B : Nat} : Bd M B (0, 1) := ⟨by decide, by decide, ⟨M, by simp⟩, by simp⟩
theorem zer_bd {M B : Nat} : BdA M B zer := ⟨zero_bd, zero_bd⟩
theorem lone_bd {M B : Nat} (h : 1 ≤ B) : BdA M B lone := ⟨⟨by decide, by decide, ⟨M, by simp [lone]⟩, by simpa [lone] using h⟩, zero_bd⟩
/-- a whole whose entries are bounded -/
def BdL (M B : Nat) (p : List Ar) : Prop := ∀ z ∈ p, BdA M B z
theorem entry_bd {M B : Nat} {p : List Ar} (h : BdL M B p) (i : Int) : BdA M B (entry p i) := by
  unfold entry
  split
  · rename_i c
    have hl : i.toNat < p.length := by omega
    rw [List.getD_eq_getElem?_getD, List.getElem?_eq_getElem hl]
    exact h _ (List.getElem_mem hl)
  · exact zer_bd
theorem lowAt_bd {M B D Z : Nat} {p q : List Ar} {z : Ar} (hp : BdL M B p) (hq : BdL M B q) (hz : BdA D Z z) (k : Nat) : BdA (M * D) (B + (B * Z + B * Z)) (lowAt p q z k) := by
  have h1 := (entry_bd hp ((k : Int) - 1)).mono (Nat.dvd_mul_right M D) (Nat.le_refl B)
  have h2 := made_bd (entry_bd hq (k : Int)) (mate_bd hz)
  exact ⟨less_bd h1.1 h2.1, less_bd h1.2 h2.2⟩
theorem highAt_bd {M B D Z : Nat} {p q : List Ar} {z : Ar} (hp : BdL M B p) (hq : BdL M B q) (hz : BdA D Z z) (k : Nat) : BdA (M * D) (B + (B * Z + B * Z)) (highAt p q z k) := by
  have h1 := (entry_bd hq ((k : Int) - 1)).mono (Nat.dvd_mul_right M D) (Nat.le_refl B)
  have h2 := made_bd (entry_bd hp (k : Int)) hz
  rw [Nat.add_comm B]
  exact ⟨plus_bd h2.1 h1.1, plus_bd h2.2 h1.2⟩
theorem grown_bd {M B D Z : Nat} {w : List Ar × List Ar} {z : Ar} (hp : BdL M B w.1) (hq : BdL M B w.2) (hz : BdA D Z z) : BdL (M * D) (B + (B * Z + B * Z)) (grown w z).1 ∧ BdL (M * D) (B + (B * Z + B * Z)) (grown w z).2 := by
  refine ⟨fun x hx => ?_, fun x hx => ?_⟩
  · obtain ⟨k, _, rfl⟩ := List.mem_map.mp hx
    exact lowAt_bd hp hq hz k
  · obtain ⟨k, _, rfl⟩ := List.mem_map.mp hx
    exact highAt_bd hp hq hz k

/-- a rod's arrow, as drawn -/
def PtOk (p : Pt) : Prop := 0 < p.2 ∧ Int.gcd p.1 p.2 = 1 ∧ p.1.natAbs < 2 ^ 40 ∧ p.2.natAbs < 2 ^ 40
def ArOk (z : Ar) : Prop := PtOk z.1 ∧ PtOk z.2
theorem ArOk.bd {z : Ar} (h : ArOk z) : ∃ D : Nat, 0 < D ∧ D ≤ 2 ^ 80 ∧ BdA D (2 ^ 40) z := by
  obtain ⟨⟨a1, a2, a3, a4⟩, b1, b2, b3, b4⟩ := h
  refine ⟨z.1.2.natAbs * z.2.2.natAbs, Nat.mul_pos (by omega) (by omega), ?_, ⟨a1, a2, ?_, ?_⟩, b1, b2, ?_, ?_⟩
  · have := Nat.mul_le_mul (Nat.le_of_lt a4) (Nat.le_of_lt b4)
    exact Nat.le_trans this (by decide)
  · exact Int.dvd_trans (Int.dvd_natAbs.mpr (Int.dvd_refl _)) (Int.natCast_dvd_natCast.mpr (Nat.dvd_mul_right _ _))
  · exact Nat.le_trans (Nat.le_of_lt a3) (Nat.le_mul_of_pos_right _ (by omega))
  · exact Int.dvd_trans (Int.dvd_natAbs.mpr (Int.dvd_refl _)) (Int.natCast_dvd_natCast.mpr (Nat.dvd_mul_left _ _))
  · exact Nat.le_trans (Nat.le_of_lt b3) (Nat.le_mul_of_pos_right _ (by omega))
/-- what holds of the whole of n rods -/
def WOk (n : Nat) (w : List Ar × List Ar) : Prop := ∃ M B : Nat, 0 < M ∧ 0 < B ∧ M ≤ 2 ^ (80 * n) ∧ B ≤ 2 ^ (42 * n) ∧ BdL M B w.1 ∧ BdL M B w.2
theorem WOk.start : WOk 0 ([lone], []) := by
  refine ⟨1, 1, by decide, by decide, by decide, by decide, fun x hx => ?_, fun x hx => ?_⟩
  · have e : x = lone := by simpa using hx
    rw [e]
    exact lone_bd (Nat.le_refl _)
  · simp at hx
/-- one step's bounds -/
theorem WOk.step {n : Nat} {w : List Ar × List Ar} {z : Ar} (h : WOk n w) (hz : ArOk z) : ∃ M B D : Nat, 0 < M ∧ 0 < D ∧ BdL M B w.1 ∧ BdL M B w.2 ∧ BdA D (2 ^ 40) z ∧ M * D ≤ 2 ^ (80 * (n + 1)) ∧ B + (B * 2 ^ 40 + B * 2 ^ 40) ≤ 2 ^ (42 * (n + 1)) := by
  obtain ⟨M, B, h0, h1, h2, h3, h4, h5⟩ := h
  obtain ⟨D, d0, d1, d2⟩ := hz.bd
  refine ⟨M, B, D, h0, d0, h4, h5, d2, ?_, ?_⟩
  · refine Nat.le_trans (Nat.mul_le_mul h2 d1) ?_
    rw [← Nat.pow_add]
    exact Nat.pow_le_pow_right (by decide) (by omega)
  · have e : B + (B * 2 ^ 40 + B * 2 ^ 40) ≤ B * 2 ^ 42 := by omega
    refine Nat.le_trans e ?_
    refine Nat.le_trans (Nat.mul_le_mul_right _ h3) ?_
    rw [← Nat.pow_add]
    exact Nat.pow_le_pow_right (by decide) (by omega)
theorem WOk.grown {n : Nat} {w : List Ar × List Ar} {z : Ar} (h : WOk n w) (hz : ArOk z) : WOk (n + 1) (grown w z) := by
  obtain ⟨M, B, D, h0, d0, h4, h5, h6, h7, h8⟩ := h.step hz
  by_cases hB : 0 < B
  · obtain ⟨g1, g2⟩ := grown_bd h4 h5 h6
    exact ⟨M * D, _, Nat.mul_pos h0 d0, by omega, h7, h8, g1, g2⟩
  · have e : B = 0 := by omega
    subst e
    obtain ⟨g1, g2⟩ := grown_bd h4 h5 h6
    refine ⟨M * D, 1, Nat.mul_pos h0 d0, by omega, h7, Nat.one_le_two_pow, fun x hx => (g1 x hx).mono (Nat.dvd_refl _) (by omega), fun x hx => (g2 x hx).mono (Nat.dvd_refl _) (by omega)⟩
theorem whole_ok : ∀ (zs : List Ar), (∀ z ∈ zs, ArOk z) → WOk zs.length (whole zs) := by
  intro zs
  suffices h : ∀ (zs : List Ar) (n : Nat) (w : List Ar × List Ar), WOk n w → (∀ z ∈ zs, ArOk z) → WOk (n + zs.length) (zs.foldl grown w) by
    intro hz
    have := h zs 0 _ WOk.start hz
    rw [Nat.zero_add] at this
    exact this
  intro zs
  induction zs with
  | nil => intro n w h _; exact h
  | cons z r ih =>
    intro n w h hz
    have := ih (n + 1) (K14.grown w z) (h.grown (hz z List.mem_cons_self)) fun x hx => hz x (List.mem_cons_of_mem _ hx)
    rw [List.foldl_cons, List.length_cons, Nat.add_comm r.length, ← Nat.add_assoc]
    exact this

/-! sizes -/
structure Sz (n : Nat) (p : Pt) : Prop where
  pos : 0 < p.2
  num : p.1.natAbs < 2 ^ n
  den : p.2.natAbs < 2 ^ n
structure SzA (n : Nat) (z : Ar) : Prop where
  x : Sz n z.1
  y : Sz n z.2
theorem Sz.mono {n m : Nat} {p : Pt} (h : Sz n p) (le : n ≤ m) : Sz m p :=
  ⟨h.pos, Nat.lt_of_lt_of_le h.num (Nat.pow_le_pow_right (by decide) le), Nat.lt_of_lt_of_le h.den (Nat.pow_le_pow_right (by decide) le)⟩
theorem SzA.mono {n m : Nat} {p : Ar} (h : SzA n p) (le : n ≤ m) : SzA m p := ⟨h.x.mono le, h.y.mono le⟩
theorem Bd.sz {M B n m k : Nat} {p : Pt} (h : Bd M B p) (h0 : 0 < M) (hM : M ≤ 2 ^ n) (hB : B ≤ 2 ^ m) (hk : n + m < k) : Sz k p := by
  have hd : p.2.natAbs ≤ M := by
    have := Int.le_of_dvd (by omega) h.dvd
    have := h.pos
    omega
  refine ⟨h.pos, ?_, ?_⟩
  · refine Nat.lt_of_le_of_lt (Nat.le_trans h.le (Nat.mul_le_mul hB (Nat.le_trans hd hM))) ?_
    rw [← Nat.pow_add]
    exact Nat.pow_lt_pow_right (by decide) (by omega)
  · refine Nat.lt_of_le_of_lt (Nat.le_trans hd hM) (Nat.pow_lt_pow_right (by decide) (by omega))
theorem BdA.sz {M B n m k : Nat} {p : Ar} (h : BdA M B p) (h0 : 0 < M) (hM : M ≤ 2 ^ n) (hB : B ≤ 2 ^ m) (hk : n + m < k) : SzA k p := ⟨h.1.sz h0 hM hB hk, h.2.sz h0 hM hB hk⟩
theorem low_sz {a b : Int} {n : Nat} (hb : 0 < b) (h1 : a.natAbs < 2 ^ n) (h2 : b.natAbs < 2 ^ n) : Sz n (low a b) := by
  obtain ⟨p1, _, _⟩ := low_spec (a := a) hb
  have hg : 0 < Int.gcd a b := Int.gcd_pos_of_ne_zero_right a (by omega)
  have le : ∀ x : Int, (x / (Int.gcd a b : Int)).natAbs ≤ x.natAbs := fun x => by
    have := Int.natAbs_ediv_le_natAbs x (Int.gcd a b : Int)
    exact this
  exact ⟨p1, Nat.lt_of_le_of_lt (le a) h1, Nat.lt_of_le_of_lt (le b) h2⟩
theorem times_sz {x y : Pt} {n : Nat} (hx : Sz n x) (hy : Sz n y) : Sz (n + n) (times x y) := by
  refine low_sz (Int.mul_pos hx.pos hy.pos) ?_ ?_
  · rw [Int.natAbs_mul, Nat.pow_add]
    exact Nat.mul_lt_mul'' hx.num hy.num
  · rw [Int.natAbs_mul, Nat.pow_add]
    exact Nat.mul_lt_mul'' hx.den hy.den
/-- the sizes that a step meets -/
structure StepSz (p q : List Ar) (z : Ar) : Prop where
  sz : SzA 1000 z
  sp : ∀ i, SzA 1000 (entry p i)
  sq : ∀ i, SzA 1000 (entry q i)
  low : ∀ k : Nat, SzA 1000 (made (entry q (k : Int)) (mate z))
  high : ∀ k : Nat, SzA 1000 (made (entry p (k : Int)) z)
theorem WOk.sz {n : Nat} {w : List Ar × List Ar} {z : Ar} (h : WOk n w) (hz : ArOk z) (hn : n < 8) : StepSz w.1 w.2 z := by
  obtain ⟨M, B, D, h0, d0, h4, h5, h6, h7, h8⟩ := h.step hz
  have m1 : M ≤ 2 ^ 640 := Nat.le_trans (Nat.le_mul_of_pos_right M d0) (Nat.le_trans h7 (Nat.pow_le_pow_right (by decide) (by omega)))
  have m2 : M * D ≤ 2 ^ 640 := Nat.le_trans h7 (Nat.pow_le_pow_right (by decide) (by omega))
  have b2 : B + (B * 2 ^ 40 + B * 2 ^ 40) ≤ 2 ^ 336 := Nat.le_trans h8 (Nat.pow_le_pow_right (by decide) (by omega))
  have b1 : B ≤ 2 ^ 336 := Nat.le_trans (Nat.le_add_right _ _) b2
  have b3 : B * 2 ^ 40 + B * 2 ^ 40 ≤ 2 ^ 336 := Nat.le_trans (Nat.le_add_left _ _) b2
  have d1 : D ≤ 2 ^ 640 := Nat.le_trans (Nat.le_mul_of_pos_left D h0) m2
  refine ⟨h6.sz d0 d1 (m := 336) (Nat.pow_le_pow_right (by decide) (by decide)) (by decide), fun i => (entry_bd h4 i).sz h0 m1 b1 (by decide), fun i => (entry_bd h5 i).sz h0 m1 b1 (by decide), fun k => ?_, fun k => ?_⟩
  · exact (made_bd (entry_bd h5 (k : Int)) (mate_bd h6)).sz (m := 336) (Nat.mul_pos h0 d0) m2 b3 (by decide)
  · exact (made_bd (entry_bd h4 (k : Int)) h6).sz (m := 336) (Nat.mul_pos h0 d0) m2 b3 (by decide)
theorem mate_sz {n : Nat} {z : Ar} (h : SzA n z) : SzA n (mate z) := by
  refine ⟨h.x, h.y.pos, ?_, h.y.den⟩
  show (0 - z.2.1).natAbs < 2 ^ n
  rw [Int.zero_sub, Int.natAbs_neg]
  exact h.y.num
end K14

namespace K14
open PySem PySem.Spec PyProof.Rows L2
def topS (i : Nat) : Stmt := PySem.Challenge.pw_cornertrade_k14_whole_wholes_reckoned.main.body.getD i (.Pass ⟨0, 0, 0, 0⟩)

/-! ### data -/
theorem Same.tup {K : PySem.W.Frag} {H H' : Hp} {a : Addr} {xs : List V} (e : Same H H') (h : SqT K H a xs) : SqT K H' a xs := by
  rcases h with (h | ⟨o, h⟩) | h
  · exact .inl (.inl (e _ _ h))
  · exact .inl (.inr ⟨o, e _ _ h⟩)
  · exact .inr h
theorem same_upd {H : Hp} {p : Addr} {o : HO} (h : H p = none) : Same H (upd H p o) := fun b x e => by
  rw [upd_ne (ne_of_none e h)]
  exact e
/-- tuples are kept -/
def Kp (K : PySem.W.Frag) (H H' : Hp) : Prop := ∀ a xs, SqT K H a xs → SqT K H' a xs
theorem Kp.of {K : PySem.W.Frag} {H H' : Hp} (e : Same H H') : Kp K H H' := fun _ _ h => Same.tup e h
theorem Kp.trans {K : PySem.W.Frag} {H H1 H2 : Hp} (a : Kp K H H1) (b : Kp K H1 H2) : Kp K H H2 := fun x xs h => b x xs (a x xs h)
theorem Kp.refl {K : PySem.W.Frag} {H : Hp} : Kp K H H := fun _ _ h => h
/-- all but the list at bx is kept, and this one's first item -/
structure But (bx : Addr) (H H' : Hp) : Prop where
  keep : ∀ b o, b ≠ bx → H b = some o → H' b = some o
  hd : ∀ v r, H bx = some (.lst (v :: r)) → ∃ r', H' bx = some (.lst (v :: r'))
theorem But.of {bx : Addr} {H H' : Hp} (e : Same H H') : But bx H H' := ⟨fun b o _ h => e b o h, fun v r h => ⟨r, e _ _ h⟩⟩
theorem But.trans {bx : Addr} {H H1 H2 : Hp} (a : But bx H H1) (b : But bx H1 H2) : But bx H H2 :=
  ⟨fun c o n h => b.keep c o n (a.keep c o n h), fun v r h => let ⟨r1, h1⟩ := a.hd v r h; b.hd v r1 h1⟩
theorem But.refl {bx : Addr} {H : Hp} : But bx H H := ⟨fun _ _ _ h => h, fun v r h => ⟨r, h⟩⟩
theorem kp_but {K : PySem.W.Frag} {bx : Addr} {H H' : Hp} {xs : List V} (e : ∀ b o, b ≠ bx → H b = some o → H' b = some o) (hb : H bx = some (.lst xs)) : Kp K H H' := fun a ys h => by
  rcases h with (h | ⟨o, h⟩) | h
  · exact .inl (.inl (e _ _ (fun z => by rw [z, hb] at h; cases h) h))
  · exact .inl (.inr ⟨o, e _ _ (fun z => by rw [z, hb] at h; cases h) h⟩)
  · exact .inr h
theorem But.kp {K : PySem.W.Frag} {bx : Addr} {H H' : Hp} {xs : List V} (e : But bx H H') (hb : H bx = some (.lst xs)) : Kp K H H' := kp_but e.keep hb
/-- a part -/
def IsPt (K : PySem.W.Frag) (H : Hp) (v : V) (p : Pt) : Prop := ∃ a, v = .ref a ∧ SqT K H a [.int p.1, .int p.2]
theorem IsPt.kp {K : PySem.W.Frag} {H H' : Hp} {v : V} {p : Pt} (e : Kp K H H') (h : IsPt K H v p) : IsPt K H' v p := let ⟨a, h1, h2⟩ := h; ⟨a, h1, e _ _ h2⟩
/-- an arrow -/
def IsAr (K : PySem.W.Frag) (H : Hp) (v : V) (z : Ar) : Prop := ∃ a x y, v = .ref a ∧ SqT K H a [x, y] ∧ IsPt K H x z.1 ∧ IsPt K H y z.2
theorem IsAr.kp {K : PySem.W.Frag} {H H' : Hp} {v : V} {p : Ar} (e : Kp K H H') (h : IsAr K H v p) : IsAr K H' v p := let ⟨a, x, y, h1, h2, h3, h4⟩ := h; ⟨a, x, y, h1, e _ _ h2, h3.kp e, h4.kp e⟩
theorem IsPt.dp {K : PySem.W.Frag} {H : Hp} {v : V} {p : Pt} (h : IsPt K H v p) : Dp K H v (.tuple [.int p.1, .int p.2]) := by
  obtain ⟨a, rfl, h2⟩ := h
  exact .tup h2 (.cons (.int _) (.cons (.int _) .nil))
/-- an arrow as data -/
def dPt (p : Pt) : PyData := .tuple [.int p.1, .int p.2]
def dAr (z : Ar) : PyData := .tuple [dPt z.1, dPt z.2]
theorem IsAr.dp {K : PySem.W.Frag} {H : Hp} {v : V} {z : Ar} (h : IsAr K H v z) : Dp K H v (dAr z) := by
  obtain ⟨a, x, y, rfl, h2, h3, h4⟩ := h
  exact .tup h2 (.cons h3.dp (.cons h4.dp .nil))
/-- a list of arrows, read -/
def Ars (K : PySem.W.Frag) (H : Hp) (a : Addr) (zs : List Ar) : Prop := ∃ vs, SqL K H a vs ∧ Paired (IsAr K H) vs zs
theorem Paired.kp {α : Type} {F G : V → α → Prop} {vs : List V} {zs : List α} (h : Paired F vs zs) (k : ∀ v z, F v z → G v z) : Paired G vs zs := Paired.mapP h k
theorem Ars.same {K : PySem.W.Frag} {H H' : Hp} {a : Addr} {zs : List Ar} (e : Same H H') (h : Ars K H a zs) : Ars K H' a zs :=
  let ⟨vs, h1, h2⟩ := h; ⟨vs, e.seq h1, Paired.mapP h2 fun _ _ q => q.kp (Kp.of e)⟩

/-! ### promises -/
def Lt2 (n : Nat) (x : Int) : Prop := x.natAbs < 2 ^ n
def spGcd : Sp := fun vs H Q _ => ∃ a b : Nat, vs = [.int a, .int b] ∧ Q (.int (Nat.gcd a b : Nat)) H
def spLow (K : PySem.W.Frag) : Sp := fun vs H Q _ => ∃ a b : Int, vs = [.int a, .int b] ∧ 0 < b ∧ Lt2 8000 a ∧ Lt2 8000 b ∧ ∀ H' v, Same H H' → IsPt K H' v (low a b) → Q v H'
def spBin (K : PySem.W.Frag) (f : Pt → Pt → Pt) : Sp := fun vs H Q _ => ∃ (x y : V) (p q : Pt), vs = [x, y] ∧ IsPt K H x p ∧ IsPt K H y q ∧ Sz 2500 p ∧ Sz 2500 q ∧ ∀ H' v, Same H H' → IsPt K H' v (f p q) → Q v H'
def spBinA (K : PySem.W.Frag) (n : Nat) (f : Ar → Ar → Ar) : Sp := fun vs H Q _ => ∃ (x y : V) (p q : Ar), vs = [x, y] ∧ IsAr K H x p ∧ IsAr K H y q ∧ SzA n p ∧ SzA n q ∧ ∀ H' v, Same H H' → IsAr K H' v (f p q) → Q v H'
def spMate (K : PySem.W.Frag) : Sp := fun vs H Q _ => ∃ (x : V) (z : Ar), vs = [x] ∧ IsAr K H x z ∧ SzA 2500 z ∧ Int.gcd z.2.1 z.2.2 = 1 ∧ ∀ H' v, Same H H' → IsAr K H' v (mate z) → Q v H'
def spEntry (K : PySem.W.Frag) : Sp := fun vs H Q _ => ∃ (a : Addr) (i : Int) (zs : List Ar), vs = [.ref a, .int i] ∧ Ars K H a zs ∧ ∀ H' v, Same H H' → IsAr K H' v (entry zs i) → Q v H'

/-! ### a def of the top, and one that keeps its promise -/
abbrev FnD (K : PySem.W.Frag) (x q : Str) (st : Stmt) (dvs : List V) (kws : List (Str × V)) (f : Addr) (fd : FuncData) : Prop := FunD K x q (defArgs st) (defBody st) (defScope st) dvs kws f fd
def Def (K : PySem.W.Frag) (mg : Str → Option Value) (x : Str) (st : Stmt) : Prop := ∃ f fd, FnD K x x st [] [] f fd ∧ mg x = some (.ref f)
def Cal (P : Program) (w : World) (K : PySem.W.Frag) (mg : Str → Option Value) (base : Heap) (k : Nat) (x : Str) (ps : List Str) (sp : Sp) : Prop :=
  ∃ f fd, mg x = some (.ref f) ∧ PySem.W.keepIn K (.ref f) = true ∧ Binds K fd ps [] ∧ FnOk P w K mg base CX0 k f fd ps sp
section
variable {P : Program} {w : World} {K : PySem.W.Frag} {mg : Str → Option Value} {base : Heap}
theorem FnD.ok0 {x q : Str} {st : Stmt} {dvs : List V} {kws : List (Str × V)} {f : Addr} {fd : FuncData} {N ps : List Str} {k : Nat} {sp : Sp} (F : FnD K x q st dvs kws f fd) (S : FnScope N ps (defScope st)) (len : ∀ vs H Q E, sp vs H Q E → vs.length = ps.length)
    (hbody : ∀ (cdv : Value) (A : Around) (outer : List Env) (s : Shared) (H : Hp) (vs : List V) (Q : VK) (E : XK), Room k (A.deeper (envOfC q (defScope st) s.heap.objs.size f cdv)) → sp vs H Q E →
      ∃ t, PSs (cxOf CX0 P w K mg base N q (defScope st) f cdv A outer s H E).nox (defBody st) t ∧ t { nx := fun _ H' => Q .non H', rt := Q } (start N vs) H) : FnOk P w K mg base CX0 (k + 1) f fd ps sp :=
  FunD.ok F S len fun cdv A outer s H vs Q E hr h => let ⟨t, h1, h2⟩ := hbody cdv A outer s H vs Q E hr h; ⟨t, h1.nox, h2⟩
theorem Def.cal {x : Str} {st : Stmt} {N ps : List Str} {k : Nat} {sp : Sp} (D : Def K mg x st) (S : FnScope N ps (defScope st))
    (bind : ∀ (kV doc pm : Value) (an : Option Addr) (cdv ct : Value) (us : List Value), us.length = ps.length → bindArgs (PySem.W.fnOf x x (defArgs st) (defBody st) (defScope st) .none kV doc pm an cdv ct) ⟨us, []⟩ = pure (ps.zip us))
    (len : ∀ vs H Q E, sp vs H Q E → vs.length = ps.length)
    (hbody : ∀ (f : Addr) (cdv : Value) (A : Around) (outer : List Env) (s : Shared) (H : Hp) (vs : List V) (Q : VK) (E : XK), Room k (A.deeper (envOfC x (defScope st) s.heap.objs.size f cdv)) → sp vs H Q E →
      ∃ t, PSs (cxOf CX0 P w K mg base N x (defScope st) f cdv A outer s H E).nox (defBody st) t ∧ t { nx := fun _ H' => Q .non H', rt := Q } (start N vs) H) : Cal P w K mg base (k + 1) x ps sp := by
  obtain ⟨f, fd, F, g⟩ := D
  exact ⟨f, fd, g, F.kp, F.bindsN bind, FnD.ok0 F S len (hbody f)⟩
end

/-! ### the gcd's loop -/
theorem gcd_turn {a b : Nat} (h : b ≠ 0) : Nat.gcd b (a % b) = Nat.gcd a b := by
  rw [Nat.gcd_comm a b, Nat.gcd_rec b a, Nat.gcd_comm]
theorem gcd_zero {a b : Nat} (h : b = 0) : Nat.gcd a b = a := by
  rw [h]; exact Nat.gcd_zero_right a
end K14

namespace K14
open PySem PySem.Spec PyProof.Rows L2
section
variable {P : Program} {w : World} {K : PySem.W.Frag} {mg : Str → Option Value} {base : Heap}
abbrev sShared : Stmt := topS 11
theorem scShared : FnScope ["one", "other"] ["one", "other"] (defScope sShared) := ⟨rfl, rfl, rfl, by decide +kernel, rfl, by decide +kernel, by decide +kernel⟩
theorem cal_shared (D : Def K mg "shared_by" sShared) : Cal P w K mg base 1 "shared_by" ["one", "other"] spGcd := by
  refine D.cal scShared (fun _ _ _ _ _ _ us hl => match us, hl with | [_, _], _ => rfl) (fun vs H Q E h => ?_) (fun f cdv A outer s H vs Q E hr h => ?_)
  · obtain ⟨a, b, rfl, _⟩ := h
    rfl
  · obtain ⟨a, b, rfl, q⟩ := h
    refine ⟨_, pss_cons (ps_while PassesOwn.never (pt_cmpR op_ne (pv 1) pe_int (nomark _))
        (pss_one (ps_par (i := 0) (j := 1) rfl scShared.nd rfl rfl (by decide) rfl rfl (pa_cons (pv 1) (pa_cons (pe_op op_mod (pv 0) (pv 1)) pa_nil)) (by rfl))))
      (pss_one (ps_ret (pv 0))), ?_⟩
    refine ⟨fun m σ H' => ∃ x y : Nat, σ = [some (.int x), some (.int y)] ∧ m = y ∧ Nat.gcd x y = Nat.gcd a b ∧ H' = H, ⟨b, a, b, rfl, rfl, rfl, rfl⟩, ?_⟩
    rintro m σ H' ⟨x, y, rfl, rfl, e, rfl⟩
    refine ⟨_, rfl, rfl, _, rfl, ?_⟩
    by_cases hy : m = 0
    · have e0 : decide (V.int (m : Int) = V.int 0) = true := decide_eq_true (by rw [hy]; rfl)
      rw [e0]
      refine iteF ?_
      rw [gcd_zero hy] at e
      refine ⟨_, rfl, ?_⟩
      rw [e]
      exact q
    · have e0 : decide (V.int (m : Int) = V.int 0) = false := decide_eq_false fun z => hy (by have := V.int.inj z; omega)
      rw [e0]
      refine iteT ?_
      refine ⟨fun σ' H'' => ∃ x' y' : Nat, σ' = [some (.int x'), some (.int y')] ∧ y' < m ∧ Nat.gcd x' y' = Nat.gcd a b ∧ H'' = H', ?_, ?_⟩
      · rintro σ' H'' ⟨x', y', rfl, h1, h2, rfl⟩
        exact ⟨y', h1, x', y', rfl, rfl, h2, rfl⟩
      · refine ⟨_, rfl, _, rfl, _, rfl, _, _, rfl, rfl, (by omega), _, _, rfl, ?_⟩
        refine ⟨m, x % m, rfl, Nat.mod_lt _ (by omega), ?_, rfl⟩
        rw [gcd_turn hy, e]
/-! part -/
abbrev sPart : Stmt := topS 12
def DefPart (K : PySem.W.Frag) (mg : Str → Option Value) : Prop := ∃ f fd, FnD K "part" "part" sPart [.int 1] [] f fd ∧ mg "part" = some (.ref f)
theorem scPart : FnScope ["over", "under", "low", "sign"] ["over", "under"] (defScope sPart) := ⟨rfl, rfl, rfl, by decide +kernel, rfl, by decide +kernel, by decide +kernel⟩
theorem Lt2.one : Lt2 1 1 := by unfold Lt2; decide
theorem Lt2.mono {n m : Nat} {x : Int} (h : Lt2 n x) (le : n ≤ m) : Lt2 m x := Nat.lt_of_lt_of_le h (Nat.pow_le_pow_right (by decide) le)
theorem mulW {n m : Nat} {x y : Int} (hx : Lt2 n x) (hy : Lt2 m y) (h0 : 0 < n) (h1 : 0 < m) (h : n + m ≤ 1000000) : CMulW x y := wide_mul hx hy h0 h1 h
theorem divW {n : Nat} {a b : Int} (h : 0 < b) (hb : Lt2 n b) (h0 : 0 < n) (h9 : n ≤ 9000) : CDivW a b := wide_div h hb h0 h9
theorem gcd_pos {a b : Int} (h : 0 < b) : (0 : Int) < (Int.gcd a b : Int) := by
  have := Int.gcd_pos_of_ne_zero_right a (show b ≠ 0 by omega)
  omega
theorem gcd_lt {n : Nat} {a b : Int} (h : 0 < b) (hb : Lt2 n b) : Lt2 n (Int.gcd a b : Int) := by
  have := Int.le_of_dvd h (Int.gcd_dvd_right a b)
  exact Nat.lt_of_le_of_lt (by omega) hb
theorem abs_nat (a : Int) : (if a < 0 then -a else a) = (a.natAbs : Int) := by split <;> omega
theorem low_eq (a b : Int) : (1 * a / (Int.gcd a b : Int), 1 * b / (Int.gcd a b : Int)) = low a b := by
  unfold low
  rw [Int.one_mul, Int.one_mul]
theorem cal_part (D : DefPart K mg) (mAbs : mg "abs" = none) (cG : Cal P w K mg base 1 "shared_by" ["one", "other"] spGcd) : Cal P w K mg base 2 "part" ["over", "under"] (spLow K) := by
  obtain ⟨f, fd, F, g⟩ := D
  obtain ⟨fG, fdG, gG, kG, bG, GG⟩ := cG
  obtain ⟨ds, vds, bP⟩ := FunD.binds1 (ps := ["over", "under"]) F 2 1 (by simp) rfl (fun T kV doc pm an cdv ct us its h1 h2 => by
    match us, h1, its, h2 with
    | [a, b], _, [d], _ => exact ⟨_, rfl, rfl⟩)
  have e : ds = [] := by
    cases vds
    rfl
  subst e
  refine ⟨f, fd, g, F.kp, bP, FnD.ok0 F scPart (fun vs H Q E h => ?_) (fun cdv A outer s H vs Q E hr h => ?_)⟩
  · obtain ⟨a, b, rfl, _⟩ := h
    rfl
  · obtain ⟨a, b, rfl, hb, h1, h2, q⟩ := h
    refine ⟨_, pss_cons (ps_if (pt_cmpR op_eq (pv 1) pe_int (nomark _)) (pss_one ps_never) pss_nil)
      (pss_cons (ps_set (i := 2) scPart.nd rfl (.inl rfl) (pe_call GG hr (by rfl) gG kG bG .nil pass0
        (pa_cons (pe_callB call_abs (by rfl) mAbs (by decide +kernel) (pa_cons (pv 0) pa_nil)) (pa_cons (pe_callB call_abs (by rfl) mAbs (by decide +kernel) (pa_cons (pv 1) pa_nil)) pa_nil))))
      (pss_cons (ps_set (i := 3) scPart.nd rfl (.inl rfl) (pe_ifExp (pt_cmpR op_gt (pv 1) pe_int (nomark _)) pe_int (pe_un un_neg pe_int)))
      (pss_one (ps_ret (pe_tup (pa_cons (pe_op op_fdivW (pe_op op_mulW (pv 3) (pv 0)) (pv 2)) (pa_cons (pe_op op_fdivW (pe_op op_mulW (pv 3) (pv 1)) (pv 2)) pa_nil))))))), ?_⟩
    -- under == 0
    refine ⟨_, rfl, rfl, _, rfl, ?_⟩
    rw [decide_eq_false (show ¬ V.int b = V.int 0 from fun z => by have := V.int.inj z; omega)]
    refine iteF ?_
    -- low
    refine ⟨_, rfl, _, rfl, _, rfl, _, rfl, a.natAbs, b.natAbs, ?_, ?_⟩
    · rw [abs_nat, abs_nat]
      rfl
    -- sign
    refine ⟨_, rfl, _, _, rfl, rfl, _, rfl, ?_⟩
    rw [decide_eq_true (show (0 : Int) < b from hb)]
    refine iteT ?_
    -- the pair
    refine ⟨_, rfl, _, rfl, _, _, rfl, rfl, mulW Lt2.one h1 (by decide) (by decide) (by decide), ?_⟩
    refine ⟨_, rfl, _, _, rfl, rfl, divW (gcd_pos hb) (gcd_lt hb h2) (by decide) (by decide), ?_⟩
    refine ⟨_, rfl, _, rfl, _, _, rfl, rfl, mulW Lt2.one h2 (by decide) (by decide) (by decide), ?_⟩
    refine ⟨_, rfl, _, _, rfl, rfl, divW (gcd_pos hb) (gcd_lt hb h2) (by decide) (by decide), ?_⟩
    refine ⟨by show 2 ≤ sizeLine; decide, fun p hp => q _ _ (same_upd hp) ⟨p, rfl, ?_⟩⟩
    rw [← low_eq]
    exact SqT.of upd_same
end
end K14

namespace K14
open PySem PySem.Spec PyProof.Rows L2
section
variable {P : Program} {w : World} {K : PySem.W.Frag} {mg : Str → Option Value} {base : Heap}
theorem Lt2.mul {n m k : Nat} {x y : Int} (hx : Lt2 n x) (hy : Lt2 m y) (h : n + m ≤ k) : Lt2 k (x * y) := Nat.lt_of_lt_of_le (wide_lt hx hy) (Nat.pow_le_pow_right (by decide) h)
theorem Lt2.add {n m : Nat} {x y : Int} (hx : Lt2 n x) (hy : Lt2 n y) (h : n + 1 ≤ m) : Lt2 m (x + y) := by
  have h1 := Int.natAbs_add_le x y
  have h2 : x.natAbs < 2 ^ n := hx
  have h3 : y.natAbs < 2 ^ n := hy
  have h4 : 2 ^ (n + 1) = 2 ^ n * 2 := Nat.pow_succ 2 n
  have h5 : 2 ^ (n + 1) ≤ 2 ^ m := Nat.pow_le_pow_right (by decide) h
  show (x + y).natAbs < 2 ^ m
  omega
theorem Lt2.sub {n m : Nat} {x y : Int} (hx : Lt2 n x) (hy : Lt2 n y) (h : n + 1 ≤ m) : Lt2 m (x - y) := by
  have h1 := Int.natAbs_sub_le x y
  have h2 : x.natAbs < 2 ^ n := hx
  have h3 : y.natAbs < 2 ^ n := hy
  have h4 : 2 ^ (n + 1) = 2 ^ n * 2 := Nat.pow_succ 2 n
  have h5 : 2 ^ (n + 1) ≤ 2 ^ m := Nat.pow_le_pow_right (by decide) h
  show (x - y).natAbs < 2 ^ m
  omega
theorem Sz.ln {n : Nat} {p : Pt} (h : Sz n p) : Lt2 n p.1 := h.num
theorem Sz.ld {n : Nat} {p : Pt} (h : Sz n p) : Lt2 n p.2 := h.den
theorem at0 {v : V} {r : List V} : atI (v :: r) 0 = some v := atI_nat (j := 0) rfl
theorem at1 {u v : V} {r : List V} : atI (u :: v :: r) 1 = some v := atI_nat (j := 1) rfl

theorem sc_plus : FnScope ["one", "other"] ["one", "other"] (defScope (topS 13)) := ⟨rfl, rfl, rfl, by decide +kernel, rfl, by decide +kernel, by decide +kernel⟩
theorem cal_plus (D : Def K mg "plus" (topS 13)) (cL : Cal P w K mg base 2 "part" ["over", "under"] (spLow K)) : Cal P w K mg base 3 "plus" ["one", "other"] (spBin K plus) := by
  obtain ⟨fL, fdL, gL, kL, bL, GL⟩ := cL
  refine D.cal sc_plus (fun _ _ _ _ _ _ us hl => match us, hl with | [_, _], _ => rfl) (fun vs H Q E h => ?_) (fun f cdv A outer s H vs Q E hr h => ?_)
  · obtain ⟨x, y, p, q, rfl, _⟩ := h
    rfl
  · obtain ⟨x, y, p, q, rfl, ⟨ax, rfl, hx⟩, ⟨ay, rfl, hy⟩, sp, sq, hq⟩ := h
    refine ⟨_, pss_one (ps_ret (pe_call GL hr (by rfl) gL kL bL .nil pass0 (pa_cons (pe_op op_add (pe_op op_mulW (pe_ix ix_tup (pv 0) pe_int (fun _ _ => rfl)) (pe_ix ix_tup (pv 1) pe_int (fun _ _ => rfl))) (pe_op op_mulW (pe_ix ix_tup (pv 1) pe_int (fun _ _ => rfl)) (pe_ix ix_tup (pv 0) pe_int (fun _ _ => rfl)))) (pa_cons (pe_op op_mulW (pe_ix ix_tup (pv 0) pe_int (fun _ _ => rfl)) (pe_ix ix_tup (pv 1) pe_int (fun _ _ => rfl))) pa_nil)))), ?_⟩
    refine ⟨_, rfl, ax, _, _, _, rfl, rfl, hx, at0, _, rfl, ay, _, _, _, rfl, rfl, hy, at1, _, _, rfl, rfl, mulW sp.ln sq.ld (by decide) (by decide) (by decide), ?_⟩
    refine ⟨_, rfl, ay, _, _, _, rfl, rfl, hy, at0, _, rfl, ax, _, _, _, rfl, rfl, hx, at1, _, _, rfl, rfl, mulW sq.ln sp.ld (by decide) (by decide) (by decide), ?_⟩
    refine ⟨_, _, rfl, rfl, ?_⟩
    refine ⟨_, rfl, ax, _, _, _, rfl, rfl, hx, at1, _, rfl, ay, _, _, _, rfl, rfl, hy, at1, _, _, rfl, rfl, mulW sp.ld sq.ld (by decide) (by decide) (by decide), ?_⟩
    exact ⟨_, _, rfl, Int.mul_pos sp.pos sq.pos, (sp.ln.mul sq.ld (k := 5000) (by decide)).add (sq.ln.mul sp.ld (by decide)) (by decide), sp.ld.mul sq.ld (by decide), hq⟩
theorem sc_less : FnScope ["one", "other"] ["one", "other"] (defScope (topS 14)) := ⟨rfl, rfl, rfl, by decide +kernel, rfl, by decide +kernel, by decide +kernel⟩
theorem cal_less (D : Def K mg "less" (topS 14)) (cL : Cal P w K mg base 2 "part" ["over", "under"] (spLow K)) : Cal P w K mg base 3 "less" ["one", "other"] (spBin K less) := by
  obtain ⟨fL, fdL, gL, kL, bL, GL⟩ := cL
  refine D.cal sc_less (fun _ _ _ _ _ _ us hl => match us, hl with | [_, _], _ => rfl) (fun vs H Q E h => ?_) (fun f cdv A outer s H vs Q E hr h => ?_)
  · obtain ⟨x, y, p, q, rfl, _⟩ := h
    rfl
  · obtain ⟨x, y, p, q, rfl, ⟨ax, rfl, hx⟩, ⟨ay, rfl, hy⟩, sp, sq, hq⟩ := h
    refine ⟨_, pss_one (ps_ret (pe_call GL hr (by rfl) gL kL bL .nil pass0 (pa_cons (pe_op op_sub (pe_op op_mulW (pe_ix ix_tup (pv 0) pe_int (fun _ _ => rfl)) (pe_ix ix_tup (pv 1) pe_int (fun _ _ => rfl))) (pe_op op_mulW (pe_ix ix_tup (pv 1) pe_int (fun _ _ => rfl)) (pe_ix ix_tup (pv 0) pe_int (fun _ _ => rfl)))) (pa_cons (pe_op op_mulW (pe_ix ix_tup (pv 0) pe_int (fun _ _ => rfl)) (pe_ix ix_tup (pv 1) pe_int (fun _ _ => rfl))) pa_nil)))), ?_⟩
    refine ⟨_, rfl, ax, _, _, _, rfl, rfl, hx, at0, _, rfl, ay, _, _, _, rfl, rfl, hy, at1, _, _, rfl, rfl, mulW sp.ln sq.ld (by decide) (by decide) (by decide), ?_⟩
    refine ⟨_, rfl, ay, _, _, _, rfl, rfl, hy, at0, _, rfl, ax, _, _, _, rfl, rfl, hx, at1, _, _, rfl, rfl, mulW sq.ln sp.ld (by decide) (by decide) (by decide), ?_⟩
    refine ⟨_, _, rfl, rfl, ?_⟩
    refine ⟨_, rfl, ax, _, _, _, rfl, rfl, hx, at1, _, rfl, ay, _, _, _, rfl, rfl, hy, at1, _, _, rfl, rfl, mulW sp.ld sq.ld (by decide) (by decide) (by decide), ?_⟩
    exact ⟨_, _, rfl, Int.mul_pos sp.pos sq.pos, (sp.ln.mul sq.ld (k := 5000) (by decide)).sub (sq.ln.mul sp.ld (by decide)) (by decide), sp.ld.mul sq.ld (by decide), hq⟩
theorem sc_times : FnScope ["one", "other"] ["one", "other"] (defScope (topS 15)) := ⟨rfl, rfl, rfl, by decide +kernel, rfl, by decide +kernel, by decide +kernel⟩
theorem cal_times (D : Def K mg "times" (topS 15)) (cL : Cal P w K mg base 2 "part" ["over", "under"] (spLow K)) : Cal P w K mg base 3 "times" ["one", "other"] (spBin K times) := by
  obtain ⟨fL, fdL, gL, kL, bL, GL⟩ := cL
  refine D.cal sc_times (fun _ _ _ _ _ _ us hl => match us, hl with | [_, _], _ => rfl) (fun vs H Q E h => ?_) (fun f cdv A outer s H vs Q E hr h => ?_)
  · obtain ⟨x, y, p, q, rfl, _⟩ := h
    rfl
  · obtain ⟨x, y, p, q, rfl, ⟨ax, rfl, hx⟩, ⟨ay, rfl, hy⟩, sp, sq, hq⟩ := h
    refine ⟨_, pss_one (ps_ret (pe_call GL hr (by rfl) gL kL bL .nil pass0 (pa_cons (pe_op op_mulW (pe_ix ix_tup (pv 0) pe_int (fun _ _ => rfl)) (pe_ix ix_tup (pv 1) pe_int (fun _ _ => rfl))) (pa_cons (pe_op op_mulW (pe_ix ix_tup (pv 0) pe_int (fun _ _ => rfl)) (pe_ix ix_tup (pv 1) pe_int (fun _ _ => rfl))) pa_nil)))), ?_⟩
    refine ⟨_, rfl, ax, _, _, _, rfl, rfl, hx, at0, _, rfl, ay, _, _, _, rfl, rfl, hy, at0, _, _, rfl, rfl, mulW sp.ln sq.ln (by decide) (by decide) (by decide), ?_⟩
    refine ⟨_, rfl, ax, _, _, _, rfl, rfl, hx, at1, _, rfl, ay, _, _, _, rfl, rfl, hy, at1, _, _, rfl, rfl, mulW sp.ld sq.ld (by decide) (by decide) (by decide), ?_⟩
    exact ⟨_, _, rfl, Int.mul_pos sp.pos sq.pos, sp.ln.mul sq.ln (by decide), sp.ld.mul sq.ld (by decide), hq⟩
theorem sc__law_low : FnScope ["_law_above", "_law_beneath", "_law_one", "_law_other", "_law_side"] ["_law_above", "_law_beneath"] (defScope (topS 41)) := ⟨rfl, rfl, rfl, by decide +kernel, rfl, by decide +kernel, by decide +kernel⟩
theorem cal__law_low (D : Def K mg "_law_low" (topS 41)) (mAbs : mg "abs" = none) : Cal P w K mg base 1 "_law_low" ["_law_above", "_law_beneath"] (spLow K) := by
  refine D.cal sc__law_low (fun _ _ _ _ _ _ us hl => match us, hl with | [_, _], _ => rfl) (fun vs H Q E h => ?_) (fun f cdv A outer s H vs Q E hr h => ?_)
  · obtain ⟨a, b, rfl, _⟩ := h
    rfl
  · obtain ⟨a, b, rfl, hb, h1, h2, q⟩ := h
    refine ⟨_, pss_cons (ps_par (i := 2) (j := 3) rfl sc__law_low.nd rfl rfl (by decide) rfl rfl (pa_cons (pe_callB call_abs (by rfl) mAbs (by decide +kernel) (pa_cons (pv 0) pa_nil)) (pa_cons (pe_callB call_abs (by rfl) mAbs (by decide +kernel) (pa_cons (pv 1) pa_nil)) pa_nil)) (by rfl))
      (pss_cons (ps_while PassesOwn.never (pt_cmpR op_ne (pv 3) pe_int (nomark _))
        (pss_one (ps_par (i := 2) (j := 3) rfl sc__law_low.nd rfl rfl (by decide) rfl rfl (pa_cons (pv 3) (pa_cons (pe_op op_mod (pv 2) (pv 3)) pa_nil)) (by rfl))))
      (pss_cons (ps_set (i := 4) sc__law_low.nd rfl (.inl rfl) (pe_ifExp (pt_cmpR op_gt (pv 1) pe_int (nomark _)) pe_int (pe_un un_neg pe_int)))
      (pss_one (ps_ret (pe_tup (pa_cons (pe_op op_fdivW (pe_op op_mulW (pv 4) (pv 0)) (pv 2)) (pa_cons (pe_op op_fdivW (pe_op op_mulW (pv 4) (pv 1)) (pv 2)) pa_nil))))))), ?_⟩
    refine ⟨_, rfl, _, rfl, _, rfl, _, rfl, _, _, rfl, ?_⟩
    rw [abs_nat, abs_nat]
    refine ⟨fun m σ H' => ∃ x y : Nat, σ = [some (.int a), some (.int b), some (.int x), some (.int y), none] ∧ m = y ∧ Nat.gcd x y = Int.gcd a b ∧ H' = H, ⟨b.natAbs, a.natAbs, b.natAbs, rfl, rfl, rfl, rfl⟩, ?_⟩
    rintro m σ H' ⟨x, y, rfl, rfl, e, rfl⟩
    refine ⟨_, rfl, rfl, _, rfl, ?_⟩
    by_cases hy : m = 0
    · rw [show decide (V.int (m : Int) = V.int 0) = true from decide_eq_true (by rw [hy]; rfl)]
      refine iteF ?_
      rw [gcd_zero hy] at e
      subst e
      refine ⟨_, rfl, _, _, rfl, rfl, _, rfl, ?_⟩
      rw [decide_eq_true (show (0 : Int) < b from hb)]
      refine iteT ?_
      refine ⟨_, rfl, _, rfl, _, _, rfl, rfl, mulW Lt2.one h1 (by decide) (by decide) (by decide), ?_⟩
      refine ⟨_, rfl, _, _, rfl, rfl, divW (gcd_pos hb) (gcd_lt hb h2) (by decide) (by decide), ?_⟩
      refine ⟨_, rfl, _, rfl, _, _, rfl, rfl, mulW Lt2.one h2 (by decide) (by decide) (by decide), ?_⟩
      refine ⟨_, rfl, _, _, rfl, rfl, divW (gcd_pos hb) (gcd_lt hb h2) (by decide) (by decide), ?_⟩
      refine ⟨by show 2 ≤ sizeLine; decide, fun p hp => q _ _ (same_upd hp) ⟨p, rfl, ?_⟩⟩
      rw [← low_eq]
      exact SqT.of upd_same
    · rw [show decide (V.int (m : Int) = V.int 0) = false from decide_eq_false fun z => hy (by have := V.int.inj z; omega)]
      refine iteT ?_
      refine ⟨fun σ' H'' => ∃ x' y' : Nat, σ' = [some (.int a), some (.int b), some (.int x'), some (.int y'), none] ∧ y' < m ∧ Nat.gcd x' y' = Int.gcd a b ∧ H'' = H', ?_, ?_⟩
      · rintro σ' H'' ⟨x', y', rfl, h1, h2, rfl⟩
        exact ⟨y', h1, x', y', rfl, rfl, h2, rfl⟩
      · refine ⟨_, rfl, _, rfl, _, rfl, _, _, rfl, rfl, (by omega), _, _, rfl, ?_⟩
        exact ⟨m, x % m, rfl, Nat.mod_lt _ (by omega), (gcd_turn hy).trans e, rfl⟩
theorem sc__law_less : FnScope ["_law_one", "_law_other"] ["_law_one", "_law_other"] (defScope (topS 48)) := ⟨rfl, rfl, rfl, by decide +kernel, rfl, by decide +kernel, by decide +kernel⟩
theorem cal__law_less (D : Def K mg "_law_less" (topS 48)) (cL : Cal P w K mg base 1 "_law_low" ["_law_above", "_law_beneath"] (spLow K)) : Cal P w K mg base 2 "_law_less" ["_law_one", "_law_other"] (spBin K less) := by
  obtain ⟨fL, fdL, gL, kL, bL, GL⟩ := cL
  refine D.cal sc__law_less (fun _ _ _ _ _ _ us hl => match us, hl with | [_, _], _ => rfl) (fun vs H Q E h => ?_) (fun f cdv A outer s H vs Q E hr h => ?_)
  · obtain ⟨x, y, p, q, rfl, _⟩ := h
    rfl
  · obtain ⟨x, y, p, q, rfl, ⟨ax, rfl, hx⟩, ⟨ay, rfl, hy⟩, sp, sq, hq⟩ := h
    refine ⟨_, pss_one (ps_ret (pe_call GL hr (by rfl) gL kL bL .nil pass0 (pa_cons (pe_op op_sub (pe_op op_mulW (pe_ix ix_tup (pv 0) pe_int (fun _ _ => rfl)) (pe_ix ix_tup (pv 1) pe_int (fun _ _ => rfl))) (pe_op op_mulW (pe_ix ix_tup (pv 1) pe_int (fun _ _ => rfl)) (pe_ix ix_tup (pv 0) pe_int (fun _ _ => rfl)))) (pa_cons (pe_op op_mulW (pe_ix ix_tup (pv 0) pe_int (fun _ _ => rfl)) (pe_ix ix_tup (pv 1) pe_int (fun _ _ => rfl))) pa_nil)))), ?_⟩
    refine ⟨_, rfl, ax, _, _, _, rfl, rfl, hx, at0, _, rfl, ay, _, _, _, rfl, rfl, hy, at1, _, _, rfl, rfl, mulW sp.ln sq.ld (by decide) (by decide) (by decide), ?_⟩
    refine ⟨_, rfl, ay, _, _, _, rfl, rfl, hy, at0, _, rfl, ax, _, _, _, rfl, rfl, hx, at1, _, _, rfl, rfl, mulW sq.ln sp.ld (by decide) (by decide) (by decide), ?_⟩
    refine ⟨_, _, rfl, rfl, ?_⟩
    refine ⟨_, rfl, ax, _, _, _, rfl, rfl, hx, at1, _, rfl, ay, _, _, _, rfl, rfl, hy, at1, _, _, rfl, rfl, mulW sp.ld sq.ld (by decide) (by decide) (by decide), ?_⟩
    exact ⟨_, _, rfl, Int.mul_pos sp.pos sq.pos, (sp.ln.mul sq.ld (k := 5000) (by decide)).sub (sq.ln.mul sp.ld (by decide)) (by decide), sp.ld.mul sq.ld (by decide), hq⟩
theorem sc__law_by : FnScope ["_law_one", "_law_other"] ["_law_one", "_law_other"] (defScope (topS 51)) := ⟨rfl, rfl, rfl, by decide +kernel, rfl, by decide +kernel, by decide +kernel⟩
theorem cal__law_by (D : Def K mg "_law_by" (topS 51)) (cL : Cal P w K mg base 1 "_law_low" ["_law_above", "_law_beneath"] (spLow K)) : Cal P w K mg base 2 "_law_by" ["_law_one", "_law_other"] (spBin K times) := by
  obtain ⟨fL, fdL, gL, kL, bL, GL⟩ := cL
  refine D.cal sc__law_by (fun _ _ _ _ _ _ us hl => match us, hl with | [_, _], _ => rfl) (fun vs H Q E h => ?_) (fun f cdv A outer s H vs Q E hr h => ?_)
  · obtain ⟨x, y, p, q, rfl, _⟩ := h
    rfl
  · obtain ⟨x, y, p, q, rfl, ⟨ax, rfl, hx⟩, ⟨ay, rfl, hy⟩, sp, sq, hq⟩ := h
    refine ⟨_, pss_one (ps_ret (pe_call GL hr (by rfl) gL kL bL .nil pass0 (pa_cons (pe_op op_mulW (pe_ix ix_tup (pv 0) pe_int (fun _ _ => rfl)) (pe_ix ix_tup (pv 1) pe_int (fun _ _ => rfl))) (pa_cons (pe_op op_mulW (pe_ix ix_tup (pv 0) pe_int (fun _ _ => rfl)) (pe_ix ix_tup (pv 1) pe_int (fun _ _ => rfl))) pa_nil)))), ?_⟩
    refine ⟨_, rfl, ax, _, _, _, rfl, rfl, hx, at0, _, rfl, ay, _, _, _, rfl, rfl, hy, at0, _, _, rfl, rfl, mulW sp.ln sq.ln (by decide) (by decide) (by decide), ?_⟩
    refine ⟨_, rfl, ax, _, _, _, rfl, rfl, hx, at1, _, rfl, ay, _, _, _, rfl, rfl, hy, at1, _, _, rfl, rfl, mulW sp.ld sq.ld (by decide) (by decide) (by decide), ?_⟩
    exact ⟨_, _, rfl, Int.mul_pos sp.pos sq.pos, sp.ln.mul sq.ln (by decide), sp.ld.mul sq.ld (by decide), hq⟩
theorem sc__law_plus : FnScope ["_law_one", "_law_other"] ["_law_one", "_law_other"] (defScope (topS 52)) := ⟨rfl, rfl, rfl, by decide +kernel, rfl, by decide +kernel, by decide +kernel⟩
theorem cal__law_plus (D : Def K mg "_law_plus" (topS 52)) (cL : Cal P w K mg base 1 "_law_low" ["_law_above", "_law_beneath"] (spLow K)) : Cal P w K mg base 2 "_law_plus" ["_law_one", "_law_other"] (spBin K plus) := by
  obtain ⟨fL, fdL, gL, kL, bL, GL⟩ := cL
  refine D.cal sc__law_plus (fun _ _ _ _ _ _ us hl => match us, hl with | [_, _], _ => rfl) (fun vs H Q E h => ?_) (fun f cdv A outer s H vs Q E hr h => ?_)
  · obtain ⟨x, y, p, q, rfl, _⟩ := h
    rfl
  · obtain ⟨x, y, p, q, rfl, ⟨ax, rfl, hx⟩, ⟨ay, rfl, hy⟩, sp, sq, hq⟩ := h
    refine ⟨_, pss_one (ps_ret (pe_call GL hr (by rfl) gL kL bL .nil pass0 (pa_cons (pe_op op_add (pe_op op_mulW (pe_ix ix_tup (pv 0) pe_int (fun _ _ => rfl)) (pe_ix ix_tup (pv 1) pe_int (fun _ _ => rfl))) (pe_op op_mulW (pe_ix ix_tup (pv 1) pe_int (fun _ _ => rfl)) (pe_ix ix_tup (pv 0) pe_int (fun _ _ => rfl)))) (pa_cons (pe_op op_mulW (pe_ix ix_tup (pv 0) pe_int (fun _ _ => rfl)) (pe_ix ix_tup (pv 1) pe_int (fun _ _ => rfl))) pa_nil)))), ?_⟩
    refine ⟨_, rfl, ax, _, _, _, rfl, rfl, hx, at0, _, rfl, ay, _, _, _, rfl, rfl, hy, at1, _, _, rfl, rfl, mulW sp.ln sq.ld (by decide) (by decide) (by decide), ?_⟩
    refine ⟨_, rfl, ay, _, _, _, rfl, rfl, hy, at0, _, rfl, ax, _, _, _, rfl, rfl, hx, at1, _, _, rfl, rfl, mulW sq.ln sp.ld (by decide) (by decide) (by decide), ?_⟩
    refine ⟨_, _, rfl, rfl, ?_⟩
    refine ⟨_, rfl, ax, _, _, _, rfl, rfl, hx, at1, _, rfl, ay, _, _, _, rfl, rfl, hy, at1, _, _, rfl, rfl, mulW sp.ld sq.ld (by decide) (by decide) (by decide), ?_⟩
    exact ⟨_, _, rfl, Int.mul_pos sp.pos sq.pos, (sp.ln.mul sq.ld (k := 5000) (by decide)).add (sq.ln.mul sp.ld (by decide)) (by decide), sp.ld.mul sq.ld (by decide), hq⟩
theorem sc_summed : FnScope ["one", "other"] ["one", "other"] (defScope (topS 19)) := ⟨rfl, rfl, rfl, by decide +kernel, rfl, by decide +kernel, by decide +kernel⟩
theorem cal_summed (D : Def K mg "summed" (topS 19)) (cC : Cal P w K mg base 3 "plus" ["one", "other"] (spBin K plus)) : Cal P w K mg base 4 "summed" ["one", "other"] (spBinA K 2500 summed) := by
  obtain ⟨fC, fdC, gC, kC, bC, GC⟩ := cC
  refine D.cal sc_summed (fun _ _ _ _ _ _ us hl => match us, hl with | [_, _], _ => rfl) (fun vs H Q E h => ?_) (fun f cdv A outer s H vs Q E hr h => ?_)
  · obtain ⟨x, y, p, q, rfl, _⟩ := h
    rfl
  · obtain ⟨x, y, z, u, rfl, ⟨ax, x0, x1, rfl, hx, i0, i1⟩, ⟨ay, y0, y1, rfl, hy, j0, j1⟩, sz, su, hq⟩ := h
    refine ⟨_, pss_one (ps_ret (pe_tup (pa_cons (pe_call GC hr (by rfl) gC kC bC .nil pass0 (pa_cons (pe_ix ix_tup (pv 0) pe_int (fun _ _ => rfl)) (pa_cons (pe_ix ix_tup (pv 1) pe_int (fun _ _ => rfl)) pa_nil))) (pa_cons (pe_call GC hr (by rfl) gC kC bC .nil pass0 (pa_cons (pe_ix ix_tup (pv 0) pe_int (fun _ _ => rfl)) (pa_cons (pe_ix ix_tup (pv 1) pe_int (fun _ _ => rfl)) pa_nil))) pa_nil)))), ?_⟩
    refine ⟨_, rfl, ax, _, _, _, rfl, rfl, hx, at0, _, rfl, ay, _, _, _, rfl, rfl, hy, at0, _, _, _, _, rfl, i0, j0, sz.x, su.x, fun H1 v1 s1 r1 => ?_⟩
    refine ⟨_, rfl, ax, _, _, _, rfl, rfl, Same.tup s1 hx, at1, _, rfl, ay, _, _, _, rfl, rfl, Same.tup s1 hy, at1, _, _, _, _, rfl, i1.kp (.of s1), j1.kp (.of s1), sz.y, su.y, fun H2 v2 s2 r2 => ?_⟩
    refine ⟨by show 2 ≤ sizeLine; decide, fun p hp => hq _ _ ((s1.trans s2).trans (same_upd hp)) ⟨p, _, _, rfl, SqT.of upd_same, ?_, ?_⟩⟩
    · exact (r1.kp (.of s2)).kp (.of (same_upd hp))
    · exact r2.kp (.of (same_upd hp))
theorem sc_off : FnScope ["one", "other"] ["one", "other"] (defScope (topS 20)) := ⟨rfl, rfl, rfl, by decide +kernel, rfl, by decide +kernel, by decide +kernel⟩
theorem cal_off (D : Def K mg "off" (topS 20)) (cC : Cal P w K mg base 3 "less" ["one", "other"] (spBin K less)) : Cal P w K mg base 4 "off" ["one", "other"] (spBinA K 2500 off) := by
  obtain ⟨fC, fdC, gC, kC, bC, GC⟩ := cC
  refine D.cal sc_off (fun _ _ _ _ _ _ us hl => match us, hl with | [_, _], _ => rfl) (fun vs H Q E h => ?_) (fun f cdv A outer s H vs Q E hr h => ?_)
  · obtain ⟨x, y, p, q, rfl, _⟩ := h
    rfl
  · obtain ⟨x, y, z, u, rfl, ⟨ax, x0, x1, rfl, hx, i0, i1⟩, ⟨ay, y0, y1, rfl, hy, j0, j1⟩, sz, su, hq⟩ := h
    refine ⟨_, pss_one (ps_ret (pe_tup (pa_cons (pe_call GC hr (by rfl) gC kC bC .nil pass0 (pa_cons (pe_ix ix_tup (pv 0) pe_int (fun _ _ => rfl)) (pa_cons (pe_ix ix_tup (pv 1) pe_int (fun _ _ => rfl)) pa_nil))) (pa_cons (pe_call GC hr (by rfl) gC kC bC .nil pass0 (pa_cons (pe_ix ix_tup (pv 0) pe_int (fun _ _ => rfl)) (pa_cons (pe_ix ix_tup (pv 1) pe_int (fun _ _ => rfl)) pa_nil))) pa_nil)))), ?_⟩
    refine ⟨_, rfl, ax, _, _, _, rfl, rfl, hx, at0, _, rfl, ay, _, _, _, rfl, rfl, hy, at0, _, _, _, _, rfl, i0, j0, sz.x, su.x, fun H1 v1 s1 r1 => ?_⟩
    refine ⟨_, rfl, ax, _, _, _, rfl, rfl, Same.tup s1 hx, at1, _, rfl, ay, _, _, _, rfl, rfl, Same.tup s1 hy, at1, _, _, _, _, rfl, i1.kp (.of s1), j1.kp (.of s1), sz.y, su.y, fun H2 v2 s2 r2 => ?_⟩
    refine ⟨by show 2 ≤ sizeLine; decide, fun p hp => hq _ _ ((s1.trans s2).trans (same_upd hp)) ⟨p, _, _, rfl, SqT.of upd_same, ?_, ?_⟩⟩
    · exact (r1.kp (.of s2)).kp (.of (same_upd hp))
    · exact r2.kp (.of (same_upd hp))
theorem sc__law_off : FnScope ["_law_one", "_law_other"] ["_law_one", "_law_other"] (defScope (topS 49)) := ⟨rfl, rfl, rfl, by decide +kernel, rfl, by decide +kernel, by decide +kernel⟩
theorem cal__law_off (D : Def K mg "_law_off" (topS 49)) (cC : Cal P w K mg base 2 "_law_less" ["_law_one", "_law_other"] (spBin K less)) : Cal P w K mg base 3 "_law_off" ["_law_one", "_law_other"] (spBinA K 2500 off) := by
  obtain ⟨fC, fdC, gC, kC, bC, GC⟩ := cC
  refine D.cal sc__law_off (fun _ _ _ _ _ _ us hl => match us, hl with | [_, _], _ => rfl) (fun vs H Q E h => ?_) (fun f cdv A outer s H vs Q E hr h => ?_)
  · obtain ⟨x, y, p, q, rfl, _⟩ := h
    rfl
  · obtain ⟨x, y, z, u, rfl, ⟨ax, x0, x1, rfl, hx, i0, i1⟩, ⟨ay, y0, y1, rfl, hy, j0, j1⟩, sz, su, hq⟩ := h
    refine ⟨_, pss_one (ps_ret (pe_tup (pa_cons (pe_call GC hr (by rfl) gC kC bC .nil pass0 (pa_cons (pe_ix ix_tup (pv 0) pe_int (fun _ _ => rfl)) (pa_cons (pe_ix ix_tup (pv 1) pe_int (fun _ _ => rfl)) pa_nil))) (pa_cons (pe_call GC hr (by rfl) gC kC bC .nil pass0 (pa_cons (pe_ix ix_tup (pv 0) pe_int (fun _ _ => rfl)) (pa_cons (pe_ix ix_tup (pv 1) pe_int (fun _ _ => rfl)) pa_nil))) pa_nil)))), ?_⟩
    refine ⟨_, rfl, ax, _, _, _, rfl, rfl, hx, at0, _, rfl, ay, _, _, _, rfl, rfl, hy, at0, _, _, _, _, rfl, i0, j0, sz.x, su.x, fun H1 v1 s1 r1 => ?_⟩
    refine ⟨_, rfl, ax, _, _, _, rfl, rfl, Same.tup s1 hx, at1, _, rfl, ay, _, _, _, rfl, rfl, Same.tup s1 hy, at1, _, _, _, _, rfl, i1.kp (.of s1), j1.kp (.of s1), sz.y, su.y, fun H2 v2 s2 r2 => ?_⟩
    refine ⟨by show 2 ≤ sizeLine; decide, fun p hp => hq _ _ ((s1.trans s2).trans (same_upd hp)) ⟨p, _, _, rfl, SqT.of upd_same, ?_, ?_⟩⟩
    · exact (r1.kp (.of s2)).kp (.of (same_upd hp))
    · exact r2.kp (.of (same_upd hp))
theorem sc__law_sum : FnScope ["_law_one", "_law_other"] ["_law_one", "_law_other"] (defScope (topS 55)) := ⟨rfl, rfl, rfl, by decide +kernel, rfl, by decide +kernel, by decide +kernel⟩
theorem cal__law_sum (D : Def K mg "_law_sum" (topS 55)) (cC : Cal P w K mg base 2 "_law_plus" ["_law_one", "_law_other"] (spBin K plus)) : Cal P w K mg base 3 "_law_sum" ["_law_one", "_law_other"] (spBinA K 2500 summed) := by
  obtain ⟨fC, fdC, gC, kC, bC, GC⟩ := cC
  refine D.cal sc__law_sum (fun _ _ _ _ _ _ us hl => match us, hl with | [_, _], _ => rfl) (fun vs H Q E h => ?_) (fun f cdv A outer s H vs Q E hr h => ?_)
  · obtain ⟨x, y, p, q, rfl, _⟩ := h
    rfl
  · obtain ⟨x, y, z, u, rfl, ⟨ax, x0, x1, rfl, hx, i0, i1⟩, ⟨ay, y0, y1, rfl, hy, j0, j1⟩, sz, su, hq⟩ := h
    refine ⟨_, pss_one (ps_ret (pe_tup (pa_cons (pe_call GC hr (by rfl) gC kC bC .nil pass0 (pa_cons (pe_ix ix_tup (pv 0) pe_int (fun _ _ => rfl)) (pa_cons (pe_ix ix_tup (pv 1) pe_int (fun _ _ => rfl)) pa_nil))) (pa_cons (pe_call GC hr (by rfl) gC kC bC .nil pass0 (pa_cons (pe_ix ix_tup (pv 0) pe_int (fun _ _ => rfl)) (pa_cons (pe_ix ix_tup (pv 1) pe_int (fun _ _ => rfl)) pa_nil))) pa_nil)))), ?_⟩
    refine ⟨_, rfl, ax, _, _, _, rfl, rfl, hx, at0, _, rfl, ay, _, _, _, rfl, rfl, hy, at0, _, _, _, _, rfl, i0, j0, sz.x, su.x, fun H1 v1 s1 r1 => ?_⟩
    refine ⟨_, rfl, ax, _, _, _, rfl, rfl, Same.tup s1 hx, at1, _, rfl, ay, _, _, _, rfl, rfl, Same.tup s1 hy, at1, _, _, _, _, rfl, i1.kp (.of s1), j1.kp (.of s1), sz.y, su.y, fun H2 v2 s2 r2 => ?_⟩
    refine ⟨by show 2 ≤ sizeLine; decide, fun p hp => hq _ _ ((s1.trans s2).trans (same_upd hp)) ⟨p, _, _, rfl, SqT.of upd_same, ?_, ?_⟩⟩
    · exact (r1.kp (.of s2)).kp (.of (same_upd hp))
    · exact r2.kp (.of (same_upd hp))
end
end K14

namespace K14
open PySem PySem.Spec PyProof.Rows L2
/-- a written part, arrow of the top -/
def GPt (K : PySem.W.Frag) (mg : Str → Option Value) (x : Str) (p : Pt) : Prop := ∃ a, mg x = some (.ref a) ∧ ∀ H, IsPt K H (.ref a) p
def GAr (K : PySem.W.Frag) (mg : Str → Option Value) (x : Str) (p : Ar) : Prop := ∃ a, mg x = some (.ref a) ∧ ∀ H, IsAr K H (.ref a) p
theorem Paired.at {α β : Type} {F : α → β → Prop} : ∀ {l : List α} {r : List β} {i : Nat} {x : α} {y : β}, Paired F l r → l[i]? = some x → r[i]? = some y → F x y
  | _, _, _, _, _, .nil, e, _ => by simp at e
  | _, _, 0, _, _, .cons r _, e, e' => by
    simp at e e'
    rw [← e, ← e']
    exact r
  | _, _, i + 1, _, _, .cons _ t, e, e' => Paired.at (i := i) t (by simpa using e) (by simpa using e')
section
variable {P : Program} {w : World} {K : PySem.W.Frag} {mg : Str → Option Value} {base : Heap}

theorem sc_made : FnScope ["one", "other", "x", "y", "u", "v"] ["one", "other"] (defScope (topS 22)) := ⟨rfl, rfl, rfl, by decide +kernel, rfl, by decide +kernel, by decide +kernel⟩
theorem cal_made (D : Def K mg "made" (topS 22)) (cT : Cal P w K mg base 3 "times" ["one", "other"] (spBin K times)) (cL : Cal P w K mg base 3 "less" ["one", "other"] (spBin K less)) (cP : Cal P w K mg base 3 "plus" ["one", "other"] (spBin K plus)) : Cal P w K mg base 4 "made" ["one", "other"] (spBinA K 1200 made) := by
  obtain ⟨fT, fdT, gT, kT, bT, GT⟩ := cT
  obtain ⟨fL, fdL, gL, kL, bL, GL⟩ := cL
  obtain ⟨fP, fdP, gP, kP, bP, GP⟩ := cP
  refine D.cal sc_made (fun _ _ _ _ _ _ us hl => match us, hl with | [_, _], _ => rfl) (fun vs H Q E h => ?_) (fun f cdv A outer s H vs Q E hr h => ?_)
  · obtain ⟨x, y, p, q, rfl, _⟩ := h
    rfl
  · obtain ⟨x, y, z, u, rfl, ⟨ax, x0, x1, rfl, hx, i0, i1⟩, ⟨ay, y0, y1, rfl, hy, j0, j1⟩, sz, su, hq⟩ := h
    have nd := sc_made.nd
    refine ⟨_, pss_cons (ps_asg (pv 0) (pg_tup rfl (pgs_cons (pg_name (i := 2) nd rfl (.inl rfl)) (pgs_cons (pg_name (i := 3) nd rfl (.inl rfl)) pgs_nil))))
      (pss_cons (ps_asg (pv 1) (pg_tup rfl (pgs_cons (pg_name (i := 4) nd rfl (.inl rfl)) (pgs_cons (pg_name (i := 5) nd rfl (.inl rfl)) pgs_nil))))
      (pss_one (ps_ret (pe_tup (pa_cons (pe_call GL hr (by rfl) gL kL bL .nil pass0 (pa_cons (pe_call GT hr (by rfl) gT kT bT .nil pass0 (pa_cons (pv 2) (pa_cons (pv 4) pa_nil))) (pa_cons (pe_call GT hr (by rfl) gT kT bT .nil pass0 (pa_cons (pv 3) (pa_cons (pv 5) pa_nil))) pa_nil))) (pa_cons (pe_call GP hr (by rfl) gP kP bP .nil pass0 (pa_cons (pe_call GT hr (by rfl) gT kT bT .nil pass0 (pa_cons (pv 2) (pa_cons (pv 5) pa_nil))) (pa_cons (pe_call GT hr (by rfl) gT kT bT .nil pass0 (pa_cons (pv 3) (pa_cons (pv 4) pa_nil))) pa_nil))) pa_nil)))))), ?_⟩
    refine ⟨_, rfl, ax, _, rfl, hx, rfl, x0, _, rfl, x1, _, rfl, rfl, ?_⟩
    refine ⟨_, rfl, ay, _, rfl, hy, rfl, y0, _, rfl, y1, _, rfl, rfl, ?_⟩
    have tx := times_sz sz.x su.x
    have ty := times_sz sz.y su.y
    have txy := times_sz sz.x su.y
    have tyx := times_sz sz.y su.x
    refine ⟨_, rfl, _, rfl, _, _, _, _, rfl, i0, j0, sz.x.mono (by decide), su.x.mono (by decide), fun H1 v1 s1 r1 => ?_⟩
    refine ⟨_, rfl, _, rfl, _, _, _, _, rfl, i1.kp (.of s1), j1.kp (.of s1), sz.y.mono (by decide), su.y.mono (by decide), fun H2 v2 s2 r2 => ?_⟩
    refine ⟨_, _, _, _, rfl, r1.kp (.of s2), r2, tx.mono (by decide), ty.mono (by decide), fun H3 v3 s3 r3 => ?_⟩
    have s13 := (s1.trans s2).trans s3
    refine ⟨_, rfl, _, rfl, _, _, _, _, rfl, i0.kp (.of s13), j1.kp (.of s13), sz.x.mono (by decide), su.y.mono (by decide), fun H4 v4 s4 r4 => ?_⟩
    have s14 := s13.trans s4
    refine ⟨_, rfl, _, rfl, _, _, _, _, rfl, i1.kp (.of s14), j0.kp (.of s14), sz.y.mono (by decide), su.x.mono (by decide), fun H5 v5 s5 r5 => ?_⟩
    refine ⟨_, _, _, _, rfl, r4.kp (.of s5), r5, txy.mono (by decide), tyx.mono (by decide), fun H6 v6 s6 r6 => ?_⟩
    refine ⟨by show 2 ≤ sizeLine; decide, fun p hp => hq _ _ ((((s14.trans s5).trans s6)).trans (same_upd hp)) ⟨p, _, _, rfl, SqT.of upd_same, ?_, ?_⟩⟩
    · exact r3.kp (.of ((s4.trans (s5.trans s6)).trans (same_upd hp)))
    · exact r6.kp (.of (same_upd hp))
theorem sc__law_made : FnScope ["_law_one", "_law_other", "_law_x"] ["_law_one", "_law_other"] (defScope (topS 53)) := ⟨rfl, rfl, rfl, by decide +kernel, rfl, by decide +kernel, by decide +kernel⟩
theorem cal__law_made (D : Def K mg "_law_made" (topS 53)) (cT : Cal P w K mg base 2 "_law_by" ["_law_one", "_law_other"] (spBin K times)) (cL : Cal P w K mg base 2 "_law_less" ["_law_one", "_law_other"] (spBin K less)) (cP : Cal P w K mg base 2 "_law_plus" ["_law_one", "_law_other"] (spBin K plus)) : Cal P w K mg base 3 "_law_made" ["_law_one", "_law_other"] (spBinA K 1200 made) := by
  obtain ⟨fT, fdT, gT, kT, bT, GT⟩ := cT
  obtain ⟨fL, fdL, gL, kL, bL, GL⟩ := cL
  obtain ⟨fP, fdP, gP, kP, bP, GP⟩ := cP
  refine D.cal sc__law_made (fun _ _ _ _ _ _ us hl => match us, hl with | [_, _], _ => rfl) (fun vs H Q E h => ?_) (fun f cdv A outer s H vs Q E hr h => ?_)
  · obtain ⟨x, y, p, q, rfl, _⟩ := h
    rfl
  · obtain ⟨x, y, z, u, rfl, ⟨ax, x0, x1, rfl, hx, i0, i1⟩, ⟨ay, y0, y1, rfl, hy, j0, j1⟩, sz, su, hq⟩ := h
    have nd := sc__law_made.nd
    refine ⟨_, pss_cons (ps_set (i := 2) nd rfl (.inl rfl) (pe_call GL hr (by rfl) gL kL bL .nil pass0 (pa_cons (pe_call GT hr (by rfl) gT kT bT .nil pass0 (pa_cons (pe_ix ix_tup (pv 0) pe_int (fun _ _ => rfl)) (pa_cons (pe_ix ix_tup (pv 1) pe_int (fun _ _ => rfl)) pa_nil))) (pa_cons (pe_call GT hr (by rfl) gT kT bT .nil pass0 (pa_cons (pe_ix ix_tup (pv 0) pe_int (fun _ _ => rfl)) (pa_cons (pe_ix ix_tup (pv 1) pe_int (fun _ _ => rfl)) pa_nil))) pa_nil))))
      (pss_one (ps_ret (pe_tup (pa_cons (pv 2) (pa_cons (pe_call GP hr (by rfl) gP kP bP .nil pass0 (pa_cons (pe_call GT hr (by rfl) gT kT bT .nil pass0 (pa_cons (pe_ix ix_tup (pv 0) pe_int (fun _ _ => rfl)) (pa_cons (pe_ix ix_tup (pv 1) pe_int (fun _ _ => rfl)) pa_nil))) (pa_cons (pe_call GT hr (by rfl) gT kT bT .nil pass0 (pa_cons (pe_ix ix_tup (pv 0) pe_int (fun _ _ => rfl)) (pa_cons (pe_ix ix_tup (pv 1) pe_int (fun _ _ => rfl)) pa_nil))) pa_nil))) pa_nil))))), ?_⟩
    have tx := times_sz sz.x su.x
    have ty := times_sz sz.y su.y
    have txy := times_sz sz.x su.y
    have tyx := times_sz sz.y su.x
    refine ⟨_, rfl, ax, _, _, _, rfl, rfl, hx, at0, _, rfl, ay, _, _, _, rfl, rfl, hy, at0, _, _, _, _, rfl, i0, j0, sz.x.mono (by decide), su.x.mono (by decide), fun H1 v1 s1 r1 => ?_⟩
    refine ⟨_, rfl, ax, _, _, _, rfl, rfl, Same.tup s1 hx, at1, _, rfl, ay, _, _, _, rfl, rfl, Same.tup s1 hy, at1, _, _, _, _, rfl, i1.kp (.of s1), j1.kp (.of s1), sz.y.mono (by decide), su.y.mono (by decide), fun H2 v2 s2 r2 => ?_⟩
    refine ⟨_, _, _, _, rfl, r1.kp (.of s2), r2, tx.mono (by decide), ty.mono (by decide), fun H3 v3 s3 r3 => ?_⟩
    have s13 := (s1.trans s2).trans s3
    refine ⟨_, rfl, ?_⟩
    refine ⟨_, rfl, ax, _, _, _, rfl, rfl, Same.tup s13 hx, at0, _, rfl, ay, _, _, _, rfl, rfl, Same.tup s13 hy, at1, _, _, _, _, rfl, i0.kp (.of s13), j1.kp (.of s13), sz.x.mono (by decide), su.y.mono (by decide), fun H4 v4 s4 r4 => ?_⟩
    have s14 := s13.trans s4
    refine ⟨_, rfl, ax, _, _, _, rfl, rfl, Same.tup s14 hx, at1, _, rfl, ay, _, _, _, rfl, rfl, Same.tup s14 hy, at0, _, _, _, _, rfl, i1.kp (.of s14), j0.kp (.of s14), sz.y.mono (by decide), su.x.mono (by decide), fun H5 v5 s5 r5 => ?_⟩
    refine ⟨_, _, _, _, rfl, r4.kp (.of s5), r5, txy.mono (by decide), tyx.mono (by decide), fun H6 v6 s6 r6 => ?_⟩
    refine ⟨by show 2 ≤ sizeLine; decide, fun p hp => hq _ _ ((((s14.trans s5).trans s6)).trans (same_upd hp)) ⟨p, _, _, rfl, SqT.of upd_same, ?_, ?_⟩⟩
    · exact r3.kp (.of ((s4.trans (s5.trans s6)).trans (same_upd hp)))
    · exact r6.kp (.of (same_upd hp))
theorem sc_mate : FnScope ["one"] ["one"] (defScope (topS 21)) := ⟨rfl, rfl, rfl, by decide +kernel, rfl, by decide +kernel, by decide +kernel⟩
theorem zero_sz : Sz 2500 (0, 1) := ⟨by decide, Nat.two_pow_pos _, Nat.one_lt_two_pow (by decide)⟩
theorem cal_mate (D : Def K mg "mate" (topS 21)) (hZ : GPt K mg "ZERO" (0, 1)) (cL : Cal P w K mg base 3 "less" ["one", "other"] (spBin K less)) : Cal P w K mg base 4 "mate" ["one"] (spMate K) := by
  obtain ⟨aZ, mZ, iZ⟩ := hZ
  obtain ⟨fL, fdL, gL, kL, bL, GL⟩ := cL
  refine D.cal sc_mate (fun _ _ _ _ _ _ us hl => match us, hl with | [_], _ => rfl) (fun vs H Q E h => ?_) (fun f cdv A outer s H vs Q E hr h => ?_)
  · obtain ⟨x, z, rfl, _⟩ := h
    rfl
  · obtain ⟨x, z, rfl, ⟨ax, x0, x1, rfl, hx, i0, i1⟩, sz, cz, hq⟩ := h
    refine ⟨_, pss_one (ps_ret (pe_tup (pa_cons (pe_ix ix_tup (pv 0) pe_int (fun _ _ => rfl)) (pa_cons (pe_call GL hr (by rfl) gL kL bL .nil pass0 (pa_cons (pe_glob (v := .ref aZ) (by rfl) mZ rfl) (pa_cons (pe_ix ix_tup (pv 0) pe_int (fun _ _ => rfl)) pa_nil))) pa_nil)))), ?_⟩
    refine ⟨_, rfl, ax, _, _, _, rfl, rfl, hx, at0, ?_⟩
    refine ⟨_, rfl, ax, _, _, _, rfl, rfl, hx, at1, _, _, _, _, rfl, iZ _, i1, zero_sz, sz.y, fun H1 v1 s1 r1 => ?_⟩
    refine ⟨by show 2 ≤ sizeLine; decide, fun p hp => hq _ _ (s1.trans (same_upd hp)) ⟨p, _, _, rfl, SqT.of upd_same, ?_, ?_⟩⟩
    · exact i0.kp (.of (s1.trans (same_upd hp)))
    · rw [less_zero sz.y.pos cz] at r1
      exact r1.kp (.of (same_upd hp))
theorem sc__law_mate : FnScope ["_law_one"] ["_law_one"] (defScope (topS 54)) := ⟨rfl, rfl, rfl, by decide +kernel, rfl, by decide +kernel, by decide +kernel⟩
theorem cal__law_mate (D : Def K mg "_law_mate" (topS 54)) : Cal P w K mg base 1 "_law_mate" ["_law_one"] (spMate K) := by
  refine D.cal sc__law_mate (fun _ _ _ _ _ _ us hl => match us, hl with | [_], _ => rfl) (fun vs H Q E h => ?_) (fun f cdv A outer s H vs Q E hr h => ?_)
  · obtain ⟨x, z, rfl, _⟩ := h
    rfl
  · obtain ⟨x, z, rfl, ⟨ax, x0, x1, rfl, hx, i0, ⟨a1, rfl, i1⟩⟩, sz, cz, hq⟩ := h
    refine ⟨_, pss_one (ps_ret (pe_tup (pa_cons (pe_ix ix_tup (pv 0) pe_int (fun _ _ => rfl)) (pa_cons (pe_tup (pa_cons (pe_op op_sub pe_int (pe_ix ix_tup (pe_ix ix_tup (pv 0) pe_int (fun _ _ => rfl)) pe_int (fun _ _ => rfl))) (pa_cons (pe_ix ix_tup (pe_ix ix_tup (pv 0) pe_int (fun _ _ => rfl)) pe_int (fun _ _ => rfl)) pa_nil))) pa_nil)))), ?_⟩
    refine ⟨_, rfl, ax, _, _, _, rfl, rfl, hx, at0, ?_⟩
    refine ⟨_, rfl, ax, _, _, _, rfl, rfl, hx, at1, a1, _, _, _, rfl, rfl, i1, at0, _, _, rfl, rfl, ?_⟩
    refine ⟨_, rfl, ax, _, _, _, rfl, rfl, hx, at1, a1, _, _, _, rfl, rfl, i1, at1, ?_⟩
    refine ⟨by show 2 ≤ sizeLine; decide, fun p hp => ?_⟩
    refine ⟨by show 2 ≤ sizeLine; decide, fun r hr => hq _ _ ((same_upd hp).trans (same_upd hr)) ⟨r, _, _, rfl, SqT.of upd_same, ?_, ?_⟩⟩
    · exact i0.kp (.of ((same_upd hp).trans (same_upd hr)))
    · exact ⟨p, rfl, Same.tup (same_upd hr) (SqT.of upd_same)⟩
theorem sc_entry : FnScope ["row", "at"] ["row", "at"] (defScope (topS 25)) := ⟨rfl, rfl, rfl, by decide +kernel, rfl, by decide +kernel, by decide +kernel⟩
theorem cal_entry (D : Def K mg "entry" (topS 25)) (mLen : mg "len" = none) (hO : GAr K mg "ORIGIN" zer) : Cal P w K mg base 1 "entry" ["row", "at"] (spEntry K) := by
  obtain ⟨aO, mO, iO⟩ := hO
  refine D.cal sc_entry (fun _ _ _ _ _ _ us hl => match us, hl with | [_, _], _ => rfl) (fun vs H Q E h => ?_) (fun f cdv A outer s H vs Q E hr h => ?_)
  · obtain ⟨a, i, zs, rfl, _⟩ := h
    rfl
  · obtain ⟨a, i, zs, rfl, ⟨us, ha, hp⟩, hq⟩ := h
    have hl : us.length = zs.length := hp.length
    refine ⟨_, pss_one (ps_ret (pe_ifExp (pt_chain op_le op_lt pe_int (pv 1) (pe_callB call_len_seq (by rfl) mLen PySem.boot_len (pa_cons (pv 0) pa_nil)))
      (pe_ix ix_list (pv 0) (pv 1) (fun _ _ => rfl)) (pe_glob (v := .ref aO) (by rfl) mO rfl))), ?_⟩
    have out : ¬ (0 ≤ i ∧ i < (zs.length : Int)) → entry zs i = zer := fun z => by
      unfold entry
      rw [if_neg z]
    refine ⟨_, rfl, _, _, rfl, rfl, _, rfl, ite2 (fun e => ?_) (fun e => ?_)⟩
    · have h0 : 0 ≤ i := of_decide_eq_true e
      refine ⟨_, rfl, a, us, rfl, .inl ha, _, _, rfl, rfl, _, rfl, ite2 (fun e1 => ?_) (fun e1 => ?_)⟩
      · have h1 : i < (us.length : Int) := of_decide_eq_true e1
        have hn : i.toNat < us.length := by omega
        have g1 : us[i.toNat]? = some us[i.toNat] := List.getElem?_eq_getElem hn
        have g2 : zs[i.toNat]? = some (entry zs i) := by
          unfold entry
          rw [if_pos ⟨h0, by omega⟩, List.getD_eq_getElem?_getD, List.getElem?_eq_getElem (by omega)]
          rfl
        refine ⟨_, rfl, _, rfl, a, us, i, _, rfl, rfl, ha, at_of (j := i.toNat) (by omega) g1, hq _ _ (Same.refl _) (Paired.at hp g1 g2)⟩
      · have h1 : ¬ i < (us.length : Int) := fun z => e1 (decide_eq_true z)
        rw [out (by omega)] at hq
        exact hq _ _ (Same.refl _) (iO _)
    · have h0 : ¬ 0 ≤ i := fun z => e (decide_eq_true z)
      rw [out (by omega)] at hq
      refine ⟨_, rfl, iteF ?_⟩
      exact hq _ _ (Same.refl _) (iO _)
/-- ((0, 1), (0, 1)), written -/
theorem zer_read {H : Hp} {Q : VK} {σ : L2.St} (hq : ∀ H' v, Same H H' → IsAr K H' v zer → Q v H') : tTup (tCons (tTup (tCons (tC (.int 0)) (tCons (tC (.int 1)) tNil))) (tCons (tTup (tCons (tC (.int 0)) (tCons (tC (.int 1)) tNil))) tNil)) σ H Q := by
  refine ⟨by show 2 ≤ sizeLine; decide, fun p hp => ?_⟩
  refine ⟨by show 2 ≤ sizeLine; decide, fun r hr => ?_⟩
  refine ⟨by show 2 ≤ sizeLine; decide, fun t ht => hq _ _ (((same_upd hp).trans (same_upd hr)).trans (same_upd ht)) ⟨t, _, _, rfl, SqT.of upd_same, ?_, ?_⟩⟩
  · exact ⟨p, rfl, Same.tup ((same_upd hr).trans (same_upd ht)) (SqT.of upd_same)⟩
  · exact ⟨r, rfl, Same.tup (same_upd ht) (SqT.of upd_same)⟩
theorem sc__law_at : FnScope ["_law_row", "_law_spot_here"] ["_law_row", "_law_spot_here"] (defScope (topS 50)) := ⟨rfl, rfl, rfl, by decide +kernel, rfl, by decide +kernel, by decide +kernel⟩
theorem cal__law_at (D : Def K mg "_law_at" (topS 50)) (mLen : mg "len" = none) : Cal P w K mg base 1 "_law_at" ["_law_row", "_law_spot_here"] (spEntry K) := by
  refine D.cal sc__law_at (fun _ _ _ _ _ _ us hl => match us, hl with | [_, _], _ => rfl) (fun vs H Q E h => ?_) (fun f cdv A outer s H vs Q E hr h => ?_)
  · obtain ⟨a, i, zs, rfl, _⟩ := h
    rfl
  · obtain ⟨a, i, zs, rfl, ⟨us, ha, hp⟩, hq⟩ := h
    have hl : us.length = zs.length := hp.length
    refine ⟨_, pss_one (ps_ret (pe_ifExp (pt_chain op_le op_lt pe_int (pv 1) (pe_callB call_len_seq (by rfl) mLen PySem.boot_len (pa_cons (pv 0) pa_nil)))
      (pe_ix ix_list (pv 0) (pv 1) (fun _ _ => rfl)) (pe_tup (pa_cons (pe_tup (pa_cons pe_int (pa_cons pe_int pa_nil))) (pa_cons (pe_tup (pa_cons pe_int (pa_cons pe_int pa_nil))) pa_nil))))), ?_⟩
    have out : ¬ (0 ≤ i ∧ i < (zs.length : Int)) → entry zs i = zer := fun z => by
      unfold entry
      rw [if_neg z]
    refine ⟨_, rfl, _, _, rfl, rfl, _, rfl, ite2 (fun e => ?_) (fun e => ?_)⟩
    · have h0 : 0 ≤ i := of_decide_eq_true e
      refine ⟨_, rfl, a, us, rfl, .inl ha, _, _, rfl, rfl, _, rfl, ite2 (fun e1 => ?_) (fun e1 => ?_)⟩
      · have h1 : i < (us.length : Int) := of_decide_eq_true e1
        have hn : i.toNat < us.length := by omega
        have g1 : us[i.toNat]? = some us[i.toNat] := List.getElem?_eq_getElem hn
        have g2 : zs[i.toNat]? = some (entry zs i) := by
          unfold entry
          rw [if_pos ⟨h0, by omega⟩, List.getD_eq_getElem?_getD, List.getElem?_eq_getElem (by omega)]
          rfl
        refine ⟨_, rfl, _, rfl, a, us, i, _, rfl, rfl, ha, at_of (j := i.toNat) (by omega) g1, hq _ _ (Same.refl _) (Paired.at hp g1 g2)⟩
      · have h1 : ¬ i < (us.length : Int) := fun z => e1 (decide_eq_true z)
        rw [out (by omega)] at hq
        exact zer_read hq
    · have h0 : ¬ 0 ≤ i := fun z => e (decide_eq_true z)
      rw [out (by omega)] at hq
      refine ⟨_, rfl, iteF ?_⟩
      exact zer_read hq
end
end K14

namespace K14
open PySem PySem.Spec PyProof.Rows L2
/-! ### a list that a comprehension makes -/
theorem Kp.updL {K : PySem.W.Frag} {H : Hp} {D : Addr} {xs : List V} {o : HO} (h : H D = some (.lst xs)) : Kp K H (upd H D o) :=
  kp_but (bx := D) (fun b u n e => by rw [upd_ne n]; exact e) h
theorem same_updN {H0 H : Hp} {D : Addr} {o : HO} (s : Same H0 H) (n : H0 D = none) : Same H0 (upd H D o) := fun b u e => by
  rw [upd_ne (ne_of_none e n)]
  exact s b u e
/-- so far it holds the values f 0 .. f (i - 1), told by F -/
def Lc {α : Type} (F : Hp → V → α → Prop) (H0 : Hp) (D : Addr) (f : Nat → α) (i : Nat) (H : Hp) : Prop := ∃ acc, Same H0 H ∧ H D = some (.lst acc) ∧ Paired (F H) acc ((List.range i).map f)
theorem Lc.start {α : Type} {F : Hp → V → α → Prop} {H0 : Hp} {D : Addr} {f : Nat → α} (n : H0 D = none) : Lc F H0 D f 0 (upd H0 D (.lst [])) := ⟨[], same_upd n, upd_same, .nil⟩
theorem Paired.app {α β : Type} {F : α → β → Prop} : ∀ {l : List α} {r : List β} {x : α} {y : β}, Paired F l r → F x y → Paired F (l ++ [x]) (r ++ [y])
  | _, _, _, _, .nil, h => .cons h .nil
  | _, _, _, _, .cons q t, h => .cons q (Paired.app t h)
theorem Lc.step {α : Type} {F : Hp → V → α → Prop} {K : PySem.W.Frag} (kp : ∀ {H H' : Hp} {v : V} {z : α}, Kp K H H' → F H v z → F H' v z) {H0 H1 H5 : Hp} {D : Addr} {f : Nat → α} {i : Nat} {v : V} (h : Lc F H0 D f i H1) (n : H0 D = none) (s : Same H1 H5) (r : F H5 v (f i)) (hi : i < 1000) :
    ∃ acc, H5 D = some (.lst acc) ∧ acc.length < sizeLine ∧ Lc F H0 D f (i + 1) (upd H5 D (.lst (acc ++ [v]))) := by
  obtain ⟨acc, s0, e, p⟩ := h
  have e5 := s _ _ e
  have hl := p.length
  rw [List.length_map, List.length_range] at hl
  refine ⟨acc, e5, small1000 (by omega), acc ++ [v], same_updN (s0.trans s) n, upd_same, ?_⟩
  rw [List.range_succ, List.map_append]
  exact Paired.app (Paired.mapP p fun _ _ q => kp (Kp.updL (o := .lst (acc ++ [v])) e5) (kp (Kp.of s) q)) (kp (Kp.updL e5) r)
/-! ### rods and wholes -/
def IsRod (K : PySem.W.Frag) (H : Hp) (v : V) (r : Str × Ar) : Prop := ∃ a x, v = .ref a ∧ SqT K H a [.str r.1, x] ∧ IsAr K H x r.2
theorem IsRod.kp {K : PySem.W.Frag} {H H' : Hp} {v : V} {r : Str × Ar} (e : Kp K H H') (h : IsRod K H v r) : IsRod K H' v r := let ⟨a, x, h1, h2, h3⟩ := h; ⟨a, x, h1, e _ _ h2, h3.kp e⟩
/-- the two lists, made behind H0 -/
def Ws (K : PySem.W.Frag) (H0 H : Hp) (pa qa : Addr) (w : List Ar × List Ar) : Prop := ∃ us vs, H pa = some (.lst us) ∧ H qa = some (.lst vs) ∧ pa ≠ qa ∧ H0 pa = none ∧ H0 qa = none ∧ Paired (IsAr K H) us w.1 ∧ Paired (IsAr K H) vs w.2
theorem Ws.same {K : PySem.W.Frag} {H0 H H' : Hp} {pa qa : Addr} {w : List Ar × List Ar} (s : Same H H') (h : Ws K H0 H pa qa w) : Ws K H0 H' pa qa w := by
  obtain ⟨us, vs, h1, h2, h3, h4, h5, h6, h7⟩ := h
  exact ⟨us, vs, s _ _ h1, s _ _ h2, h3, h4, h5, Paired.mapP h6 fun _ _ q => q.kp (Kp.of s), Paired.mapP h7 fun _ _ q => q.kp (Kp.of s)⟩
theorem Ws.back {K : PySem.W.Frag} {H00 H0 H : Hp} {pa qa : Addr} {w : List Ar × List Ar} (s : Same H00 H0) (h : Ws K H0 H pa qa w) : Ws K H00 H pa qa w := by
  obtain ⟨us, vs, h1, h2, h3, h4, h5, h6, h7⟩ := h
  exact ⟨us, vs, h1, h2, h3, s.free h4, s.free h5, h6, h7⟩
theorem Ws.p {K : PySem.W.Frag} {H0 H : Hp} {pa qa : Addr} {w : List Ar × List Ar} (h : Ws K H0 H pa qa w) : Ars K H pa w.1 := let ⟨us, vs, h1, h2, h3, h4, h5, h6, h7⟩ := h; ⟨us, SqL.of h1, h6⟩
theorem Ws.q {K : PySem.W.Frag} {H0 H : Hp} {pa qa : Addr} {w : List Ar × List Ar} (h : Ws K H0 H pa qa w) : Ars K H qa w.2 := let ⟨us, vs, h1, h2, h3, h4, h5, h6, h7⟩ := h; ⟨vs, SqL.of h2, h7⟩
def Whl (K : PySem.W.Frag) (H0 H : Hp) (t : Addr) (w : List Ar × List Ar) : Prop := ∃ pa qa, SqT K H t [.ref pa, .ref qa] ∧ Ws K H0 H pa qa w
def spGrown (K : PySem.W.Frag) : Sp := fun vs H Q _ => ∃ (t pa qa : Addr) (zv : V) (w : List Ar × List Ar) (z : Ar), vs = [.ref t, zv] ∧ SqT K H t [.ref pa, .ref qa] ∧ Ars K H pa w.1 ∧ Ars K H qa w.2 ∧ IsAr K H zv z ∧ StepSz w.1 w.2 z ∧ Int.gcd z.2.1 z.2.2 = 1 ∧
  w.1.length ≤ 100 ∧ w.2.length ≤ 100 ∧ ∀ H' t', Same H H' → Whl K H H' t' (grown w z) → Q (.ref t') H'
def spWhole (K : PySem.W.Frag) : Sp := fun vs H Q _ => ∃ (a : Addr) (us : List V) (rs : List (Str × Ar)), vs = [.ref a] ∧ SqL K H a us ∧ Paired (IsRod K H) us rs ∧ rs.length ≤ 8 ∧ (∀ r ∈ rs, ArOk r.2) ∧
  ∀ H' t, Same H H' → Whl K H H' t (whole (rs.map (·.2))) → Q (.ref t) H'
theorem ArOk.cop {z : Ar} (h : ArOk z) : Int.gcd z.2.1 z.2.2 = 1 := h.2.2.1
section
variable {P : Program} {w : World} {K : PySem.W.Frag} {mg : Str → Option Value} {base : Heap}

theorem sc_grown_by : FnScope ["whole", "z", "p", "q", "low", "high", "at"] ["whole", "z"] (defScope (topS 26)) := ⟨rfl, rfl, rfl, by decide +kernel, rfl, by decide +kernel, by decide +kernel⟩
theorem cal_grown_by (D : Def K mg "grown_by" (topS 26)) (mLen : mg "len" = none) (mRange : mg "range" = none) (cO : Cal P w K mg base 4 "off" ["one", "other"] (spBinA K 2500 off)) (cS : Cal P w K mg base 4 "summed" ["one", "other"] (spBinA K 2500 summed)) (cM : Cal P w K mg base 4 "made" ["one", "other"] (spBinA K 1200 made)) (cA : Cal P w K mg base 4 "mate" ["one"] (spMate K)) (cE : Cal P w K mg base 4 "entry" ["row", "at"] (spEntry K)) : Cal P w K mg base 5 "grown_by" ["whole", "z"] (spGrown K) := by
  obtain ⟨fO, fdO, gO, kO, bO, GO⟩ := cO
  obtain ⟨fS, fdS, gS, kS, bS, GS⟩ := cS
  obtain ⟨fM, fdM, gM, kM, bM, GM⟩ := cM
  obtain ⟨fA, fdA, gA, kA, bA, GA⟩ := cA
  obtain ⟨fE, fdE, gE, kE, bE, GE⟩ := cE
  refine D.cal sc_grown_by (fun _ _ _ _ _ _ us hl => match us, hl with | [_, _], _ => rfl) (fun vs H Q E h => ?_) (fun f cdv A outer s H vs Q E hr h => ?_)
  · obtain ⟨t, pa, qa, zv, w, z, rfl, _⟩ := h
    rfl
  · obtain ⟨t, pa, qa, zv, w, z, rfl, ht, hp, hq, hz, st, cz, l1, l2, k⟩ := h
    obtain ⟨us, hpl, hpp⟩ := id hp
    obtain ⟨vs, hql, hqq⟩ := id hq
    have e1 : us.length = w.1.length := hpp.length
    have e2 : vs.length = w.2.length := hqq.length
    have nd := sc_grown_by.nd
    refine ⟨_, pss_cons (ps_asg (pv 0) (pg_tup rfl (pgs_cons (pg_name (i := 2) nd rfl (.inr rfl)) (pgs_cons (pg_name (i := 3) nd rfl (.inr rfl)) pgs_nil))))
      (pss_cons (ps_setLc (i := 4) (own := [("at", 6)]) (g := gName 6) (tt := tYes) rfl nd rfl rfl (sw_true rfl rfl rfl (by decide +kernel)) (pi_range1 (by rfl) mRange (pa_cons (pe_op op_add (pe_callB call_len_seq (by rfl) mLen PySem.boot_len (pa_cons (pv 2) pa_nil)) pe_int) pa_nil)) (blkOk_by (N := ["whole", "z", "p", "q", "low", "high", "at"]) (sc := defScope (topS 26)) (by decide +kernel)) (fun _ _ _ _ _ => pg_name (i := 6) nd rfl (Or.inl rfl)) (fun _ _ _ _ _ => pts_nil) (fun _ _ _ _ _ => (pe_call GO hr (by rfl) gO kO bO .nil pass0 (pa_cons (pe_call GE hr (by rfl) gE kE bE .nil pass0 (pa_cons (pv 2) (pa_cons (pe_op op_sub (pv 6) pe_int) pa_nil))) (pa_cons (pe_call GM hr (by rfl) gM kM bM .nil pass0 (pa_cons (pe_call GE hr (by rfl) gE kE bE .nil pass0 (pa_cons (pv 3) (pa_cons (pv 6) pa_nil))) (pa_cons (pe_call GA hr (by rfl) gA kA bA .nil pass0 (pa_cons (pv 1) pa_nil)) pa_nil))) pa_nil)))))
      (pss_cons (ps_setLc (i := 5) (own := [("at", 6)]) (g := gName 6) (tt := tYes) rfl nd rfl rfl (sw_true rfl rfl rfl (by decide +kernel)) (pi_range1 (by rfl) mRange (pa_cons (pe_op op_add (pe_callB call_len_seq (by rfl) mLen PySem.boot_len (pa_cons (pv 3) pa_nil)) pe_int) pa_nil)) (blkOk_by (N := ["whole", "z", "p", "q", "low", "high", "at"]) (sc := defScope (topS 26)) (by decide +kernel)) (fun _ _ _ _ _ => pg_name (i := 6) nd rfl (Or.inl rfl)) (fun _ _ _ _ _ => pts_nil) (fun _ _ _ _ _ => (pe_call GS hr (by rfl) gS kS bS .nil pass0 (pa_cons (pe_call GM hr (by rfl) gM kM bM .nil pass0 (pa_cons (pe_call GE hr (by rfl) gE kE bE .nil pass0 (pa_cons (pv 2) (pa_cons (pv 6) pa_nil))) (pa_cons (pv 1) pa_nil))) (pa_cons (pe_call GE hr (by rfl) gE kE bE .nil pass0 (pa_cons (pv 3) (pa_cons (pe_op op_sub (pv 6) pe_int) pa_nil))) pa_nil)))))
      (pss_one (ps_ret (pe_tup (pa_cons (pv 4) (pa_cons (pv 5) pa_nil))))))), ?_⟩
    refine ⟨_, rfl, t, _, rfl, ht, rfl, _, _, rfl, _, _, rfl, rfl, ?_⟩
    -- low
    refine ⟨_, rfl, pa, us, rfl, .inl hpl, _, _, rfl, rfl, _, rfl, by omega, by omega, fun D1 n1 => lc_range (lo := 0) (n := ((us.length : Int) + 1).toNat) (Lc (IsAr K) H D1 (lowAt w.1 w.2 z)) (Lc.start n1) ?_ ?_⟩
    · intro i H1 hi h1
      obtain ⟨acc, s0, _⟩ := id h1
      refine ⟨rfl, ?_⟩
      refine ⟨_, rfl, _, rfl, _, _, rfl, rfl, pa, _, w.1, rfl, hp.same s0, fun H2 v2 s2 r2 => ?_⟩
      refine ⟨_, rfl, _, rfl, qa, _, w.2, rfl, hq.same (s0.trans s2), fun H3 v3 s3 r3 => ?_⟩
      rw [Int.zero_add] at r2 r3
      refine ⟨_, rfl, _, z, rfl, hz.kp (.of ((s0.trans s2).trans s3)), st.sz.mono (by decide), cz, fun H4 v4 s4 r4 => ?_⟩
      refine ⟨_, _, _, _, rfl, r3.kp (.of s4), r4, (st.sq _).mono (by decide), (mate_sz st.sz).mono (by decide), fun H5 v5 s5 r5 => ?_⟩
      refine ⟨_, _, _, _, rfl, r2.kp (.of ((s3.trans s4).trans s5)), r5, (st.sp _).mono (by decide), (st.low i).mono (by decide), fun H6 v6 s6 r6 => ?_⟩
      exact Lc.step (F := IsAr K) (f := lowAt w.1 w.2 z) IsAr.kp h1 n1 ((((s2.trans s3).trans s4).trans s5).trans s6) r6 (show i < 1000 by omega)
    · intro H1 h1
      rw [show ((us.length : Int) + 1).toNat = w.1.length + 1 by omega] at h1
      obtain ⟨acc1, s1, g1, p1⟩ := h1
      -- high
      refine ⟨_, rfl, qa, vs, rfl, .inl (s1.seq hql), _, _, rfl, rfl, _, rfl, by omega, by omega, fun D2 n2 => lc_range (lo := 0) (n := ((vs.length : Int) + 1).toNat) (Lc (IsAr K) H1 D2 (highAt w.1 w.2 z)) (Lc.start n2) ?_ ?_⟩
      · intro i H2 hi h2
        obtain ⟨acc, s0, _⟩ := id h2
        have s0' := s1.trans s0
        refine ⟨rfl, ?_⟩
        refine ⟨_, rfl, _, rfl, pa, _, w.1, rfl, hp.same s0', fun H3 v3 s3 r3 => ?_⟩
        refine ⟨_, rfl, _, _, _, _, rfl, r3, hz.kp (.of (s0'.trans s3)), (st.sp _).mono (by decide), st.sz.mono (by decide), fun H4 v4 s4 r4 => ?_⟩
        refine ⟨_, rfl, _, rfl, _, _, rfl, rfl, qa, _, w.2, rfl, hq.same ((s0'.trans s3).trans s4), fun H5 v5 s5 r5 => ?_⟩
        rw [Int.zero_add] at r4 r5
        refine ⟨_, _, _, _, rfl, r4.kp (.of s5), r5, (st.high i).mono (by decide), (st.sq _).mono (by decide), fun H6 v6 s6 r6 => ?_⟩
        exact Lc.step (F := IsAr K) (f := highAt w.1 w.2 z) IsAr.kp h2 n2 (((s3.trans s4).trans s5).trans s6) r6 (show i < 1000 by omega)
      · intro H2 h2
        rw [show ((vs.length : Int) + 1).toNat = w.2.length + 1 by omega] at h2
        obtain ⟨acc2, s2, g2, p2⟩ := h2
        refine ⟨_, rfl, _, rfl, by show 2 ≤ sizeLine; decide, fun r hr => ?_⟩
        have s3 := same_upd (H := H2) (o := .tup [.ref D1, .ref D2]) hr
        refine k _ r ((s1.trans s2).trans s3) ⟨D1, D2, SqT.of upd_same, acc1, acc2, s3 _ _ (s2 _ _ g1), s3 _ _ g2, ne_of_none g1 n2, n1, s1.free n2, ?_, ?_⟩
        · exact Paired.mapP p1 fun _ _ q => q.kp (.of (s2.trans s3))
        · exact Paired.mapP p2 fun _ _ q => q.kp (.of s3)
theorem sc_whole_of : FnScope ["rods", "found", "name", "arrow"] ["rods"] (defScope (topS 27)) := ⟨rfl, rfl, rfl, by decide +kernel, rfl, by decide +kernel, by decide +kernel⟩
theorem cal_whole_of (D : Def K mg "whole_of" (topS 27)) (hL : GAr K mg "LONE" lone) (cG : Cal P w K mg base 5 "grown_by" ["whole", "z"] (spGrown K)) : Cal P w K mg base 6 "whole_of" ["rods"] (spWhole K) := by
  obtain ⟨aL, mL, iL⟩ := hL
  obtain ⟨fG, fdG, gG, kG, bG, GG⟩ := cG
  refine D.cal sc_whole_of (fun _ _ _ _ _ _ us hl => match us, hl with | [_], _ => rfl) (fun vs H Q E h => ?_) (fun f cdv A outer s H vs Q E hr h => ?_)
  · obtain ⟨a, us, rs, rfl, _⟩ := h
    rfl
  · obtain ⟨a, us, rs, rfl, ha, hp, l8, ok, k⟩ := h
    have hl : us.length = rs.length := hp.length
    have nd := sc_whole_of.nd
    refine ⟨_, pss_cons (ps_set (i := 1) nd rfl (.inl rfl) (pe_tup (pa_cons (pe_lst (pa_cons (pe_glob (v := .ref aL) (by rfl) mL rfl) pa_nil)) (pa_cons (pe_lst pa_nil) pa_nil))))
      (pss_cons (ps_for PassesOwn.never rfl (pi_list (pv 0)) (pg_tup rfl (pgs_cons (pg_name (i := 2) nd rfl (.inl rfl)) (pgs_cons (pg_name (i := 3) nd rfl (.inl rfl)) pgs_nil)))
        (pss_one (ps_set (i := 1) nd rfl (.inl rfl) (pe_call GG hr (by rfl) gG kG bG .nil pass0 (pa_cons (pv 1) (pa_cons (pv 3) pa_nil))))))
      (pss_one (ps_ret (pv 1)))), ?_⟩
    refine ⟨by show 1 ≤ sizeLine; decide, fun p np => ?_⟩
    refine ⟨Nat.zero_le _, fun q nq => ?_⟩
    refine ⟨by show 2 ≤ sizeLine; decide, fun t nt => ?_⟩
    have s1 : Same H (upd H p (.lst [.ref aL])) := same_upd np
    have s2 : Same (upd H p (.lst [.ref aL])) (upd (upd H p (.lst [.ref aL])) q (.lst [])) := same_upd nq
    have s3 := same_upd (H := (upd (upd H p (.lst [.ref aL])) q (.lst []))) (o := .tup [.ref p, .ref q]) nt
    refine ⟨_, rfl, a, rfl, ⟨_, ((s1.trans s2).trans s3).seq ha⟩, for_list (K := K) (a := a) (xs := us) (fun i σ H2 => ∃ t y2 y3, σ = [some (.ref a), some (.ref t), y2, y3] ∧ Same H H2 ∧ Whl K H H2 t (whole ((rs.take i).map (·.2))))
      ⟨t, none, none, rfl, (s1.trans s2).trans s3, p, q, SqT.of upd_same, [.ref aL], [], s3 _ _ (s2 _ _ upd_same), s3 _ _ upd_same, ne_of_none upd_same nq, np, s1.free nq, .cons (iL _) .nil, .nil⟩
      (fun i σ H2 _ ⟨_, _, _, _, s, _⟩ => s.seq ha) ?_ ?_⟩
    · rintro i x σ H2 hx ⟨t2, y2, y3, rfl, s4, pa, qa, ht, hw⟩
      have hi : i < us.length := (List.getElem?_eq_some_iff.mp hx).1
      have hr' : rs[i]? = some rs[i] := List.getElem?_eq_getElem (by omega)
      obtain ⟨ax, zv, rfl, hx2, hz⟩ := (Paired.at hp hx hr').kp (K := K) (Kp.of s4)
      have oki : ArOk rs[i].2 := ok _ (List.getElem_mem _)
      have wok := whole_ok ((rs.take i).map (·.2)) (fun z hz => by
        obtain ⟨r, hr, rfl⟩ := List.mem_map.mp hz
        exact ok r (List.mem_of_mem_take hr))
      have len : ((rs.take i).map (·.2)).length = i := by
        rw [List.length_map, List.length_take]
        omega
      rw [len] at wok
      refine ⟨ax, _, rfl, hx2, rfl, _, _, rfl, _, _, rfl, rfl, ?_⟩
      refine ⟨_, rfl, _, rfl, t2, pa, qa, zv, _, _, rfl, ht, hw.p, hw.q, hz, wok.sz oki (by omega), oki.cop, ?_, ?_, fun H3 t3 s5 hw3 => ?_⟩
      · rw [whole_len1, len]; omega
      · rw [whole_len2, len]; omega
      · obtain ⟨pa3, qa3, ht3, hw3⟩ := hw3
        refine ⟨t3, _, _, rfl, s4.trans s5, pa3, qa3, ht3, ?_⟩
        have e : whole ((rs.take (i + 1)).map (·.2)) = grown (whole ((rs.take i).map (·.2))) rs[i].2 := by
          rw [List.take_add_one, hr', List.map_append]
          exact whole_snoc _ _
        rw [e]
        exact hw3.back s4
    · rintro σ H2 ⟨t2, y2, y3, rfl, s4, hw⟩
      refine ⟨_, rfl, k _ _ s4 ?_⟩
      rw [List.take_of_length_le (by omega)] at hw
      exact hw
end
end K14

namespace K14
open PySem PySem.Spec PyProof.Rows L2
section
variable {P : Program} {w : World} {K : PySem.W.Frag} {mg : Str → Option Value} {base : Heap}
theorem Ars.at {H : Hp} {us : List V} {zs : List Ar} {i : Nat} (h : Paired (IsAr K H) us zs) (hi : i < zs.length) : ∃ v, us[i]? = some v ∧ IsAr K H v (entry zs (i : Int)) := by
  have hl := h.length
  have g1 : us[i]? = some us[i] := List.getElem?_eq_getElem (by omega)
  have g2 : zs[i]? = some (entry zs (i : Int)) := by
    unfold entry
    rw [if_pos ⟨by omega, by omega⟩, List.getD_eq_getElem?_getD, Int.toNat_natCast, List.getElem?_eq_getElem hi]
    rfl
  exact ⟨_, g1, Paired.at h g1 g2⟩

theorem sc__law_whole : FnScope ["_law_rods_here", "_law_p", "_law_q", "_law_name", "_law_z", "_law_low_here", "_law_k"] ["_law_rods_here"] (defScope (topS 56)) := ⟨rfl, rfl, rfl, by decide +kernel, rfl, by decide +kernel, by decide +kernel⟩
theorem cal__law_whole (D : Def K mg "_law_whole" (topS 56)) (mLen : mg "len" = none) (mRange : mg "range" = none) (cO : Cal P w K mg base 3 "_law_off" ["_law_one", "_law_other"] (spBinA K 2500 off)) (cS : Cal P w K mg base 3 "_law_sum" ["_law_one", "_law_other"] (spBinA K 2500 summed)) (cM : Cal P w K mg base 3 "_law_made" ["_law_one", "_law_other"] (spBinA K 1200 made)) (cA : Cal P w K mg base 3 "_law_mate" ["_law_one"] (spMate K)) (cE : Cal P w K mg base 3 "_law_at" ["_law_row", "_law_spot_here"] (spEntry K)) : Cal P w K mg base 4 "_law_whole" ["_law_rods_here"] (spWhole K) := by
  obtain ⟨fO, fdO, gO, kO, bO, GO⟩ := cO
  obtain ⟨fS, fdS, gS, kS, bS, GS⟩ := cS
  obtain ⟨fM, fdM, gM, kM, bM, GM⟩ := cM
  obtain ⟨fA, fdA, gA, kA, bA, GA⟩ := cA
  obtain ⟨fE, fdE, gE, kE, bE, GE⟩ := cE
  refine D.cal sc__law_whole (fun _ _ _ _ _ _ us hl => match us, hl with | [_], _ => rfl) (fun vs H Q E h => ?_) (fun f cdv A outer s H vs Q E hr h => ?_)
  · obtain ⟨a, us, rs, rfl, _⟩ := h
    rfl
  · obtain ⟨a, us, rs, rfl, ha, hp, l8, ok, k⟩ := h
    have hl : us.length = rs.length := hp.length
    have nd := sc__law_whole.nd
    refine ⟨_, pss_cons (ps_asg (pe_tup (pa_cons (pe_lst (pa_cons (pe_tup (pa_cons (pe_tup (pa_cons pe_int (pa_cons pe_int pa_nil))) (pa_cons (pe_tup (pa_cons pe_int (pa_cons pe_int pa_nil))) pa_nil))) pa_nil)) (pa_cons (pe_lst pa_nil) pa_nil))) (pg_tup rfl (pgs_cons (pg_name (i := 1) nd rfl (.inr rfl)) (pgs_cons (pg_name (i := 2) nd rfl (.inr rfl)) pgs_nil))))
      (pss_cons (ps_for PassesOwn.never rfl (pi_list (pv 0)) (pg_tup rfl (pgs_cons (pg_name (i := 3) nd rfl (.inl rfl)) (pgs_cons (pg_name (i := 4) nd rfl (.inr rfl)) pgs_nil)))
        (pss_cons (ps_setLc (i := 5) (own := [("_law_k", 6)]) (g := gName 6) (tt := tYes) rfl nd rfl rfl (sw_true rfl rfl rfl (by decide +kernel)) (pi_range1 (by rfl) mRange (pa_cons (pe_op op_add (pe_callB call_len_seq (by rfl) mLen PySem.boot_len (pa_cons (pv 1) pa_nil)) pe_int) pa_nil)) (blkOk_by (N := ["_law_rods_here", "_law_p", "_law_q", "_law_name", "_law_z", "_law_low_here", "_law_k"]) (sc := defScope (topS 56)) (by decide +kernel)) (fun _ _ _ _ _ => pg_name (i := 6) nd rfl (Or.inl rfl)) (fun _ _ _ _ _ => pts_nil) (fun _ _ _ _ _ => (pe_call GO hr (by rfl) gO kO bO .nil pass0 (pa_cons (pe_call GE hr (by rfl) gE kE bE .nil pass0 (pa_cons (pv 1) (pa_cons (pe_op op_sub (pv 6) pe_int) pa_nil))) (pa_cons (pe_call GM hr (by rfl) gM kM bM .nil pass0 (pa_cons (pe_call GE hr (by rfl) gE kE bE .nil pass0 (pa_cons (pv 2) (pa_cons (pv 6) pa_nil))) (pa_cons (pe_call GA hr (by rfl) gA kA bA .nil pass0 (pa_cons (pv 4) pa_nil)) pa_nil))) pa_nil)))))
        (pss_cons (ps_set (i := 2) nd rfl (.inr rfl) (pe_lc (own := [("_law_k", 6)]) (g := gName 6) (tt := tYes) rfl nd (pi_range1 (by rfl) mRange (pa_cons (pe_callB call_len_seq (by rfl) mLen PySem.boot_len (pa_cons (pv 1) pa_nil)) pa_nil)) (blkOk_by (N := ["_law_rods_here", "_law_p", "_law_q", "_law_name", "_law_z", "_law_low_here", "_law_k"]) (sc := defScope (topS 56)) (by decide +kernel)) (fun _ _ _ _ _ => pg_name (i := 6) nd rfl (Or.inl rfl)) (fun _ _ _ _ _ => pts_nil) (fun _ _ _ _ _ => (pe_call GS hr (by rfl) gS kS bS .nil pass0 (pa_cons (pe_call GM hr (by rfl) gM kM bM .nil pass0 (pa_cons (pe_ix (r := rIxL K) ix_list (pv 1) (pv 6) (fun _ _ => rfl)) (pa_cons (pv 4) pa_nil))) (pa_cons (pe_call GE hr (by rfl) gE kE bE .nil pass0 (pa_cons (pv 2) (pa_cons (pe_op op_sub (pv 6) pe_int) pa_nil))) pa_nil))))))
        (pss_one (ps_set (i := 1) nd rfl (.inr rfl) (pv 5))))))
      (pss_one (ps_ret (pe_tup (pa_cons (pv 1) (pa_cons (pv 2) pa_nil)))))), ?_⟩
    refine ⟨by show 2 ≤ sizeLine; decide, fun b1 n1 => ?_⟩
    refine ⟨by show 2 ≤ sizeLine; decide, fun b2 n2 => ?_⟩
    refine ⟨by show 2 ≤ sizeLine; decide, fun b3 n3 => ?_⟩
    refine ⟨by show 1 ≤ sizeLine; decide, fun p np => ?_⟩
    refine ⟨Nat.zero_le _, fun q nq => ?_⟩
    refine ⟨by show 2 ≤ sizeLine; decide, fun t nt => ?_⟩
    have s1 := same_upd (o := .tup [.int 1, .int 1]) n1
    have s2 := same_upd (o := .tup [.int 0, .int 1]) n2
    have s3 := same_upd (o := .tup [.ref b1, .ref b2]) n3
    have s4 := same_upd (o := .lst [.ref b3]) np
    have s5 := same_upd (o := .lst []) nq
    have s6 := same_upd (o := .tup [.ref p, .ref q]) nt
    refine ⟨t, _, rfl, SqT.of upd_same, rfl, _, _, rfl, _, _, rfl, rfl, ?_⟩
    have s13 := (s1.trans s2).trans s3
    have s16 := (s13.trans s4).trans (s5.trans s6)
    refine ⟨_, rfl, a, rfl, ⟨_, s16.seq ha⟩, for_list (K := K) (a := a) (xs := us) (fun i σ H2 => ∃ pa qa y3 y4 y5, σ = [some (.ref a), some (.ref pa), some (.ref qa), y3, y4, y5, none] ∧ Same H H2 ∧ Ws K H H2 pa qa (whole ((rs.take i).map (·.2))))
      ⟨p, q, none, none, none, rfl, s16, [.ref b3], [], s6 _ _ (s5 _ _ upd_same), s6 _ _ upd_same, ne_of_none upd_same nq, s13.free np, (s13.trans s4).free nq, .cons ⟨b3, _, _, rfl, Same.tup ((s4.trans s5).trans s6) (SqT.of upd_same), ⟨b1, rfl, ?_⟩, ⟨b2, rfl, ?_⟩⟩ .nil, .nil⟩
      (fun i σ H2 _ ⟨_, _, _, _, _, _, s, _⟩ => s.seq ha) ?_ ?_⟩
    · exact Same.tup ((s2.trans s3).trans ((s4.trans s5).trans s6)) (SqT.of upd_same)
    · exact Same.tup (s3.trans ((s4.trans s5).trans s6)) (SqT.of upd_same)
    · rintro i x σ H2 hx ⟨pa, qa, y3, y4, y5, rfl, sa, hw⟩
      have hi : i < us.length := (List.getElem?_eq_some_iff.mp hx).1
      have hr' : rs[i]? = some rs[i] := List.getElem?_eq_getElem (by omega)
      obtain ⟨ax, zv, rfl, hx2, hz⟩ := (Paired.at hp hx hr').kp (K := K) (Kp.of sa)
      have oki : ArOk rs[i].2 := ok _ (List.getElem_mem _)
      have wok := whole_ok ((rs.take i).map (·.2)) (fun z hz => by
        obtain ⟨r, hr, rfl⟩ := List.mem_map.mp hz
        exact ok r (List.mem_of_mem_take hr))
      have len : ((rs.take i).map (·.2)).length = i := by
        rw [List.length_map, List.length_take]
        omega
      rw [len] at wok
      obtain ⟨ww, z, hw, hz, st, cop, e1, e2, e3⟩ : ∃ (ww : List Ar × List Ar) (z : Ar), Ws K H H2 pa qa ww ∧ IsAr K H2 zv z ∧ StepSz ww.1 ww.2 z ∧ Int.gcd z.2.1 z.2.2 = 1 ∧ ww.1.length = i + 1 ∧ ww.2.length = i ∧ whole ((rs.take (i + 1)).map (·.2)) = grown ww z :=
        ⟨_, _, hw, hz, wok.sz oki (by omega), oki.cop, by rw [whole_len1, len], by rw [whole_len2, len], by
          rw [List.take_add_one, hr', List.map_append]
          exact whole_snoc _ _⟩
      obtain ⟨up, uq, hpl, hql, nepq, fp, fq, hpp, hqq⟩ := id hw
      have lp := hpp.length
      refine ⟨ax, _, rfl, hx2, rfl, _, _, rfl, _, _, rfl, rfl, ?_⟩
      -- low
      refine ⟨_, rfl, pa, up, rfl, .inl (SqL.of hpl), _, _, rfl, rfl, _, rfl, by omega, by omega, fun D1 n1 => lc_range (lo := 0) (n := ((up.length : Int) + 1).toNat) (Lc (IsAr K) H2 D1 (lowAt ww.1 ww.2 z)) (Lc.start n1) ?_ ?_⟩
      · intro j H3 hj h3
        obtain ⟨acc, s0, _⟩ := id h3
        refine ⟨rfl, ?_⟩
        refine ⟨_, rfl, _, rfl, _, _, rfl, rfl, pa, _, ww.1, rfl, hw.p.same s0, fun H4 v4 s4 r4 => ?_⟩
        refine ⟨_, rfl, _, rfl, qa, _, ww.2, rfl, hw.q.same (s0.trans s4), fun H5 v5 s5 r5 => ?_⟩
        rw [Int.zero_add] at r4 r5
        refine ⟨_, rfl, _, z, rfl, hz.kp (.of ((s0.trans s4).trans s5)), st.sz.mono (by decide), cop, fun H6 v6 s6 r6 => ?_⟩
        refine ⟨_, _, _, _, rfl, r5.kp (.of s6), r6, (st.sq _).mono (by decide), (mate_sz st.sz).mono (by decide), fun H7 v7 s7 r7 => ?_⟩
        refine ⟨_, _, _, _, rfl, r4.kp (.of ((s5.trans s6).trans s7)), r7, (st.sp _).mono (by decide), (st.low j).mono (by decide), fun H8 v8 s8 r8 => ?_⟩
        exact Lc.step (F := IsAr K) (f := lowAt ww.1 ww.2 z) IsAr.kp h3 n1 ((((s4.trans s5).trans s6).trans s7).trans s8) r8 (show j < 1000 by omega)
      · intro H3 h3
        rw [show ((up.length : Int) + 1).toNat = ww.1.length + 1 by omega] at h3
        obtain ⟨acc1, sb, g1, p1⟩ := h3
        -- high
        refine ⟨_, rfl, pa, up, rfl, .inl (sb.seq (SqL.of hpl)), _, rfl, by omega, by omega, fun D2 n2 => lc_range (lo := 0) (n := (up.length : Int).toNat) (Lc (IsAr K) H3 D2 (highAt ww.1 ww.2 z)) (Lc.start n2) ?_ ?_⟩
        · intro j H4 hj h4
          obtain ⟨acc, s0, _⟩ := id h4
          have s0' := sb.trans s0
          obtain ⟨vj, gj, rj⟩ := Ars.at (K := K) hpp (show j < ww.1.length by omega)
          refine ⟨rfl, ?_⟩
          refine ⟨_, rfl, _, rfl, pa, up, _, vj, rfl, rfl, s0'.seq (SqL.of hpl), at_of (j := j) (by omega) gj, ?_⟩
          refine ⟨_, rfl, _, _, _, _, rfl, rj.kp (.of s0'), hz.kp (.of s0'), (st.sp _).mono (by decide), st.sz.mono (by decide), fun H5 v5 s5 r5 => ?_⟩
          refine ⟨_, rfl, _, rfl, _, _, rfl, rfl, qa, _, ww.2, rfl, hw.q.same (s0'.trans s5), fun H6 v6 s6 r6 => ?_⟩
          rw [Int.zero_add] at r6
          refine ⟨_, _, _, _, rfl, r5.kp (.of s6), r6, (st.high j).mono (by decide), (st.sq _).mono (by decide), fun H7 v7 s7 r7 => ?_⟩
          exact Lc.step (F := IsAr K) (f := highAt ww.1 ww.2 z) IsAr.kp h4 n2 ((s5.trans s6).trans s7) r7 (show j < 1000 by omega)
        · intro H4 h4
          rw [show (up.length : Int).toNat = ww.2.length + 1 by omega] at h4
          obtain ⟨acc2, sc, g2, p2⟩ := h4
          refine ⟨_, rfl, D1, D2, _, _, _, rfl, sa.trans (sb.trans sc), ?_⟩
          rw [e3]
          exact ⟨acc1, acc2, sc _ _ g1, g2, ne_of_none g1 n2, sa.free n1, (sa.trans sb).free n2, Paired.mapP p1 fun _ _ q => q.kp (.of sc), p2⟩
    · rintro σ H2 ⟨pa, qa, y3, y4, y5, rfl, sa, hw⟩
      rw [List.take_of_length_le (by omega)] at hw
      refine ⟨_, rfl, _, rfl, by show 2 ≤ sizeLine; decide, fun r hr => ?_⟩
      exact k _ r (sa.trans (same_upd hr)) ⟨pa, qa, SqT.of upd_same, hw.same (same_upd hr)⟩
end
end K14

namespace K14
open PySem PySem.Spec PyProof.Rows L2

/-! ### the box of draws -/
abbrev bl (cl : Addr) (i r s c : Int) : List V := [.ref cl, .int i, .int r, .int s, .int c]
def BoxOk (H : Hp) (bx : Addr) : Prop := ∃ (cl : Addr) (ns : List Int) (i r s c : Int), H bx = some (.lst (bl cl i r s c)) ∧ cl ≠ bx ∧ H cl = some (.lst (ns.map V.int)) ∧ ns.length ≤ 63 ∧ 0 ≤ i ∧ 0 ≤ r ∧ 0 ≤ s ∧ s < 2147483629
theorem BoxOk.same {H H' : Hp} {bx : Addr} (s : Same H H') (h : BoxOk H bx) : BoxOk H' bx := by
  obtain ⟨cl, ns, i, r, s0, c, h1, h2, h3, h4⟩ := h
  exact ⟨cl, ns, i, r, s0, c, s _ _ h1, h2, s _ _ h3, h4⟩
theorem BoxOk.kp {K : PySem.W.Frag} {H H' : Hp} {bx : Addr} (h : BoxOk H bx) (e : But bx H H') : Kp K H H' := let ⟨_, _, _, _, _, _, h1, _⟩ := h; e.kp h1
theorem BoxOk.seq {K : PySem.W.Frag} {H H' : Hp} {bx a : Addr} {xs : List V} (n : a ≠ bx) (e : But bx H H') (h : SqL K H a xs) : SqL K H' a xs := by
  rcases h with (h | ⟨o, h⟩) | h
  · exact .inl (.inl (e.keep _ _ n h))
  · exact .inl (.inr ⟨o, e.keep _ _ n h⟩)
  · exact .inr h
theorem But.put {bx : Addr} {H H1 : Hp} {v : V} {r r' : List V} (h : But bx H H1) (e1 : H1 bx = some (.lst (v :: r))) : But bx H (upd H1 bx (.lst (v :: r'))) := by
  refine ⟨fun b u n e => ?_, fun v0 r0 e => ?_⟩
  · rw [upd_ne n]
    exact h.keep b u n e
  · obtain ⟨r1, e2⟩ := h.hd v0 r0 e
    rw [e1] at e2
    cases e2
    exact ⟨r', upd_same⟩
theorem BoxOk.putD {H0 H1 : Hp} {bx D : Addr} {o : HO} (h0 : BoxOk H0 bx) (e : But bx H0 H1) (h : BoxOk H1 bx) (n : H0 D = none) : BoxOk (upd H1 D o) bx := by
  obtain ⟨cl0, ns0, i0, r0, s0, c0, a1, a2, a3, a4⟩ := h0
  obtain ⟨cl, ns, i, r, s, c, b1, b2, b3, b4⟩ := h
  obtain ⟨r', e1⟩ := e.hd _ _ a1
  rw [b1] at e1
  have ec : cl = cl0 := by
    injection e1 with e2
    injection e2 with e3
    injection e3 with e4 _
    injection e4
  subst ec
  refine ⟨cl, ns, i, r, s, c, ?_, b2, ?_, b4⟩
  · rw [upd_ne (ne_of_none a1 n)]
    exact b1
  · rw [upd_ne (ne_of_none a3 n)]
    exact b3
theorem But.putD {bx D : Addr} {H0 H1 : Hp} {o : HO} (e : But bx H0 H1) (nb : D ≠ bx) (n : H0 D = none) : But bx H0 (upd H1 D o) := by
  refine ⟨fun b u nb h => ?_, fun v r h => ?_⟩
  · rw [upd_ne (ne_of_none h n)]
    exact e.keep b u nb h
  · rw [upd_ne (Ne.symm nb)]
    exact e.hd v r h
theorem But.free {bx : Addr} {H H' : Hp} {a : Addr} (e : But bx H H') (n : a ≠ bx) (h : H' a = none) : H a = none := by
  cases q : H a with
  | none => rfl
  | some o =>
    rw [e.keep a o n q] at h
    cases h
theorem pl : (0 : Int) < 2147483629 := by decide
def spBox (K : PySem.W.Frag) : Sp := fun vs H Q _ => ∃ (a : Addr) (ns : List Int), vs = [.ref a] ∧ SqL K H a (ns.map V.int) ∧ ns.length ≤ 63 ∧ ∀ H' bx, Same H H' → H bx = none → BoxOk H' bx → Q (.ref bx) H'
def spDraw : Sp := fun vs H Q _ => ∃ (bx : Addr) (m : Int), vs = [.ref bx, .int m] ∧ BoxOk H bx ∧ 0 < m ∧ Lt2 64 m ∧ ∀ H' k, 0 ≤ k → k < m → But bx H H' → BoxOk H' bx → Q (.int k) H'
def spOf (K : PySem.W.Frag) : Sp := fun vs H Q _ => ∃ (bx a : Addr) (xs : List V), vs = [.ref bx, .ref a] ∧ BoxOk H bx ∧ SqL K H a xs ∧ a ≠ bx ∧ 0 < xs.length ∧ xs.length ≤ 1000 ∧ ∀ H' v, v ∈ xs → But bx H H' → BoxOk H' bx → Q v H'
theorem cut63 (xs : List V) (h : xs.length ≤ 63) : cutV xs none (some 63) = xs := by
  unfold cutV
  rw [HT.sIx_none, show HT.sIx xs.length xs.length (some 63) = min 63 xs.length from HT.sIx_nat xs.length xs.length 63, Nat.min_eq_right h]
  simp
section
variable {P : Program} {w : World} {K : PySem.W.Frag} {mg : Str → Option Value} {base : Heap}

theorem sc__law_box : FnScope ["_law_script"] ["_law_script"] (defScope (topS 37)) := ⟨rfl, rfl, rfl, by decide +kernel, rfl, by decide +kernel, by decide +kernel⟩
theorem cal__law_box (D : Def K mg "_law_box" (topS 37)) (mList : mg "list" = none) : Cal P w K mg base 1 "_law_box" ["_law_script"] (spBox K) := by
  refine D.cal sc__law_box (fun _ _ _ _ _ _ us hl => match us, hl with | [_], _ => rfl) (fun vs H Q E h => ?_) (fun f cdv A outer s H vs Q E hr h => ?_)
  · obtain ⟨a, ns, rfl, _⟩ := h
    rfl
  · obtain ⟨a, ns, rfl, ha, hl, k⟩ := h
    refine ⟨_, pss_one (ps_ret (pe_lst (pa_cons (pe_callTy call_list_of (by rfl) mList (by decide +kernel) (pa_cons (pe_slice sl_list (pv 0) po_none (po_some pe_int)) pa_nil)) (pa_cons pe_int (pa_cons pe_int (pa_cons pe_int (pa_cons pe_int pa_nil))))))), ?_⟩
    refine ⟨_, rfl, _, rfl, a, _, rfl, ha, fun p np => ?_⟩
    rw [cut63 _ (by rw [List.length_map]; exact hl)]
    refine ⟨p, _, rfl, .inl (SqL.of upd_same), fun l nl => ?_⟩
    refine ⟨by show 5 ≤ sizeLine; decide, fun b nb => ?_⟩
    have s1 := same_upd (o := .lst (ns.map V.int)) np
    have s2 := same_upd (o := .lst (ns.map V.int)) nl
    have s3 := same_upd (o := .lst (bl l 0 0 53 0)) nb
    exact k _ b ((s1.trans s2).trans s3) ((s1.trans s2).free nb) ⟨l, ns, 0, 0, 53, 0, upd_same, ne_of_none upd_same nb, s3 _ _ upd_same, hl, by decide, by decide, by decide, by decide⟩
theorem sc__law_draw : FnScope ["_law_box_here", "_law_many", "_law_cell", "_law_got"] ["_law_box_here", "_law_many"] (defScope (topS 38)) := ⟨rfl, rfl, rfl, by decide +kernel, rfl, by decide +kernel, by decide +kernel⟩
theorem cal__law_draw (D : Def K mg "_law_draw" (topS 38)) (mLen : mg "len" = none) (mMax : mg "max" = none) : Cal P w K mg base 1 "_law_draw" ["_law_box_here", "_law_many"] spDraw := by
  refine D.cal sc__law_draw (fun _ _ _ _ _ _ us hl => match us, hl with | [_, _], _ => rfl) (fun vs H Q E h => ?_) (fun f cdv A outer s H vs Q E hr h => ?_)
  · obtain ⟨bx, m, rfl, _⟩ := h
    rfl
  · obtain ⟨bx, m, rfl, hb, m0, m64, k⟩ := h
    have nd := sc__law_draw.nd
    refine ⟨_, C8.pss_cut (ps_if (PW.pt (pw_and (pt_cmpR op_lt (pe_ix ix_list (pv 0) pe_int (fun _ _ => rfl)) pe_int (nomark _)) (pw_and1 (pt_cmpR op_lt (pe_ix ix_list (pv 0) pe_int (fun _ _ => rfl)) (pe_callB call_len_seq (by rfl) mLen PySem.boot_len (pa_cons (pe_ix ix_list (pv 0) pe_int (fun _ _ => rfl)) pa_nil)) (nomark _)))))
        (pss_cons (ps_set (i := 2) nd rfl (.inl rfl) (pe_ix ix_list (pe_ix ix_list (pv 0) pe_int (fun _ _ => rfl)) (pe_ix ix_list (pv 0) pe_int (fun _ _ => rfl)) (fun _ _ => rfl)))
        (pss_cons (ps_asg (pe_op op_add (pe_ix ix_list (pv 0) pe_int (fun _ _ => rfl)) pe_int) (pg_sub (pv 0) pe_int set_list))
        (pss_cons (ps_asg (pe_callB (call_max2 rfl) (by rfl) mMax (by decide +kernel) (pa_cons pe_int (pa_cons (pe_op op_sub (pv 2) (pe_op op_pow pe_int pe_int)) pa_nil))) (pg_sub (pv 0) pe_int set_list))
        (pss_one (ps_asg (pe_op op_mod (pe_op op_add (pe_op op_add (pe_op op_mul (pe_ix ix_list (pv 0) pe_int (fun _ _ => rfl)) pe_int) (pe_op op_mul (pe_op op_mod (pv 2) pe_int) pe_int)) pe_int) pe_int) (pg_sub (pv 0) pe_int set_list)))))) pss_nil)
      (pss_cons (ps_if (pt_cmpR op_gt (pe_ix ix_list (pv 0) pe_int (fun _ _ => rfl)) pe_int (nomark _))
        (pss_cons (ps_set (i := 3) nd rfl (.inl rfl) (pe_op op_mod (pe_ix ix_list (pv 0) pe_int (fun _ _ => rfl)) (pv 1)))
        (pss_cons (ps_asg (pe_op op_fdivW (pe_ix ix_list (pv 0) pe_int (fun _ _ => rfl)) (pv 1)) (pg_sub (pv 0) pe_int set_list))
        (pss_one (ps_ret (pv 3))))) pss_nil)
      (pss_cons (ps_asg (pe_op op_add (pe_ix ix_list (pv 0) pe_int (fun _ _ => rfl)) pe_int) (pg_sub (pv 0) pe_int set_list))
      (pss_cons (ps_asg (pe_op op_mod (pe_op op_add (pe_op op_add (pe_op op_pow (pe_ix ix_list (pv 0) pe_int (fun _ _ => rfl)) pe_int) (pe_op op_mul pe_int (pe_ix ix_list (pv 0) pe_int (fun _ _ => rfl)))) pe_int) pe_int) (pg_sub (pv 0) pe_int set_list))
      (pss_one (ps_ret (pe_op op_mod (pe_op op_fdiv (pe_ix ix_list (pv 0) pe_int (fun _ _ => rfl)) pe_int) (pv 1))))))), ?_⟩
    refine ⟨fun σ' H' => ∃ y2 y3, σ' = [some (.ref bx), some (.int m), y2, y3] ∧ But bx H H' ∧ BoxOk H' bx, ?_, ?_⟩
    · obtain ⟨cl, ns, i, r, s, c, h1, h2, h3, h4, i0, r0, s0, s1⟩ := id hb
      have hbx : SqL K H bx (bl cl i r s c) := SqL.of h1
      have hcl : SqL K H cl (ns.map V.int) := SqL.of h3
      refine ⟨_, rfl, bx, bl cl i r s c, _, _, rfl, rfl, hbx, rfl, _, _, rfl, rfl, _, rfl, ?_⟩
      refine ite2 (fun _ => ?_) (fun _ => ⟨none, none, rfl, But.refl, hb⟩)
      refine ⟨_, rfl, bx, bl cl i r s c, _, _, rfl, rfl, hbx, rfl, _, rfl, bx, bl cl i r s c, _, _, rfl, rfl, hbx, rfl, cl, _, rfl, .inl hcl, _, _, rfl, rfl, _, rfl, ?_⟩
      refine ite2 (fun e => ?_) (fun _ => ⟨none, none, rfl, But.refl, hb⟩)
      have hi : i < ((ns.map V.int).length : Int) := of_decide_eq_true e
      rw [List.length_map] at hi
      have gi : (ns.map V.int)[i.toNat]? = some (.int (ns[i.toNat]'(by omega))) := by
        rw [List.getElem?_map, List.getElem?_eq_getElem (by omega)]
        rfl
      generalize ns[i.toNat]'(by omega) = cell at gi
      refine ⟨_, rfl, bx, bl cl i r s c, _, _, rfl, rfl, hbx, rfl, _, rfl, bx, bl cl i r s c, _, _, rfl, rfl, hbx, rfl, cl, _, _, _, rfl, rfl, hcl, at_of (j := i.toNat) (by omega) gi, ?_⟩
      -- box[1] = box[1] + 1
      refine ⟨_, rfl, bx, bl cl i r s c, _, _, rfl, rfl, hbx, rfl, _, _, rfl, rfl, _, rfl, bx, bl cl i r s c, _, 1, rfl, rfl, h1, rfl, ?_⟩
      -- box[2] = max(0, cell - 10 ** 18)
      refine ⟨_, rfl, _, _, rfl, rfl, ⟨by decide, by decide, by decide⟩, _, _, rfl, rfl, _, _, rfl, _, rfl, bx, bl cl (i + 1) r s c, _, 2, rfl, rfl, upd_same, rfl, ?_⟩
      generalize hr' : (if cell - 10 ^ (18 : Int).toNat > 0 then cell - 10 ^ (18 : Int).toNat else 0) = r'
      have r0' : 0 ≤ r' := by rw [← hr']; split <;> omega
      -- box[3]
      refine ⟨_, rfl, bx, bl cl (i + 1) r' s c, _, _, rfl, rfl, SqL.of upd_same, rfl, _, _, rfl, rfl, .inl ⟨by omega, by omega⟩, ?_⟩
      refine ⟨_, rfl, _, _, rfl, rfl, pl, _, _, rfl, rfl, .inr ⟨by decide, by decide⟩, _, _, rfl, rfl, _, _, rfl, rfl, _, _, rfl, rfl, pl, ?_⟩
      refine ⟨_, rfl, bx, bl cl (i + 1) r' s c, _, 3, rfl, rfl, upd_same, rfl, ?_⟩
      refine ⟨_, _, rfl, ((But.refl.put h1).put upd_same).put upd_same, cl, ns, i + 1, r', _, c, upd_same, h2, ?_, h4, by omega, r0', Int.emod_nonneg _ (by decide), Int.emod_lt_of_pos _ (by decide)⟩
      rw [upd_ne h2, upd_ne h2, upd_ne h2]
      exact h3
    · rintro σ' H1 ⟨y2, y3, rfl, hB, ⟨cl, ns, i, r, s, c, h1, h2, h3, h4, i0, r0, s0, s1⟩⟩
      have hbx : SqL K H1 bx (bl cl i r s c) := SqL.of h1
      refine ⟨_, rfl, bx, bl cl i r s c, _, _, rfl, rfl, hbx, rfl, _, _, rfl, rfl, _, rfl, ?_⟩
      refine ite2 (fun _ => ?_) (fun _ => ?_)
      · refine ⟨_, rfl, bx, bl cl i r s c, _, _, rfl, rfl, hbx, rfl, _, rfl, _, _, rfl, rfl, m0, ?_⟩
        refine ⟨_, rfl, bx, bl cl i r s c, _, _, rfl, rfl, hbx, rfl, _, rfl, _, _, rfl, rfl, divW m0 m64 (by decide) (by decide), _, rfl, bx, bl cl i r s c, _, 2, rfl, rfl, h1, rfl, ?_⟩
        refine ⟨_, rfl, k _ _ (Int.emod_nonneg _ (by omega)) (Int.emod_lt_of_pos _ m0) (hB.put h1) ⟨cl, ns, i, r / m, s, c, upd_same, h2, ?_, h4, i0, Int.ediv_nonneg r0 (by omega), s0, s1⟩⟩
        rw [upd_ne h2]
        exact h3
      · refine ⟨_, rfl, bx, bl cl i r s c, _, _, rfl, rfl, hbx, rfl, _, _, rfl, rfl, _, rfl, bx, bl cl i r s c, _, 4, rfl, rfl, h1, rfl, ?_⟩
        refine ⟨_, rfl, bx, bl cl i r s (c + 1), _, _, rfl, rfl, SqL.of upd_same, rfl, _, _, rfl, rfl, ⟨by decide, by decide, by omega⟩, ?_⟩
        refine ⟨_, rfl, bx, bl cl i r s (c + 1), _, _, rfl, rfl, SqL.of upd_same, rfl, _, _, rfl, rfl, .inl ⟨by decide, by decide⟩, _, _, rfl, rfl, _, _, rfl, rfl, _, _, rfl, rfl, pl, ?_⟩
        refine ⟨_, rfl, bx, bl cl i r s (c + 1), _, 3, rfl, rfl, upd_same, rfl, ?_⟩
        refine ⟨_, rfl, bx, bl cl i r ((s ^ (3 : Int).toNat + 69621 * (c + 1) + 9453) % 2147483629) (c + 1), _, _, rfl, rfl, SqL.of upd_same, rfl, _, _, rfl, rfl, ⟨by decide, by decide⟩, _, rfl, _, _, rfl, rfl, m0, ?_⟩
        refine k _ _ (Int.emod_nonneg _ (by omega)) (Int.emod_lt_of_pos _ m0) ((hB.put h1).put upd_same) ⟨cl, ns, i, r, _, c + 1, upd_same, h2, ?_, h4, i0, r0, Int.emod_nonneg _ (by decide), Int.emod_lt_of_pos _ (by decide)⟩
        rw [upd_ne h2, upd_ne h2]
        exact h3
theorem sc__law_of : FnScope ["_law_box_here", "_law_some"] ["_law_box_here", "_law_some"] (defScope (topS 39)) := ⟨rfl, rfl, rfl, by decide +kernel, rfl, by decide +kernel, by decide +kernel⟩
theorem cal__law_of (D : Def K mg "_law_of" (topS 39)) (mLen : mg "len" = none) (cD : Cal P w K mg base 1 "_law_draw" ["_law_box_here", "_law_many"] spDraw) : Cal P w K mg base 2 "_law_of" ["_law_box_here", "_law_some"] (spOf K) := by
  obtain ⟨fD, fdD, gD, kD, bD, GD⟩ := cD
  refine D.cal sc__law_of (fun _ _ _ _ _ _ us hl => match us, hl with | [_, _], _ => rfl) (fun vs H Q E h => ?_) (fun f cdv A outer s H vs Q E hr h => ?_)
  · obtain ⟨bx, a, xs, rfl, _⟩ := h
    rfl
  · obtain ⟨bx, a, xs, rfl, hb, ha, na, l0, l1, k⟩ := h
    refine ⟨_, pss_one (ps_ret (pe_ix ix_list (pv 1) (pe_call GD hr (by rfl) gD kD bD .nil pass0 (pa_cons (pv 0) (pa_cons (pe_callB call_len_seq (by rfl) mLen PySem.boot_len (pa_cons (pv 1) pa_nil)) pa_nil))) (fun _ _ => rfl))), ?_⟩
    refine ⟨_, rfl, _, rfl, _, rfl, a, xs, rfl, .inl ha, bx, _, rfl, hb, by omega, ?_, fun H1 j j0 j1 B1 hb1 => ?_⟩
    · have h64 : xs.length < 2 ^ 64 := by omega
      exact h64
    · have hj : j.toNat < xs.length := by omega
      exact ⟨a, xs, j, _, rfl, rfl, BoxOk.seq na B1 ha, at_of (j := j.toNat) (by omega) (List.getElem?_eq_getElem hj), k _ _ (List.getElem_mem hj) B1 hb1⟩
end
end K14

namespace K14
open PySem PySem.Spec PyProof.Rows L2

theorem BoxOk.ne {H : Hp} {bx l : Addr} (h : BoxOk H bx) (n : H l = none) : l ≠ bx := let ⟨_, _, _, _, _, _, h1, _⟩ := h; (ne_of_none h1 n).symm
theorem low_ok {a b : Int} (hb : 0 < b) (h1 : a.natAbs < 2 ^ 40) (h2 : b.natAbs < 2 ^ 40) : PtOk (low a b) :=
  ⟨(low_spec hb).1, (low_spec hb).2.1, (low_sz hb h1 h2).num, (low_sz hb h1 h2).den⟩
theorem lt_big {x : Int} (h : x.natAbs < 2 ^ 40) : Lt2 8000 x := Lt2.mono (n := 40) h (by decide)
theorem p12 : (10 : Int) ^ (12 : Int).toNat = 1000000000000 := by decide
def spSmall (K : PySem.W.Frag) : Sp := fun vs H Q _ => ∃ bx : Addr, vs = [.ref bx] ∧ BoxOk H bx ∧ ∀ H' v p, But bx H H' → BoxOk H' bx → IsPt K H' v p → PtOk p → Q v H'
def spSpot (K : PySem.W.Frag) : Sp := fun vs H Q _ => ∃ bx : Addr, vs = [.ref bx] ∧ BoxOk H bx ∧ ∀ H' v z, But bx H H' → BoxOk H' bx → IsAr K H' v z → ArOk z → Q v H'
def spArrow (K : PySem.W.Frag) : Sp := fun vs H Q _ => ∃ bx : Addr, vs = [.ref bx] ∧ BoxOk H bx ∧ ∀ H' v z, But bx H H' → BoxOk H' bx → IsAr K H' v z → ArOk z → z ≠ zer → Q v H'
section
variable {P : Program} {w : World} {K : PySem.W.Frag} {mg : Str → Option Value} {base : Heap}

theorem sc__law_small : FnScope ["_law_box_here"] ["_law_box_here"] (defScope (topS 42)) := ⟨rfl, rfl, rfl, by decide +kernel, rfl, by decide +kernel, by decide +kernel⟩
theorem cal__law_small (D : Def K mg "_law_small" (topS 42)) (cD : Cal P w K mg base 1 "_law_draw" ["_law_box_here", "_law_many"] spDraw) (cO : Cal P w K mg base 2 "_law_of" ["_law_box_here", "_law_some"] (spOf K)) (cL : Cal P w K mg base 1 "_law_low" ["_law_above", "_law_beneath"] (spLow K)) : Cal P w K mg base 3 "_law_small" ["_law_box_here"] (spSmall K) := by
  obtain ⟨fD, fdD, gD, kD, bD, GD⟩ := cD
  obtain ⟨fO, fdO, gO, kO, bO, GO⟩ := cO
  obtain ⟨fL, fdL, gL, kL, bL, GL⟩ := cL
  refine D.cal sc__law_small (fun _ _ _ _ _ _ us hl => match us, hl with | [_], _ => rfl) (fun vs H Q E h => ?_) (fun f cdv A outer s H vs Q E hr h => ?_)
  · obtain ⟨bx, rfl, _⟩ := h
    rfl
  · obtain ⟨bx, rfl, hb, k⟩ := h
    have hr1 : Room 1 _ := hr.mono (by decide)
    refine ⟨_, pss_one (ps_ret (pe_call GL hr1 (by rfl) gL kL bL .nil pass0 (pa_cons (pe_op op_sub (pe_call GD hr1 (by rfl) gD kD bD .nil pass0 (pa_cons (pv 0) (pa_cons pe_int pa_nil))) pe_int) (pa_cons (pe_call GO hr (by rfl) gO kO bO .nil pass0 (pa_cons (pv 0) (pa_cons (pe_lst (pa_cons pe_int (pa_cons pe_int (pa_cons pe_int (pa_cons pe_int (pa_cons pe_int pa_nil)))))) pa_nil))) pa_nil)))), ?_⟩
    refine ⟨_, rfl, bx, 13, rfl, hb, by decide, by unfold Lt2; decide, fun H1 x x0 x1 B1 hb1 => ?_⟩
    refine ⟨_, _, rfl, rfl, _, rfl, by show 5 ≤ sizeLine; decide, fun l nl => ?_⟩
    have s2 := same_upd (o := .lst [.int 1, .int 1, .int 1, .int 2, .int 3]) nl
    refine ⟨bx, l, _, rfl, hb1.same s2, SqL.of upd_same, hb1.ne nl, by decide, by decide, fun H2 v hv B2 hb2 => ?_⟩
    obtain ⟨d, rfl, d0, d3⟩ : ∃ d : Int, v = .int d ∧ 0 < d ∧ d ≤ 3 := by
      simp only [List.mem_cons, List.not_mem_nil, or_false] at hv
      rcases hv with rfl | rfl | rfl | rfl | rfl <;> exact ⟨_, rfl, by decide, by decide⟩
    refine ⟨_, _, rfl, d0, lt_big (by omega), lt_big (by omega), fun H3 v3 s3 r3 => ?_⟩
    exact k _ _ _ (((B1.trans (.of s2)).trans B2).trans (.of s3)) (hb2.same s3) r3 (low_ok d0 (by omega) (by omega))
theorem sc__law_spot : FnScope ["_law_box_here"] ["_law_box_here"] (defScope (topS 43)) := ⟨rfl, rfl, rfl, by decide +kernel, rfl, by decide +kernel, by decide +kernel⟩
theorem cal__law_spot (D : Def K mg "_law_spot" (topS 43)) (cS : Cal P w K mg base 3 "_law_small" ["_law_box_here"] (spSmall K)) : Cal P w K mg base 4 "_law_spot" ["_law_box_here"] (spSpot K) := by
  obtain ⟨fS, fdS, gS, kS, bS, GS⟩ := cS
  refine D.cal sc__law_spot (fun _ _ _ _ _ _ us hl => match us, hl with | [_], _ => rfl) (fun vs H Q E h => ?_) (fun f cdv A outer s H vs Q E hr h => ?_)
  · obtain ⟨bx, rfl, _⟩ := h
    rfl
  · obtain ⟨bx, rfl, hb, k⟩ := h
    refine ⟨_, pss_one (ps_ret (pe_tup (pa_cons (pe_call GS hr (by rfl) gS kS bS .nil pass0 (pa_cons (pv 0) pa_nil)) (pa_cons (pe_call GS hr (by rfl) gS kS bS .nil pass0 (pa_cons (pv 0) pa_nil)) pa_nil)))), ?_⟩
    refine ⟨_, rfl, bx, rfl, hb, fun H1 v1 p1 B1 hb1 r1 o1 => ?_⟩
    refine ⟨_, rfl, bx, rfl, hb1, fun H2 v2 p2 B2 hb2 r2 o2 => ?_⟩
    refine ⟨by show 2 ≤ sizeLine; decide, fun t nt => ?_⟩
    have s3 := same_upd (o := .tup [v1, v2]) nt
    exact k _ _ (p1, p2) ((B1.trans B2).trans (.of s3)) (hb2.same s3) ⟨t, _, _, rfl, SqT.of upd_same, (r1.kp (hb1.kp B2)).kp (.of s3), r2.kp (.of s3)⟩ ⟨o1, o2⟩
theorem sc__law_arrow : FnScope ["_law_box_here", "_law_x", "_law_y", "_law_found"] ["_law_box_here"] (defScope (topS 44)) := ⟨rfl, rfl, rfl, by decide +kernel, rfl, by decide +kernel, by decide +kernel⟩
def Small (K : PySem.W.Frag) (H : Hp) (v : V) : Prop := ∃ (t : Addr) (x y : Int), v = .ref t ∧ SqT K H t [.int x, .int y] ∧ x.natAbs ≤ 5 ∧ y.natAbs ≤ 5 ∧ ¬(x = 0 ∧ y = 0)
theorem Small.mk {H : Hp} {t : Addr} {x y : Int} (h : H t = some (.tup [.int x, .int y])) (h1 : x.natAbs ≤ 5 ∧ y.natAbs ≤ 5 ∧ ¬(x = 0 ∧ y = 0)) : Small K H (.ref t) := ⟨t, x, y, rfl, SqT.of h, h1⟩
theorem eqv_ne {z u : Ar} (h : PyData.eqv (dAr z) (dAr u) = false) : z ≠ u := fun e => by
  rw [e, SeqAt.eqv_refl _ (by rfl)] at h
  cases h
theorem int_ok {x : Int} (h : x.natAbs ≤ 5) : PtOk (x, 1) := ⟨by show (0 : Int) < 1; decide, Int.gcd_one, by show x.natAbs < 2 ^ 40; omega, by show (1 : Int).natAbs < 2 ^ 40; decide⟩
theorem shaped_ar (z : Ar) : SeqAt.shaped (dAr z) = true := by rfl
theorem cal__law_arrow (D : Def K mg "_law_arrow" (topS 44)) (cD : Cal P w K mg base 1 "_law_draw" ["_law_box_here", "_law_many"] spDraw) (cO : Cal P w K mg base 2 "_law_of" ["_law_box_here", "_law_some"] (spOf K)) (cS : Cal P w K mg base 4 "_law_spot" ["_law_box_here"] (spSpot K)) : Cal P w K mg base 5 "_law_arrow" ["_law_box_here"] (spArrow K) := by
  obtain ⟨fD, fdD, gD, kD, bD, GD⟩ := cD
  obtain ⟨fO, fdO, gO, kO, bO, GO⟩ := cO
  obtain ⟨fS, fdS, gS, kS, bS, GS⟩ := cS
  refine D.cal sc__law_arrow (fun _ _ _ _ _ _ us hl => match us, hl with | [_], _ => rfl) (fun vs H Q E h => ?_) (fun f cdv A outer s H vs Q E hr h => ?_)
  · obtain ⟨bx, rfl, _⟩ := h
    rfl
  · obtain ⟨bx, rfl, hb, k⟩ := h
    have hr1 : Room 1 _ := hr.mono (by decide)
    have hr2 : Room 2 _ := hr.mono (by decide)
    have nd := sc__law_arrow.nd
    refine ⟨_, pss_cons (ps_if (pt_cmpR op_eq (pe_call GD hr1 (by rfl) gD kD bD .nil pass0 (pa_cons (pv 0) (pa_cons pe_int pa_nil))) pe_int (nomark _))
        (pss_cons (ps_asg (pe_call GO hr2 (by rfl) gO kO bO .nil pass0 (pa_cons (pv 0) (pa_cons (pe_lst (pa_cons (pe_tup (pa_cons pe_int (pa_cons pe_int pa_nil))) (pa_cons (pe_tup (pa_cons pe_int (pa_cons pe_int pa_nil))) (pa_cons (pe_tup (pa_cons pe_int (pa_cons pe_int pa_nil))) (pa_cons (pe_tup (pa_cons pe_int (pa_cons pe_int pa_nil))) (pa_cons (pe_tup (pa_cons (pe_un un_neg pe_int) (pa_cons pe_int pa_nil))) (pa_cons (pe_tup (pa_cons (pe_un un_neg pe_int) (pa_cons pe_int pa_nil))) (pa_cons (pe_tup (pa_cons pe_int (pa_cons (pe_un un_neg pe_int) pa_nil))) (pa_cons (pe_tup (pa_cons pe_int (pa_cons (pe_un un_neg pe_int) pa_nil))) (pa_cons (pe_tup (pa_cons pe_int (pa_cons pe_int pa_nil))) (pa_cons (pe_tup (pa_cons (pe_un un_neg pe_int) (pa_cons pe_int pa_nil))) pa_nil))))))))))) pa_nil))) (pg_tup rfl (pgs_cons (pg_name (i := 1) nd rfl (.inl rfl)) (pgs_cons (pg_name (i := 2) nd rfl (.inl rfl)) pgs_nil))))
        (pss_one (ps_ret (pe_tup (pa_cons (pe_tup (pa_cons (pv 1) (pa_cons pe_int pa_nil))) (pa_cons (pe_tup (pa_cons (pv 2) (pa_cons pe_int pa_nil))) pa_nil)))))) pss_nil)
      (pss_cons (ps_set (i := 3) nd rfl (.inl rfl) (pe_call GS hr (by rfl) gS kS bS .nil pass0 (pa_cons (pv 0) pa_nil)))
      (pss_one (ps_ret (pe_ifExp (pt_cmpR (op_neD hr.units) (pv 3) (pe_tup (pa_cons (pe_tup (pa_cons pe_int (pa_cons pe_int pa_nil))) (pa_cons (pe_tup (pa_cons pe_int (pa_cons pe_int pa_nil))) pa_nil))) (nomark _)) (pv 3) (pe_tup (pa_cons (pe_tup (pa_cons pe_int (pa_cons pe_int pa_nil))) (pa_cons (pe_tup (pa_cons pe_int (pa_cons pe_int pa_nil))) pa_nil))))))), ?_⟩
    refine ⟨_, rfl, bx, 3, rfl, hb, by decide, by unfold Lt2; decide, fun H1 x x0 x1 B1 hb1 => ?_⟩
    refine ⟨rfl, _, rfl, ?_⟩
    refine ite2 (fun _ => ?_) (fun _ => ?_)
    · refine ⟨_, rfl, ?_⟩
      refine ⟨by show 2 ≤ sizeLine; decide, fun t0 n0 => ?_⟩
      have u0 := same_upd (o := .tup [.int 3, .int 4]) n0
      refine ⟨by show 2 ≤ sizeLine; decide, fun t1 n1 => ?_⟩
      have u1 := same_upd (o := .tup [.int 4, .int 3]) n1
      refine ⟨by show 2 ≤ sizeLine; decide, fun t2 n2 => ?_⟩
      have u2 := same_upd (o := .tup [.int 5, .int 0]) n2
      refine ⟨by show 2 ≤ sizeLine; decide, fun t3 n3 => ?_⟩
      have u3 := same_upd (o := .tup [.int 0, .int 5]) n3
      refine ⟨_, rfl, by show 2 ≤ sizeLine; decide, fun t4 n4 => ?_⟩
      have u4 := same_upd (o := .tup [.int (-3), .int 4]) n4
      refine ⟨_, rfl, by show 2 ≤ sizeLine; decide, fun t5 n5 => ?_⟩
      have u5 := same_upd (o := .tup [.int (-5), .int 0]) n5
      refine ⟨_, rfl, by show 2 ≤ sizeLine; decide, fun t6 n6 => ?_⟩
      have u6 := same_upd (o := .tup [.int 4, .int (-3)]) n6
      refine ⟨_, rfl, by show 2 ≤ sizeLine; decide, fun t7 n7 => ?_⟩
      have u7 := same_upd (o := .tup [.int 0, .int (-5)]) n7
      refine ⟨by show 2 ≤ sizeLine; decide, fun t8 n8 => ?_⟩
      have u8 := same_upd (o := .tup [.int 1, .int 0]) n8
      refine ⟨_, rfl, by show 2 ≤ sizeLine; decide, fun t9 n9 => ?_⟩
      have u9 := same_upd (o := .tup [.int (-1), .int 0]) n9
      refine ⟨by show 10 ≤ sizeLine; decide, fun l nl => ?_⟩
      have s1 : Same H1 _ := u0.trans (u1.trans (u2.trans (u3.trans (u4.trans (u5.trans (u6.trans (u7.trans (u8.trans (u9)))))))))
      have ul := same_upd (o := .lst [.ref t0, .ref t1, .ref t2, .ref t3, .ref t4, .ref t5, .ref t6, .ref t7, .ref t8, .ref t9]) nl
      have hb2 := (hb1.same s1).same ul
      refine ⟨bx, l, _, rfl, hb2, SqL.of upd_same, (hb1.same s1).ne nl, by show 0 < 10; decide, by show 10 ≤ 1000; decide, fun H2 v hv B2 hb3 => ?_⟩
      have sm : Small K H2 v := by
        have kp := hb2.kp (K := K) B2
        have sm : ∀ t (x y : Int), _ → (x.natAbs ≤ 5 ∧ y.natAbs ≤ 5 ∧ ¬(x = 0 ∧ y = 0)) → Small K H2 (.ref t) := fun t x y (h : SqT K _ t [.int x, .int y]) h1 => ⟨t, x, y, rfl, kp _ _ h, h1⟩
        simp only [List.mem_cons, List.not_mem_nil, or_false] at hv
        rcases hv with rfl | rfl | rfl | rfl | rfl | rfl | rfl | rfl | rfl | rfl
        · exact sm _ (3) (4) (SqT.of (((u1.trans (u2.trans (u3.trans (u4.trans (u5.trans (u6.trans (u7.trans (u8.trans (u9)))))))))).trans ul _ _ upd_same)) (by decide)
        · exact sm _ (4) (3) (SqT.of (((u2.trans (u3.trans (u4.trans (u5.trans (u6.trans (u7.trans (u8.trans (u9))))))))).trans ul _ _ upd_same)) (by decide)
        · exact sm _ (5) (0) (SqT.of (((u3.trans (u4.trans (u5.trans (u6.trans (u7.trans (u8.trans (u9)))))))).trans ul _ _ upd_same)) (by decide)
        · exact sm _ (0) (5) (SqT.of (((u4.trans (u5.trans (u6.trans (u7.trans (u8.trans (u9))))))).trans ul _ _ upd_same)) (by decide)
        · exact sm _ (-3) (4) (SqT.of (((u5.trans (u6.trans (u7.trans (u8.trans (u9)))))).trans ul _ _ upd_same)) (by decide)
        · exact sm _ (-5) (0) (SqT.of (((u6.trans (u7.trans (u8.trans (u9))))).trans ul _ _ upd_same)) (by decide)
        · exact sm _ (4) (-3) (SqT.of (((u7.trans (u8.trans (u9)))).trans ul _ _ upd_same)) (by decide)
        · exact sm _ (0) (-5) (SqT.of (((u8.trans (u9))).trans ul _ _ upd_same)) (by decide)
        · exact sm _ (1) (0) (SqT.of ((u9).trans ul _ _ upd_same)) (by decide)
        · exact sm _ (-1) (0) (SqT.of (ul _ _ upd_same)) (by decide)
      obtain ⟨t, x, y, rfl, ht, hx, hy, hne⟩ := sm
      refine ⟨t, _, rfl, ht, rfl, _, _, rfl, _, _, rfl, rfl, ?_⟩
      refine ⟨_, rfl, by show 2 ≤ sizeLine; decide, fun p np => ?_⟩
      have v1 := same_upd (o := .tup [.int x, .int 1]) np
      refine ⟨_, rfl, by show 2 ≤ sizeLine; decide, fun q nq => ?_⟩
      have v2 := same_upd (o := .tup [.int y, .int 1]) nq
      refine ⟨by show 2 ≤ sizeLine; decide, fun r nr => ?_⟩
      have v3 := same_upd (o := .tup [.ref p, .ref q]) nr
      have sv := (v1.trans v2).trans v3
      refine k _ _ ((x, 1), (y, 1)) ((B1.trans (.of (s1.trans ul))).trans (B2.trans (.of sv))) (hb3.same sv) ⟨r, _, _, rfl, SqT.of upd_same, ⟨p, rfl, Same.tup (v2.trans v3) (SqT.of upd_same)⟩, ⟨q, rfl, Same.tup v3 (SqT.of upd_same)⟩⟩ ?_ ?_
      · exact ⟨int_ok hx, int_ok hy⟩
      · intro e
        have e1 : x = 0 := congrArg (fun z : Ar => z.1.1) e
        have e2 : y = 0 := congrArg (fun z : Ar => z.2.1) e
        exact hne ⟨e1, e2⟩
    · refine ⟨_, rfl, bx, rfl, hb1, fun H2 v z B2 hb2 r2 o2 => ?_⟩
      refine ⟨_, rfl, by show 2 ≤ sizeLine; decide, fun p np => ?_⟩
      have v1 := same_upd (o := .tup [.int 0, .int 1]) np
      refine ⟨by show 2 ≤ sizeLine; decide, fun q nq => ?_⟩
      have v2 := same_upd (o := .tup [.int 0, .int 1]) nq
      refine ⟨by show 2 ≤ sizeLine; decide, fun r nr => ?_⟩
      have v3 := same_upd (o := .tup [.ref p, .ref q]) nr
      have sv := (v1.trans v2).trans v3
      refine ⟨dAr z, dAr zer, (r2.kp (.of sv)).dp, (show IsAr K _ (.ref r) zer from ⟨r, _, _, rfl, SqT.of upd_same, ⟨p, rfl, Same.tup (v2.trans v3) (SqT.of upd_same)⟩, ⟨q, rfl, Same.tup v3 (SqT.of upd_same)⟩⟩).dp, shaped_ar z, shaped_ar zer, _, rfl, ?_⟩
      cases e : PyData.eqv (dAr z) (dAr zer) with
      | false => exact ⟨_, rfl, k _ _ z ((B1.trans B2).trans (.of sv)) (hb2.same sv) (r2.kp (.of sv)) o2 (eqv_ne e)⟩
      | true =>
        refine ⟨by show 2 ≤ sizeLine; decide, fun p' np' => ?_⟩
        have v4 := same_upd (o := .tup [.int 2, .int 1]) np'
        refine ⟨by show 2 ≤ sizeLine; decide, fun q' nq' => ?_⟩
        have v5 := same_upd (o := .tup [.int 0, .int 1]) nq'
        refine ⟨by show 2 ≤ sizeLine; decide, fun r' nr' => ?_⟩
        have v6 := same_upd (o := .tup [.ref p', .ref q']) nr'
        have sw := (v4.trans v5).trans v6
        exact k _ _ ((2, 1), (0, 1)) ((B1.trans B2).trans (.of (sv.trans sw))) (hb2.same (sv.trans sw)) ⟨r', _, _, rfl, SqT.of upd_same, ⟨p', rfl, Same.tup (v5.trans v6) (SqT.of upd_same)⟩, ⟨q', rfl, Same.tup v6 (SqT.of upd_same)⟩⟩ ⟨⟨by decide, by decide, by decide, by decide⟩, by decide, by decide, by decide, by decide⟩ (by decide)
theorem sc__law_part : FnScope ["_law_box_here"] ["_law_box_here"] (defScope (topS 46)) := ⟨rfl, rfl, rfl, by decide +kernel, rfl, by decide +kernel, by decide +kernel⟩
theorem cal__law_part (D : Def K mg "_law_part" (topS 46)) (cD : Cal P w K mg base 1 "_law_draw" ["_law_box_here", "_law_many"] spDraw) (cL : Cal P w K mg base 1 "_law_low" ["_law_above", "_law_beneath"] (spLow K)) : Cal P w K mg base 2 "_law_part" ["_law_box_here"] (spSmall K) := by
  obtain ⟨fD, fdD, gD, kD, bD, GD⟩ := cD
  obtain ⟨fL, fdL, gL, kL, bL, GL⟩ := cL
  refine D.cal sc__law_part (fun _ _ _ _ _ _ us hl => match us, hl with | [_], _ => rfl) (fun vs H Q E h => ?_) (fun f cdv A outer s H vs Q E hr h => ?_)
  · obtain ⟨bx, rfl, _⟩ := h
    rfl
  · obtain ⟨bx, rfl, hb, k⟩ := h
    refine ⟨_, pss_cons (ps_if (pt_cmpR op_eq (pe_call GD hr (by rfl) gD kD bD .nil pass0 (pa_cons (pv 0) (pa_cons pe_int pa_nil))) pe_int (nomark _)) (pss_one (ps_ret (pe_call GL hr (by rfl) gL kL bL .nil pass0 (pa_cons (pe_op op_add (pe_op op_sub (pe_call GD hr (by rfl) gD kD bD .nil pass0 (pa_cons (pv 0) (pa_cons (pe_op op_sub (pe_op op_mul pe_int (pe_op op_pow pe_int pe_int)) pe_int) pa_nil))) (pe_op op_pow pe_int pe_int)) pe_int) (pa_cons (pe_op op_add pe_int (pe_call GD hr (by rfl) gD kD bD .nil pass0 (pa_cons (pv 0) (pa_cons (pe_op op_sub (pe_op op_pow pe_int pe_int) pe_int) pa_nil)))) pa_nil))))) pss_nil) (pss_one (ps_ret (pe_call GL hr (by rfl) gL kL bL .nil pass0 (pa_cons (pe_op op_sub (pe_call GD hr (by rfl) gD kD bD .nil pass0 (pa_cons (pv 0) (pa_cons pe_int pa_nil))) pe_int) (pa_cons (pe_op op_add pe_int (pe_call GD hr (by rfl) gD kD bD .nil pass0 (pa_cons (pv 0) (pa_cons pe_int pa_nil)))) pa_nil))))), ?_⟩
    refine ⟨_, rfl, bx, 5, rfl, hb, by decide, by unfold Lt2; decide, fun H1 x x0 x1 B1 hb1 => ?_⟩
    refine ⟨rfl, _, rfl, ?_⟩
    refine ite2 (fun _ => ?_) (fun _ => ?_)
    · refine ⟨_, rfl, _, _, rfl, rfl, ⟨by decide, by decide, by decide⟩, _, _, rfl, rfl, .inl ⟨by decide, by decide⟩, _, _, rfl, rfl, ?_⟩
      refine ⟨bx, 2 * 10 ^ (12 : Int).toNat - 1, rfl, hb1, by rw [p12]; decide, by rw [p12]; unfold Lt2; decide, fun H2 a a0 a1 B2 hb2 => ?_⟩
      rw [p12] at a1
      refine ⟨_, _, rfl, rfl, ⟨by decide, by decide, by decide⟩, _, _, rfl, rfl, _, _, rfl, rfl, ?_⟩
      refine ⟨_, rfl, _, _, rfl, rfl, ⟨by decide, by decide, by decide⟩, _, _, rfl, rfl, ?_⟩
      refine ⟨bx, 10 ^ (12 : Int).toNat - 1, rfl, hb2, by rw [p12]; decide, by rw [p12]; unfold Lt2; decide, fun H3 b b0 b1 B3 hb3 => ?_⟩
      rw [p12] at b1
      refine ⟨_, _, rfl, rfl, ?_⟩
      have n1 : (a - 10 ^ (12 : Int).toNat + 1).natAbs < 2 ^ 40 := by
        rw [p12]
        omega
      refine ⟨_, _, rfl, (by omega : 0 < 1 + b), lt_big n1, lt_big (by omega), fun H4 v4 s4 r4 => ?_⟩
      exact k _ _ _ (((B1.trans B2).trans B3).trans (.of s4)) (hb3.same s4) r4 (low_ok (by omega) n1 (by omega))
    · refine ⟨_, rfl, bx, 41, rfl, hb1, by decide, by unfold Lt2; decide, fun H2 a a0 a1 B2 hb2 => ?_⟩
      refine ⟨_, _, rfl, rfl, _, rfl, bx, 9, rfl, hb2, by decide, by unfold Lt2; decide, fun H3 b b0 b1 B3 hb3 => ?_⟩
      refine ⟨_, _, rfl, rfl, ?_⟩
      refine ⟨_, _, rfl, (by omega : 0 < 1 + b), lt_big (by omega), lt_big (by omega), fun H4 v4 s4 r4 => ?_⟩
      exact k _ _ _ (((B1.trans B2).trans B3).trans (.of s4)) (hb3.same s4) r4 (low_ok (by omega) (by omega) (by omega))
end
end K14

namespace K14
open PySem PySem.Spec PyProof.Rows L2

/-! ### names: plain -/
def letS : Str := Str.ofString "abcdefghijklmnopqrstuvwxyz"
theorem letLen : letS.length = 26 := by decide +kernel
theorem letAt : ∀ j : Nat, j < 26 → letS.cps.toList[j]? = some (97 + j) := by decide +kernel
theorem letIn {c : Nat} (h : 97 ≤ c) (h2 : c < 123) : c ∈ letS.cps.toList := by
  have e := letAt (c - 97) (by omega)
  rw [show 97 + (c - 97) = c by omega] at e
  exact List.mem_of_getElem? e
def sgn (s t : Int) (k : Nat) : Nat := 97 + ((s + t * (k : Int)) % 26).toNat
def one1 (c : Nat) : Str := ⟨#[c]⟩
def nameOf (pk : Nat) (tl : Str) (s t : Int) (k : Nat) : Str := match pk with
  | 0 => one1 (sgn s t k) ++ tl
  | 1 => tl ++ one1 (sgn s t k)
  | _ => one1 (sgn s t k) ++ (if (k : Int) % 2 = 0 then Str.empty else tl)
def SigOk (x : Str) : Prop := ∀ c ∈ x.cps.toList, 97 ≤ c ∧ c < 123
def NmOk (x : Str) : Prop := 1 ≤ x.length ∧ x.length ≤ 6 ∧ SigOk x
def NamesOk (ns : List Str) : Prop := ns.Nodup ∧ ∀ x ∈ ns, NmOk x
def TlOk (x : Str) : Prop := x.length ≤ 5 ∧ SigOk x
theorem tl_ok : ∀ x ∈ ([Str.ofString "", Str.ofString "q", Str.ofString "zz", Str.ofString "rod", Str.ofString "ended"] : List Str), TlOk x := by
  unfold TlOk SigOk
  decide +kernel
theorem sgn_ok (s t : Int) (k : Nat) : 97 ≤ sgn s t k ∧ sgn s t k < 123 := by
  unfold sgn
  omega
theorem cps_app (x y : Str) : (x ++ y).cps.toList = x.cps.toList ++ y.cps.toList := by rw [Str.cps_append, Array.toList_append]
theorem sig_app {x y : Str} (hx : SigOk x) (hy : SigOk y) : SigOk (x ++ y) := fun c hc => by
  rw [cps_app] at hc
  exact (List.mem_append.mp hc).elim (hx c) (hy c)
theorem sig_one (s t : Int) (k : Nat) : SigOk (one1 (sgn s t k)) := fun c hc => by
  have e : c = sgn s t k := by simpa [one1] using hc
  rw [e]
  exact sgn_ok s t k
theorem one_len (c : Nat) : (one1 c).length = 1 := rfl
theorem nm_ok {tl : Str} (h : TlOk tl) (pk : Nat) (s t : Int) (k : Nat) : NmOk (nameOf pk tl s t k) := by
  obtain ⟨hl, hs⟩ := h
  unfold nameOf
  split
  · exact ⟨by rw [Str.length_append, one_len]; omega, by rw [Str.length_append, one_len]; omega, sig_app (sig_one s t k) hs⟩
  · exact ⟨by rw [Str.length_append, one_len]; omega, by rw [Str.length_append, one_len]; omega, sig_app hs (sig_one s t k)⟩
  · split
    · exact ⟨by rw [Str.append_empty, one_len]; omega, by rw [Str.append_empty, one_len]; omega, by rw [Str.append_empty]; exact sig_one s t k⟩
    · exact ⟨by rw [Str.length_append, one_len]; omega, by rw [Str.length_append, one_len]; omega, sig_app (sig_one s t k) hs⟩
theorem cps_one (c : Nat) : (one1 c).cps.toList = [c] := rfl
theorem name_inj {pk : Nat} {tl : Str} {s t : Int} {i j : Nat} (h : nameOf pk tl s t i = nameOf pk tl s t j) : sgn s t i = sgn s t j := by
  have e := congrArg (fun x : Str => x.cps.toList) h
  unfold nameOf at e
  split at e <;> simp only [cps_app, cps_one] at e
  · exact (List.cons.inj e).1
  · have := List.append_cancel_left e
    exact (List.cons.inj this).1
  · exact (List.cons.inj e).1
theorem sgn_inj {s t : Int} (ht : t = 1 ∨ t = 3 ∨ t = 5 ∨ t = 7 ∨ t = 9 ∨ t = 11) {i j : Nat} (hi : i < 8) (hj : j < 8) (h : sgn s t i = sgn s t j) : i = j := by
  unfold sgn at h
  rcases ht with rfl | rfl | rfl | rfl | rfl | rfl <;> omega
theorem names_ok {tl : Str} (h : TlOk tl) {s t : Int} (ht : t = 1 ∨ t = 3 ∨ t = 5 ∨ t = 7 ∨ t = 9 ∨ t = 11) (pk : Nat) {n : Nat} (hn : n ≤ 8) : NamesOk ((List.range n).map (nameOf pk tl s t)) := by
  refine ⟨?_, fun x hx => ?_⟩
  · refine List.nodup_iff_pairwise_ne.mpr (List.pairwise_map.mpr ?_)
    have p : List.Pairwise (fun a b => a ≠ b) (List.range n) := List.nodup_range
    refine (List.Pairwise.and_mem.mp p).imp ?_
    rintro a b ⟨ha, hb, hne⟩ e
    have ha' := List.mem_range.mp ha
    have hb' := List.mem_range.mp hb
    exact hne (sgn_inj ht (by omega) (by omega) (name_inj e))
  · obtain ⟨k, _, rfl⟩ := List.mem_map.mp hx
    exact nm_ok h pk s t k
theorem atN {xs : List Nat} {z : Int} {j : Nat} {v : Nat} (e : z = (j : Int)) (h : xs[j]? = some v) : atI xs z = some v := by
  rw [e]
  exact atI_nat h
/-! ### a text times 0 or 1 -/
theorem op_rep01 {X : Cx} : OpR X (binaryOp .Mult) (fun x y H Q => ∃ z n, x = .str z ∧ y = .int n ∧ ((n = 0 ∧ Q (.str Str.empty) H) ∨ (n = 1 ∧ Q (.str z) H))) := by
  intro pins s σ H x y v u Q I rx ry h
  obtain ⟨z, n, rfl, rfl, q⟩ := h
  obtain ⟨t, rfl⟩ := rx
  obtain ⟨t', rfl⟩ := ry
  rcases q with ⟨rfl, q⟩ | ⟨rfl, q⟩
  · exact PySem.P.mul_str_none (by decide) (by decide) ⟨.str _, H, I.tok _, ⟨_, rfl⟩, q⟩
  · refine PySem.P.mul_str (by decide) (fun _ h => by simp at h) (fun _ h => by simp at h) ?_
    exact ⟨.str z, H, I, ⟨_, rfl⟩, q⟩
def spNames (K : PySem.W.Frag) : Sp := fun vs H Q _ => ∃ (bx : Addr) (n : Int), vs = [.ref bx, .int n] ∧ BoxOk H bx ∧ 1 ≤ n ∧ n ≤ 8 ∧ ∀ H' a ns, But bx H H' → BoxOk H' bx → H' a = some (.lst (ns.map V.str)) → a ≠ bx → ns.length = n.toNat → NamesOk ns → Q (.ref a) H'
section
variable {P : Program} {w : World} {K : PySem.W.Frag} {mg : Str → Option Value} {base : Heap}

theorem sc__law_names : FnScope ["_law_box_here", "_law_many", "_law_letters", "_law_my_start", "_law_step", "_law_tail", "_law_pick", "_law_found", "_law_k", "_law_sign"] ["_law_box_here", "_law_many"] (defScope (topS 40)) := ⟨rfl, rfl, rfl, by decide +kernel, rfl, by decide +kernel, by decide +kernel⟩
theorem cal__law_names (D : Def K mg "_law_names" (topS 40)) (mRange : mg "range" = none) (cD : Cal P w K mg base 1 "_law_draw" ["_law_box_here", "_law_many"] spDraw) (cO : Cal P w K mg base 2 "_law_of" ["_law_box_here", "_law_some"] (spOf K)) : Cal P w K mg base 3 "_law_names" ["_law_box_here", "_law_many"] (spNames K) := by
  obtain ⟨fD, fdD, gD, kD, bD, GD⟩ := cD
  obtain ⟨fO, fdO, gO, kO, bO, GO⟩ := cO
  refine D.cal sc__law_names (fun _ _ _ _ _ _ us hl => match us, hl with | [_, _], _ => rfl) (fun vs H Q E h => ?_) (fun f cdv A outer s H vs Q E hr h => ?_)
  · obtain ⟨bx, n, rfl, _⟩ := h
    rfl
  · obtain ⟨bx, n, rfl, hb, n1, n8, k⟩ := h
    have hr1 : Room 1 _ := hr.mono (by decide)
    have nd := sc__law_names.nd
    refine ⟨_, pss_cons (ps_set (i := 2) nd rfl (.inl rfl) pe_str)
      (pss_cons (ps_par (i := 3) (j := 4) rfl nd rfl rfl (by decide) rfl rfl (pa_cons (pe_call GD hr1 (by rfl) gD kD bD .nil pass0 (pa_cons (pv 0) (pa_cons pe_int pa_nil))) (pa_cons (pe_call GO hr (by rfl) gO kO bO .nil pass0 (pa_cons (pv 0) (pa_cons (pe_lst (pa_cons pe_int (pa_cons pe_int (pa_cons pe_int (pa_cons pe_int (pa_cons pe_int (pa_cons pe_int pa_nil))))))) pa_nil))) pa_nil)) (by rfl))
      (pss_cons (ps_par (i := 5) (j := 6) rfl nd rfl rfl (by decide) rfl rfl (pa_cons (pe_call GO hr (by rfl) gO kO bO .nil pass0 (pa_cons (pv 0) (pa_cons (pe_lst (pa_cons pe_str (pa_cons pe_str (pa_cons pe_str (pa_cons pe_str (pa_cons pe_str pa_nil)))))) pa_nil))) (pa_cons (pe_call GD hr1 (by rfl) gD kD bD .nil pass0 (pa_cons (pv 0) (pa_cons pe_int pa_nil))) pa_nil)) (by rfl))
      (pss_cons (ps_set (i := 7) nd rfl (.inl rfl) (pe_lst pa_nil))
      (pss_cons (ps_for PassesOwn.never rfl (pi_range1 (by rfl) mRange (pa_cons (pv 1) pa_nil)) (pg_name (i := 8) nd rfl (.inl rfl))
        (pss_cons (ps_set (i := 9) nd rfl (.inl rfl) (pe_ix ix_str (pv 2) (pe_op op_mod (pe_op op_add (pv 3) (pe_op op_mul (pv 4) (pv 8))) pe_int) (fun _ _ => rfl)))
        (pss_one (ps_expr (pe_bm PySem.F.plainAttrs_list PySem.F.slot_list_append PySem.F.type_list_append mt_append (pv 7) (pa_cons (pe_ix ix_list (pe_lst (pa_cons (pe_op op_add_str (pv 9) (pv 5)) (pa_cons (pe_op op_add_str (pv 5) (pv 9)) (pa_cons (pe_op op_add_str (pv 9) (pe_op op_rep01 (pv 5) (pe_op op_mod (pv 8) pe_int))) pa_nil)))) (pv 6) (fun _ _ => rfl)) pa_nil))))))
      (pss_one (ps_ret (pv 7))))))), ?_⟩
    -- start, step
    refine ⟨_, rfl, bx, 26, rfl, hb, by decide, by unfold Lt2; decide, fun H1 a a0 a1 B1 hb1 => ?_⟩
    refine ⟨_, rfl, by show 6 ≤ sizeLine; decide, fun l nl => ?_⟩
    have s1 := same_upd (o := .lst [.int 1, .int 3, .int 5, .int 7, .int 9, .int 11]) nl
    refine ⟨bx, l, _, rfl, hb1.same s1, SqL.of upd_same, hb1.ne nl, by decide, by decide, fun H2 v hv B2 hb2 => ?_⟩
    obtain ⟨t, rfl, ht⟩ : ∃ t : Int, v = .int t ∧ (t = 1 ∨ t = 3 ∨ t = 5 ∨ t = 7 ∨ t = 9 ∨ t = 11) := by
      simp only [List.mem_cons, List.not_mem_nil, or_false] at hv
      rcases hv with rfl | rfl | rfl | rfl | rfl | rfl <;> exact ⟨_, rfl, by decide⟩
    refine ⟨_, _, rfl, ?_⟩
    -- tail, pick
    refine ⟨_, rfl, by show 5 ≤ sizeLine; decide, fun l2 nl2 => ?_⟩
    have s2 := same_upd (o := .lst [.str (Str.ofString ""), .str (Str.ofString "q"), .str (Str.ofString "zz"), .str (Str.ofString "rod"), .str (Str.ofString "ended")]) nl2
    refine ⟨bx, l2, _, rfl, hb2.same s2, SqL.of upd_same, hb2.ne nl2, by decide, by decide, fun H3 v hv B3 hb3 => ?_⟩
    obtain ⟨tl, rfl, htl⟩ : ∃ tl : Str, v = .str tl ∧ TlOk tl := by
      have h5 : v ∈ ([Str.ofString "", Str.ofString "q", Str.ofString "zz", Str.ofString "rod", Str.ofString "ended"] : List Str).map V.str := hv
      obtain ⟨tl, h6, rfl⟩ := List.mem_map.mp h5
      exact ⟨tl, rfl, tl_ok tl h6⟩
    refine ⟨_, rfl, bx, 3, rfl, hb3, by decide, by unfold Lt2; decide, fun H4 pk p0 p1 B4 hb4 => ?_⟩
    refine ⟨_, _, rfl, ?_⟩
    have B : But bx H H4 := ((B1.trans (.of s1)).trans (B2.trans (.of s2))).trans (B3.trans B4)
    -- found
    refine ⟨Nat.zero_le _, fun fa nf => ?_⟩
    have s5 := same_upd (o := .lst []) nf
    refine ⟨_, rfl, n, rfl, by omega, by omega, for_range (lo := 0) (n := n.toNat) (fun i σ H' => ∃ y8 y9, σ = [some (.ref bx), some (.int n), some (.str letS), some (.int a), some (.int t), some (.str tl), some (.int pk), some (.ref fa), y8, y9] ∧ Same H4 H' ∧ H' fa = some (.lst (((List.range i).map (nameOf pk.toNat tl a t)).map V.str)))
      ⟨none, none, rfl, s5, upd_same⟩ ?_ ?_⟩
    · rintro i σ H5 hi ⟨y8, y9, rfl, s6, g⟩
      have hc : letS.cps.toList[((a + t * (0 + (i : Int))) % 26).toNat]? = some (sgn a t i) := by
        rw [Int.zero_add]
        exact letAt _ (by omega)
      have hat : atI letS.cps.toList ((a + t * (0 + (i : Int))) % 26) = some (sgn a t i) := atN (j := ((a + t * (0 + (i : Int))) % 26).toNat) (by omega) hc
      refine ⟨_, rfl, _, rfl, _, rfl, _, rfl, _, _, rfl, rfl, .inl ⟨by omega, by omega⟩, _, _, rfl, rfl, _, _, rfl, rfl, by show (0 : Int) < 26; decide, letS, _, sgn a t i, rfl, rfl, by rw [letLen]; decide, hat, ?_⟩
      have lt : tl.length ≤ 5 := htl.1
      have lo : (one1 (sgn a t i)).length = 1 := rfl
      refine ⟨_, rfl, .inl ⟨rfl, _, SqL.of g⟩, ?_⟩
      refine ⟨_, rfl, _, rfl, one1 (sgn a t i), tl, rfl, rfl, by rw [lo]; exact Nat.le_trans (by omega : 1 + tl.length ≤ 6) (by decide), ?_⟩
      refine ⟨_, rfl, _, rfl, tl, one1 (sgn a t i), rfl, rfl, by rw [lo]; exact Nat.le_trans (by omega : tl.length + 1 ≤ 6) (by decide), ?_⟩
      refine ⟨_, rfl, _, rfl, _, rfl, _, _, rfl, rfl, by show (0 : Int) < 2; decide, ?_⟩
      have fin : ∀ tl2 : Str, tl2 = (if (i : Int) % 2 = 0 then Str.empty else tl) → atI [V.str (one1 (sgn a t i) ++ tl), V.str (tl ++ one1 (sgn a t i)), V.str (one1 (sgn a t i) ++ tl2)] pk = some (V.str (nameOf pk.toNat tl a t i)) := by
        intro tl2 e
        subst e
        rcases (by omega : pk = 0 ∨ pk = 1 ∨ pk = 2) with rfl | rfl | rfl <;> rfl
      have done : ∀ tl2 : Str, tl2 = (if (i : Int) % 2 = 0 then Str.empty else tl) → tl2.length ≤ 5 ∧ ∀ p, H5 p = none → ∀ y, atI [V.str (one1 (sgn a t i) ++ tl), V.str (tl ++ one1 (sgn a t i)), V.str (one1 (sgn a t i) ++ tl2)] pk = some y → y = V.str (nameOf pk.toNat tl a t i) := by
        intro tl2 e
        refine ⟨?_, fun p hp y hy => ?_⟩
        · rw [e]
          split
          · exact Nat.zero_le _
          · exact lt
        · rw [fin tl2 e] at hy
          exact (Option.some.inj hy).symm
      have last : ∀ tl2 : Str, tl2 = (if (i : Int) % 2 = 0 then Str.empty else tl) → ∀ p, H5 p = none → ∃ acc, upd H5 p (.lst [V.str (one1 (sgn a t i) ++ tl), V.str (tl ++ one1 (sgn a t i)), V.str (one1 (sgn a t i) ++ tl2)]) fa = some (.lst acc) ∧ acc.length < sizeLine ∧
          Same H4 (upd (upd H5 p (.lst [V.str (one1 (sgn a t i) ++ tl), V.str (tl ++ one1 (sgn a t i)), V.str (one1 (sgn a t i) ++ tl2)])) fa (.lst (acc ++ [V.str (nameOf pk.toNat tl a t i)]))) ∧ acc ++ [V.str (nameOf pk.toNat tl a t i)] = ((List.range (i + 1)).map (nameOf pk.toNat tl a t)).map V.str := by
        intro tl2 e p np
        have sp := same_upd (o := .lst [V.str (one1 (sgn a t i) ++ tl), V.str (tl ++ one1 (sgn a t i)), V.str (one1 (sgn a t i) ++ tl2)]) np
        refine ⟨_, sp _ _ g, ?_, same_updN (s6.trans sp) nf, ?_⟩
        · rw [List.length_map, List.length_map, List.length_range]
          exact small1000 (by omega)
        · rw [List.range_succ, List.map_append, List.map_append]
          rfl
      have z2 : (0 + (i : Int)) % 2 = 0 ∨ (0 + (i : Int)) % 2 = 1 := by omega
      rcases z2 with z2 | z2
      · have e : Str.empty = (if (i : Int) % 2 = 0 then Str.empty else tl) := by rw [if_pos (by omega)]
        refine ⟨tl, _, rfl, rfl, .inl ⟨z2, ?_⟩⟩
        refine ⟨one1 (sgn a t i), Str.empty, rfl, rfl, by rw [lo]; decide, ?_⟩
        refine ⟨by show 3 ≤ sizeLine; decide, fun p np => ?_⟩
        obtain ⟨acc, g1, g2, g3, g4⟩ := last _ e p np
        refine ⟨_, rfl, p, _, pk, _, rfl, rfl, SqL.of upd_same, fin _ e, fa, acc, _, rfl, rfl, g1, g2, ?_⟩
        refine ⟨_, _, rfl, g3, ?_⟩
        rw [upd_same, g4]
      · have e : tl = (if (i : Int) % 2 = 0 then Str.empty else tl) := by rw [if_neg (by omega)]
        refine ⟨tl, _, rfl, rfl, .inr ⟨z2, ?_⟩⟩
        refine ⟨one1 (sgn a t i), tl, rfl, rfl, by rw [lo]; exact Nat.le_trans (by omega : 1 + tl.length ≤ 6) (by decide), ?_⟩
        refine ⟨by show 3 ≤ sizeLine; decide, fun p np => ?_⟩
        obtain ⟨acc, g1, g2, g3, g4⟩ := last _ e p np
        refine ⟨_, rfl, p, _, pk, _, rfl, rfl, SqL.of upd_same, fin _ e, fa, acc, _, rfl, rfl, g1, g2, ?_⟩
        refine ⟨_, _, rfl, g3, ?_⟩
        rw [upd_same, g4]
    · rintro σ H5 ⟨y8, y9, rfl, s6, g⟩
      refine ⟨_, rfl, k _ fa _ (B.trans (.of s6)) (hb4.same s6) g (hb4.ne nf) ?_ (names_ok htl ht _ (by omega))⟩
      rw [List.length_map, List.length_range]
end
end K14

namespace K14
open PySem PySem.Spec PyProof.Rows L2

/-! ### rods, drawn -/
structure RodsOk (rs : List (Str × Ar)) : Prop where
  l1 : 1 ≤ rs.length
  l8 : rs.length ≤ 8
  nd : (rs.map (·.1)).Nodup
  nm : ∀ r ∈ rs, NmOk r.1
  ar : ∀ r ∈ rs, ArOk r.2
  nz : ∀ r ∈ rs, r.2 ≠ zer
theorem Paired.set {α β : Type} {F : α → β → Prop} : ∀ {l : List α} {r : List β} {i : Nat} {x : α} {y : β}, Paired F l r → F x y → Paired F (l.set i x) (r.set i y)
  | _, _, _, _, _, .nil, _ => .nil
  | _, _, 0, _, _, .cons _ t, h => .cons h t
  | _, _, i + 1, _, _, .cons q t, h => .cons q (Paired.set t h)
def negAr (z : Ar) : Ar := ((0 - z.1.1, z.1.2), (0 - z.2.1, z.2.2))
theorem neg_pt {p : Pt} (h : PtOk p) : PtOk (0 - p.1, p.2) := by
  refine ⟨h.1, ?_, ?_, h.2.2.2⟩
  · show Int.gcd (0 - p.1) p.2 = 1
    rw [Int.zero_sub, Int.neg_gcd]
    exact h.2.1
  · show (0 - p.1).natAbs < 2 ^ 40
    rw [Int.zero_sub, Int.natAbs_neg]
    exact h.2.2.1
theorem neg_ok {z : Ar} (h : ArOk z) : ArOk (negAr z) := ⟨neg_pt h.1, neg_pt h.2⟩
theorem neg_nz {z : Ar} (h : z ≠ zer) : negAr z ≠ zer := fun e => h (by
  obtain ⟨⟨a, b⟩, ⟨c, d⟩⟩ := z
  have e1 : 0 - a = 0 := congrArg (fun z : Ar => z.1.1) e
  have e2 : b = 1 := congrArg (fun z : Ar => z.1.2) e
  have e3 : 0 - c = 0 := congrArg (fun z : Ar => z.2.1) e
  have e4 : d = 1 := congrArg (fun z : Ar => z.2.2) e
  have e5 : a = 0 := by omega
  have e6 : c = 0 := by omega
  subst e2 e4 e5 e6
  rfl)
theorem RodsOk.set {rs : List (Str × Ar)} (h : RodsOk rs) {i : Nat} (hi : i < rs.length) {z : Ar} (h1 : ArOk z) (h2 : z ≠ zer) : RodsOk (rs.set i (rs[i].1, z)) := by
  have mem : ∀ r ∈ rs.set i (rs[i].1, z), r ∈ rs ∨ r = (rs[i].1, z) := fun r hr => List.mem_or_eq_of_mem_set hr
  refine ⟨by rw [List.length_set]; exact h.l1, by rw [List.length_set]; exact h.l8, ?_, fun r hr => ?_, fun r hr => ?_, fun r hr => ?_⟩
  · rw [List.map_set]
    have e : (rs.map (·.1)).set i rs[i].1 = rs.map (·.1) := by
      have := List.set_getElem_self (as := rs.map (·.1)) (i := i) (by rw [List.length_map]; exact hi)
      rw [List.getElem_map] at this
      exact this
    rw [e]
    exact h.nd
  · rcases mem r hr with hm | rfl
    · exact h.nm r hm
    · show NmOk rs[i].1
      exact h.nm rs[i] (List.getElem_mem hi)
  · rcases mem r hr with hm | rfl
    · exact h.ar r hm
    · exact h1
  · rcases mem r hr with hm | rfl
    · exact h.nz r hm
    · exact h2
def spRods (K : PySem.W.Frag) : Sp := fun vs H Q _ => ∃ bx : Addr, vs = [.ref bx, .int 1, .int 8] ∧ BoxOk H bx ∧ ∀ H' a us rs, But bx H H' → BoxOk H' bx → H a = none → H' a = some (.lst us) → Paired (IsRod K H') us rs → RodsOk rs → Q (.ref a) H'
section
variable {P : Program} {w : World} {K : PySem.W.Frag} {mg : Str → Option Value} {base : Heap}

theorem sc__law_rods : FnScope ["_law_box_here", "_law_low_here", "_law_most", "_law_names_here", "_law_rods_here", "_law_at_here", "_law_x", "_law_y", "_law_name"] ["_law_box_here", "_law_low_here", "_law_most"] (defScope (topS 45)) := ⟨rfl, rfl, rfl, by decide +kernel, rfl, by decide +kernel, by decide +kernel⟩
theorem cal__law_rods (D : Def K mg "_law_rods" (topS 45)) (mLen : mg "len" = none) (cD : Cal P w K mg base 1 "_law_draw" ["_law_box_here", "_law_many"] spDraw) (cN : Cal P w K mg base 3 "_law_names" ["_law_box_here", "_law_many"] (spNames K)) (cA : Cal P w K mg base 5 "_law_arrow" ["_law_box_here"] (spArrow K)) : Cal P w K mg base 6 "_law_rods" ["_law_box_here", "_law_low_here", "_law_most"] (spRods K) := by
  obtain ⟨fD, fdD, gD, kD, bD, GD⟩ := cD
  obtain ⟨fN, fdN, gN, kN, bN, GN⟩ := cN
  obtain ⟨fA, fdA, gA, kA, bA, GA⟩ := cA
  refine D.cal sc__law_rods (fun _ _ _ _ _ _ us hl => match us, hl with | [_, _, _], _ => rfl) (fun vs H Q E h => ?_) (fun f cdv A outer s H vs Q E hr h => ?_)
  · obtain ⟨bx, rfl, _⟩ := h
    rfl
  · obtain ⟨bx, rfl, hb, k⟩ := h
    have hr1 : Room 1 _ := hr.mono (by decide)
    have hr3 : Room 3 _ := hr.mono (by decide)
    have nd := sc__law_rods.nd
    refine ⟨_, pss_cons (ps_set (i := 3) nd rfl (.inl rfl) (pe_call GN hr3 (by rfl) gN kN bN .nil pass0 (pa_cons (pv 0) (pa_cons (pe_op op_add (pv 1) (pe_call GD hr1 (by rfl) gD kD bD .nil pass0 (pa_cons (pv 0) (pa_cons (pe_op op_add (pe_op op_sub (pv 2) (pv 1)) pe_int) pa_nil)))) pa_nil))))
      (pss_cons (ps_setLc (i := 4) (own := [("_law_name", 8)]) (g := gName 8) (tt := tYes) rfl nd rfl rfl (sw_true rfl rfl rfl (by decide +kernel)) (pi_list (pv 3)) (blkOk_by (N := ["_law_box_here", "_law_low_here", "_law_most", "_law_names_here", "_law_rods_here", "_law_at_here", "_law_x", "_law_y", "_law_name"]) (sc := defScope (topS 45)) (by decide +kernel)) (fun _ _ _ _ _ => pg_name (i := 8) nd rfl (Or.inl rfl)) (fun _ _ _ _ _ => pts_nil) (fun _ _ _ _ _ => (pe_tup (pa_cons (pv 8) (pa_cons (pe_call GA hr (by rfl) gA kA bA .nil pass0 (pa_cons (pv 0) pa_nil)) pa_nil)))))
      (C8.pss_cut (ps_if (PW.pt (pw_and (pt_cmpR op_gt (pe_callB call_len_seq (by rfl) mLen PySem.boot_len (pa_cons (pv 4) pa_nil)) pe_int (nomark _)) (pw_and1 (pt_cmpR op_eq (pe_call GD hr1 (by rfl) gD kD bD .nil pass0 (pa_cons (pv 0) (pa_cons pe_int pa_nil))) pe_int (nomark _)))))
        (pss_cons (ps_set (i := 5) nd rfl (.inl rfl) (pe_op op_add pe_int (pe_call GD hr1 (by rfl) gD kD bD .nil pass0 (pa_cons (pv 0) (pa_cons (pe_op op_sub (pe_callB call_len_seq (by rfl) mLen PySem.boot_len (pa_cons (pv 4) pa_nil)) pe_int) pa_nil)))))
        (pss_cons (ps_asg (pe_ix ix_tup (pe_ix ix_list (pv 4) (pe_call GD hr1 (by rfl) gD kD bD .nil pass0 (pa_cons (pv 0) (pa_cons (pv 5) pa_nil))) (fun _ _ => rfl)) pe_int (fun _ _ => rfl)) (pg_tup rfl (pgs_cons (pg_name (i := 6) nd rfl (.inl rfl)) (pgs_cons (pg_name (i := 7) nd rfl (.inl rfl)) pgs_nil))))
        (pss_one (ps_asg (pe_tup (pa_cons (pe_ix ix_tup (pe_ix ix_list (pv 4) (pv 5) (fun _ _ => rfl)) pe_int (fun _ _ => rfl)) (pa_cons (pe_tup (pa_cons (pe_tup (pa_cons (pe_op op_sub pe_int (pe_ix ix_tup (pv 6) pe_int (fun _ _ => rfl))) (pa_cons (pe_ix ix_tup (pv 6) pe_int (fun _ _ => rfl)) pa_nil))) (pa_cons (pe_tup (pa_cons (pe_op op_sub pe_int (pe_ix ix_tup (pv 7) pe_int (fun _ _ => rfl))) (pa_cons (pe_ix ix_tup (pv 7) pe_int (fun _ _ => rfl)) pa_nil))) pa_nil))) pa_nil))) (pg_sub (pv 4) (pv 5) set_list))))) pss_nil)
      (pss_one (ps_ret (pv 4))))), ?_⟩
    -- names
    refine ⟨_, rfl, _, rfl, _, rfl, _, rfl, _, rfl, _, _, rfl, rfl, _, _, rfl, rfl, bx, _, rfl, hb, by decide, by unfold Lt2; decide, fun H1 x x0 x1 B1 hb1 => ?_⟩
    refine ⟨_, _, rfl, rfl, bx, 1 + x, rfl, hb1, by omega, by omega, fun H2 na ns B2 hb2 g2 nn ln nok => ?_⟩
    have B : But bx H H2 := B1.trans B2
    -- rods
    refine ⟨_, rfl, na, rfl, ⟨_, SqL.of g2⟩, fun D nD => lc_list (K := K) (a := na) (xs := ns.map V.str) (fun i H' => ∃ acc rs, But bx H2 H' ∧ BoxOk H' bx ∧ H' D = some (.lst acc) ∧ Paired (IsRod K H') acc rs ∧ rs.map (·.1) = ns.take i ∧ (∀ r ∈ rs, ArOk r.2) ∧ ∀ r ∈ rs, r.2 ≠ zer)
      ⟨[], [], But.refl.putD (hb2.ne nD) nD, hb2.putD But.refl hb2 nD, upd_same, .nil, rfl, (fun r hr => nomatch hr), (fun r hr => nomatch hr)⟩ (fun i H' _ ⟨_, _, b, _⟩ => BoxOk.seq nn b (SqL.of g2)) ?_ ?_⟩
    · rintro i y H3 hy ⟨acc, rs, B3, hb3, g3, p3, e3, o3, z3⟩
      rw [List.getElem?_map] at hy
      obtain ⟨nm, hnm, rfl⟩ := Option.map_eq_some_iff.mp hy
      refine ⟨rfl, ?_⟩
      refine ⟨_, rfl, _, rfl, bx, rfl, hb3, fun H4 v z B4 hb4 r4 o4 z4 => ?_⟩
      refine ⟨by show 2 ≤ sizeLine; decide, fun t nt => ?_⟩
      have s5 := same_upd (o := .tup [.str nm, v]) nt
      have g5 := s5 _ _ (B4.keep _ _ (hb2.ne nD) g3)
      have lacc : acc.length = rs.length := p3.length
      have lrs : rs.length ≤ 8 := by
        have := congrArg List.length e3
        rw [List.length_map, List.length_take] at this
        omega
      have B35 := (B3.trans B4).trans (.of s5)
      refine ⟨acc, g5, small1000 (by omega), acc ++ [.ref t], rs ++ [(nm, z)], B35.putD (hb2.ne nD) nD, hb2.putD B35 (hb4.same s5) nD, upd_same, ?_, ?_, fun r hr => ?_, fun r hr => ?_⟩
      · have kp : Kp K H3 (upd (upd H4 t (.tup [.str nm, v])) D (.lst (acc ++ [.ref t]))) := ((hb3.kp B4).trans (Kp.of s5)).trans (Kp.updL g5)
        refine Paired.app (Paired.mapP p3 fun _ _ q => q.kp kp) ⟨t, v, rfl, Kp.updL g5 _ _ (SqT.of upd_same), (r4.kp (.of s5)).kp (Kp.updL g5)⟩
      · rw [List.map_append, e3, List.take_add_one, hnm]
        rfl
      · rcases List.mem_append.mp hr with hr | hr
        · exact o3 r hr
        · rw [List.mem_singleton.mp hr]
          exact o4
      · rcases List.mem_append.mp hr with hr | hr
        · exact z3 r hr
        · rw [List.mem_singleton.mp hr]
          exact z4
    · rintro H3 ⟨acc, rs, B3, hb3, g3, p3, e3, o3, z3⟩
      have nDb := hb2.ne nD
      rw [List.length_map, List.take_length] at e3
      have lrs : rs.length = ns.length := by
        rw [← e3, List.length_map]
      have rok : RodsOk rs := by
        refine ⟨by omega, by omega, by rw [e3]; exact nok.1, fun r hr => nok.2 _ ?_, o3, z3⟩
        rw [← e3]
        exact List.mem_map_of_mem hr
      have lacc : acc.length = rs.length := p3.length
      refine ⟨fun σ' H' => ∃ y5 y6 y7 us rs', σ' = [some (.ref bx), some (.int 1), some (.int 8), some (.ref na), some (.ref D), y5, y6, y7, none] ∧ But bx H2 H' ∧ BoxOk H' bx ∧ H' D = some (.lst us) ∧ Paired (IsRod K H') us rs' ∧ RodsOk rs', ?_, ?_⟩
      · refine ⟨_, rfl, D, acc, rfl, .inl (SqL.of g3), _, _, rfl, rfl, _, rfl, ?_⟩
        refine ite2 (fun e => ?_) (fun _ => ⟨none, none, none, acc, rs, rfl, B3, hb3, g3, p3, rok⟩)
        have h2 : 1 < (acc.length : Int) := of_decide_eq_true e
        refine ⟨_, rfl, bx, 6, rfl, hb3, by decide, by unfold Lt2; decide, fun H4 y y0 y1 B4 hb4 => ?_⟩
        have g4 := B4.keep _ _ nDb g3
        refine ⟨rfl, _, rfl, ?_⟩
        refine ite2 (fun _ => ?_) (fun _ => ⟨none, none, none, acc, rs, rfl, B3.trans B4, hb4, g4, Paired.mapP p3 fun _ _ q => q.kp (hb3.kp B4), rok⟩)
        -- at
        refine ⟨_, rfl, _, rfl, D, acc, rfl, .inl (SqL.of g4), _, _, rfl, rfl, bx, (acc.length : Int) - 1, rfl, hb4, by omega, ?_, fun H5 u u0 u1 B5 hb5 => ?_⟩
        · have h64 : ((acc.length : Int) - 1).natAbs < 2 ^ 64 := by
            have := rok.l8
            omega
          exact h64
        have g5 := B5.keep _ _ nDb g4
        refine ⟨_, _, rfl, rfl, ?_⟩
        -- x, y
        refine ⟨_, rfl, _, rfl, _, rfl, bx, 1 + u, rfl, hb5, by omega, ?_, fun H6 j j0 j1 B6 hb6 => ?_⟩
        · have h64 : (1 + u).natAbs < 2 ^ 64 := by
            have := rok.l8
            omega
          exact h64
        have g6 := B6.keep _ _ nDb g5
        have B36 := (B4.trans B5).trans B6
        have p6 := Paired.mapP p3 fun _ _ q => IsRod.kp (K := K) ((hb3.kp B36)) q
        have hj : j.toNat < rs.length := by omega
        have hm : (1 + u).toNat < rs.length := by omega
        have gj : acc[j.toNat]? = some (acc[j.toNat]'(by omega)) := List.getElem?_eq_getElem (by omega)
        have gm : acc[(1 + u).toNat]? = some (acc[(1 + u).toNat]'(by omega)) := List.getElem?_eq_getElem (by omega)
        obtain ⟨tj, vj, ej, htj, ⟨aj, w1, w2, rfl, haj, ⟨c1, rfl, hc1⟩, ⟨c2, rfl, hc2⟩⟩⟩ := Paired.at p6 gj (List.getElem?_eq_getElem hj)
        obtain ⟨tm, vm, em, htm, _⟩ := Paired.at p6 gm (List.getElem?_eq_getElem hm)
        rw [ej] at gj
        rw [em] at gm
        have ok2 := rok.ar _ (List.getElem_mem hj)
        have nz2 := rok.nz _ (List.getElem_mem hj)
        generalize hzj : rs[j.toNat].2 = zj at haj hc1 hc2 ok2 nz2
        refine ⟨D, acc, j, _, rfl, rfl, SqL.of g6, at_of (j := j.toNat) (by omega) gj, tj, _, _, _, rfl, rfl, htj, at1, ?_⟩
        refine ⟨aj, _, rfl, haj, rfl, _, _, rfl, _, _, rfl, rfl, ?_⟩
        -- rods[at] = ..
        refine ⟨_, rfl, _, rfl, D, acc, 1 + u, _, rfl, rfl, SqL.of g6, at_of (j := (1 + u).toNat) (by omega) gm, tm, _, _, _, rfl, rfl, htm, at0, ?_⟩
        refine ⟨_, rfl, c1, _, _, _, rfl, rfl, hc1, at0, _, _, rfl, rfl, _, rfl, c1, _, _, _, rfl, rfl, hc1, at1, by show 2 ≤ sizeLine; decide, fun p np => ?_⟩
        have s1 := same_upd (o := .tup [.int (0 - zj.1.1), .int zj.1.2]) np
        refine ⟨_, rfl, c2, _, _, _, rfl, rfl, Same.tup s1 hc2, at0, _, _, rfl, rfl, _, rfl, c2, _, _, _, rfl, rfl, Same.tup s1 hc2, at1, by show 2 ≤ sizeLine; decide, fun q nq => ?_⟩
        have s2 := same_upd (o := .tup [.int (0 - zj.2.1), .int zj.2.2]) nq
        refine ⟨by show 2 ≤ sizeLine; decide, fun r nr => ?_⟩
        have s3 := same_upd (o := .tup [.ref p, .ref q]) nr
        refine ⟨by show 2 ≤ sizeLine; decide, fun t nt => ?_⟩
        have s4 := same_upd (o := .tup [.str rs[(1 + u).toNat].1, .ref r]) nt
        have sv := (s1.trans s2).trans (s3.trans s4)
        have gl := sv _ _ g6
        refine ⟨_, rfl, _, rfl, D, acc, 1 + u, (1 + u).toNat, rfl, rfl, gl, ?_, ?_⟩
        · unfold ixN
          rw [if_pos (by omega), if_pos (by omega)]
        have B26 := B3.trans (B36.trans (.of sv))
        refine ⟨_, _, _, acc.set (1 + u).toNat (.ref t), rs.set (1 + u).toNat (rs[(1 + u).toNat].1, negAr zj), rfl, B26.putD nDb nD, hb2.putD B26 (hb6.same sv) nD, upd_same, ?_, rok.set hm (neg_ok ok2) (neg_nz nz2)⟩
        refine Paired.set (Paired.mapP p6 fun _ _ q => q.kp ((Kp.of sv).trans (Kp.updL gl))) ⟨t, .ref r, rfl, Kp.updL gl _ _ (SqT.of upd_same), ?_⟩
        refine ⟨r, .ref p, .ref q, rfl, Kp.updL gl _ _ (Same.tup s4 (SqT.of upd_same)), ⟨p, rfl, Kp.updL gl _ _ (Same.tup (s2.trans (s3.trans s4)) (SqT.of upd_same))⟩, ⟨q, rfl, Kp.updL gl _ _ (Same.tup (s3.trans s4) (SqT.of upd_same))⟩⟩
      · rintro σ' H' ⟨y5, y6, y7, us, rs', rfl, B', hb', g', p', ok'⟩
        refine ⟨_, rfl, k _ D us rs' (B.trans B') hb' (B.free nDb nD) g' p' ok'⟩
end
end K14

namespace K14
open PySem PySem.Spec PyProof.Rows L2

section
variable {P : Program} {w : World} {K : PySem.W.Frag} {mg : Str → Option Value} {base : Heap}
theorem But.lst {bx a : Addr} {H H' : Hp} {us : List V} (e : But bx H H') (n : a ≠ bx) (h : H a = some (.lst us)) : H' a = some (.lst us) := e.keep _ _ n h

theorem sc__law_wide_rods : FnScope ["_law_box_here", "_law_low_here", "_law_most", "_law_found", "_law_name", "_law_z", "_law_wide"] ["_law_box_here", "_law_low_here", "_law_most"] (defScope (topS 47)) := ⟨rfl, rfl, rfl, by decide +kernel, rfl, by decide +kernel, by decide +kernel⟩
theorem cal__law_wide_rods (D : Def K mg "_law_wide_rods" (topS 47)) (cD : Cal P w K mg base 1 "_law_draw" ["_law_box_here", "_law_many"] spDraw) (cP : Cal P w K mg base 2 "_law_part" ["_law_box_here"] (spSmall K)) (cR : Cal P w K mg base 6 "_law_rods" ["_law_box_here", "_law_low_here", "_law_most"] (spRods K)) : Cal P w K mg base 7 "_law_wide_rods" ["_law_box_here", "_law_low_here", "_law_most"] (spRods K) := by
  obtain ⟨fD, fdD, gD, kD, bD, GD⟩ := cD
  obtain ⟨fP, fdP, gP, kP, bP, GP⟩ := cP
  obtain ⟨fR, fdR, gR, kR, bR, GR⟩ := cR
  refine D.cal sc__law_wide_rods (fun _ _ _ _ _ _ us hl => match us, hl with | [_, _, _], _ => rfl) (fun vs H Q E h => ?_) (fun f cdv A outer s H vs Q E hr h => ?_)
  · obtain ⟨bx, rfl, _⟩ := h
    rfl
  · obtain ⟨bx, rfl, hb, k⟩ := h
    have hr1 : Room 1 _ := hr.mono (by decide)
    have hr2 : Room 2 _ := hr.mono (by decide)
    have nd := sc__law_wide_rods.nd
    refine ⟨_, pss_cons (ps_set (i := 3) nd rfl (.inl rfl) (pe_lst pa_nil))
      (pss_cons (ps_for PassesOwn.never rfl (pi_list (pe_call GR hr (by rfl) gR kR bR .nil pass0 (pa_cons (pv 0) (pa_cons (pv 1) (pa_cons (pv 2) pa_nil))))) (pg_tup rfl (pgs_cons (pg_name (i := 4) nd rfl (.inl rfl)) (pgs_cons (pg_name (i := 5) nd rfl (.inl rfl)) pgs_nil)))
        (C8.pss_cut (ps_set (i := 6) nd rfl (.inl rfl) (pe_ifExp (pt_cmpR op_eq (pe_call GD hr1 (by rfl) gD kD bD .nil pass0 (pa_cons (pv 0) (pa_cons pe_int pa_nil))) pe_int (nomark _)) (pe_tup (pa_cons (pe_call GP hr2 (by rfl) gP kP bP .nil pass0 (pa_cons (pv 0) pa_nil)) (pa_cons (pe_call GP hr2 (by rfl) gP kP bP .nil pass0 (pa_cons (pv 0) pa_nil)) pa_nil))) (pv 5)))
        (pss_one (ps_expr (pe_bm PySem.F.plainAttrs_list PySem.F.slot_list_append PySem.F.type_list_append mt_append (pv 3) (pa_cons (pe_tup (pa_cons (pv 4) (pa_cons (pe_ifExp (pt_cmpR (op_eqD hr.units) (pv 6) (pe_tup (pa_cons (pe_tup (pa_cons pe_int (pa_cons pe_int pa_nil))) (pa_cons (pe_tup (pa_cons pe_int (pa_cons pe_int pa_nil))) pa_nil))) (nomark _)) (pv 5) (pv 6)) pa_nil))) pa_nil))))))
      (pss_one (ps_ret (pv 3)))), ?_⟩
    refine ⟨Nat.zero_le _, fun fa nf => ?_⟩
    have s0 := same_upd (o := .lst []) nf
    have nfb := hb.ne nf
    refine ⟨_, rfl, _, rfl, _, rfl, bx, rfl, hb.same s0, fun H1 a us rs B1 hb1 na g1 p1 ok => ?_⟩
    have nab := (hb.same s0).ne na
    have naf : a ≠ fa := (ne_of_none upd_same na).symm
    have gf1 := B1.lst nfb upd_same
    have hl : us.length = rs.length := p1.length
    refine ⟨a, rfl, ⟨_, SqL.of g1⟩, for_list (K := K) (a := a) (xs := us) (fun i σ H' => ∃ y4 y5 y6 acc rs', σ = [some (.ref bx), some (.int 1), some (.int 8), some (.ref fa), y4, y5, y6] ∧ But bx H H' ∧ BoxOk H' bx ∧ H' a = some (.lst us) ∧ Paired (IsRod K H') us rs ∧
        H' fa = some (.lst acc) ∧ Paired (IsRod K H') acc rs' ∧ rs'.map (·.1) = (rs.take i).map (·.1) ∧ (∀ r ∈ rs', ArOk r.2) ∧ ∀ r ∈ rs', r.2 ≠ zer)
      ⟨none, none, none, [], [], rfl, (But.of s0).trans B1, hb1, g1, p1, gf1, .nil, rfl, (fun r hr => nomatch hr), (fun r hr => nomatch hr)⟩ (fun i σ H' _ ⟨_, _, _, _, _, _, _, _, g, _⟩ => SqL.of g) ?_ ?_⟩
    · rintro i x σ H2 hx ⟨y4, y5, y6, acc, rs', rfl, B2, hb2, g2, p2, gf2, pf2, e2, o2, z2⟩
      have hi : i < us.length := (List.getElem?_eq_some_iff.mp hx).1
      have hr' : rs[i]? = some rs[i] := List.getElem?_eq_getElem (by omega)
      have oki := ok.ar _ (List.getElem_mem (show i < rs.length by omega))
      have nzi := ok.nz _ (List.getElem_mem (show i < rs.length by omega))
      obtain ⟨ax, zv, rfl, hx2, hz⟩ := Paired.at p2 hx hr'
      refine ⟨ax, _, rfl, hx2, rfl, _, _, rfl, _, _, rfl, rfl, ?_⟩
      refine ⟨fun σ' H' => ∃ wv ww, σ' = [some (.ref bx), some (.int 1), some (.int 8), some (.ref fa), some (.str rs[i].1), some zv, some wv] ∧ But bx H2 H' ∧ BoxOk H' bx ∧ IsAr K H' wv ww ∧ ArOk ww, ?_, ?_⟩
      · refine ⟨_, rfl, bx, 4, rfl, hb2, by decide, by unfold Lt2; decide, fun H3 y y0 y1 B3 hb3 => ?_⟩
        refine ⟨rfl, _, rfl, ?_⟩
        refine ite2 (fun _ => ?_) (fun _ => ?_)
        · refine ⟨_, rfl, bx, rfl, hb3, fun H4 v4 q4 B4 hb4 r4 k4 => ?_⟩
          refine ⟨_, rfl, bx, rfl, hb4, fun H5 v5 q5 B5 hb5 r5 k5 => ?_⟩
          refine ⟨by show 2 ≤ sizeLine; decide, fun t nt => ?_⟩
          have s6 := same_upd (o := .tup [v4, v5]) nt
          exact ⟨.ref t, (q4, q5), rfl, ((B3.trans B4).trans B5).trans (.of s6), hb5.same s6, ⟨t, _, _, rfl, SqT.of upd_same, (r4.kp (hb4.kp B5)).kp (.of s6), r5.kp (.of s6)⟩, ⟨k4, k5⟩⟩
        · exact ⟨_, rfl, zv, _, rfl, B3, hb3, hz.kp (hb2.kp B3), oki⟩
      · rintro σ' H3 ⟨wv, ww, rfl, B3, hb3, hw, okw⟩
        have gf3 := B3.lst nfb gf2
        have g3 := B3.lst nab g2
        have kp3 : Kp K H2 H3 := hb2.kp B3
        have lacc : acc.length = rs'.length := pf2.length
        have lrs : rs'.length ≤ 8 := by
          have := congrArg List.length e2
          rw [List.length_map, List.length_map, List.length_take] at this
          have := ok.l8
          omega
        refine ⟨_, rfl, .inl ⟨rfl, _, SqL.of gf3⟩, ?_⟩
        refine ⟨_, rfl, _, rfl, by show 2 ≤ sizeLine; decide, fun p np => ?_⟩
        have v1 := same_upd (o := .tup [.int 0, .int 1]) np
        refine ⟨by show 2 ≤ sizeLine; decide, fun q nq => ?_⟩
        have v2 := same_upd (o := .tup [.int 0, .int 1]) nq
        refine ⟨by show 2 ≤ sizeLine; decide, fun r nr => ?_⟩
        have v3 := same_upd (o := .tup [.ref p, .ref q]) nr
        have sv := (v1.trans v2).trans v3
        refine ⟨dAr ww, dAr zer, (hw.kp (.of sv)).dp, (show IsAr K _ (.ref r) zer from ⟨r, _, _, rfl, SqT.of upd_same, ⟨p, rfl, Same.tup (v2.trans v3) (SqT.of upd_same)⟩, ⟨q, rfl, Same.tup v3 (SqT.of upd_same)⟩⟩).dp, shaped_ar ww, shaped_ar zer, _, rfl, ?_⟩
        have fin : ∀ (fv : V) (fz : Ar), IsAr K H3 fv fz → ArOk fz → fz ≠ zer → ∀ (H4 : Hp), Same H3 H4 → ∀ t, H4 t = none →
            ∃ l xs y, V.ref fa = .ref l ∧ [V.ref t] = [y] ∧ upd H4 t (.tup [.str rs[i].1, fv]) l = some (.lst xs) ∧ xs.length < sizeLine ∧ ∃ y4 y5 y6 acc rs'', [some (V.ref bx), some (.int 1), some (.int 8), some (.ref fa), some (.str rs[i].1), some zv, some wv] = [some (.ref bx), some (.int 1), some (.int 8), some (.ref fa), y4, y5, y6] ∧
              But bx H (upd (upd H4 t (.tup [.str rs[i].1, fv])) l (.lst (xs ++ [y]))) ∧ BoxOk (upd (upd H4 t (.tup [.str rs[i].1, fv])) l (.lst (xs ++ [y]))) bx ∧ (upd (upd H4 t (.tup [.str rs[i].1, fv])) l (.lst (xs ++ [y]))) a = some (.lst us) ∧ Paired (IsRod K (upd (upd H4 t (.tup [.str rs[i].1, fv])) l (.lst (xs ++ [y])))) us rs ∧
              (upd (upd H4 t (.tup [.str rs[i].1, fv])) l (.lst (xs ++ [y]))) fa = some (.lst acc) ∧ Paired (IsRod K (upd (upd H4 t (.tup [.str rs[i].1, fv])) l (.lst (xs ++ [y])))) acc rs'' ∧ rs''.map (·.1) = (rs.take (i + 1)).map (·.1) ∧ (∀ r ∈ rs'', ArOk r.2) ∧ ∀ r ∈ rs'', r.2 ≠ zer := by
          intro fv fz hf of nf' H4 s4 t nt
          have s5 := same_upd (o := .tup [.str rs[i].1, fv]) nt
          have s45 := s4.trans s5
          have gf5 := s45 _ _ gf3
          have B5 : But bx H _ := (B2.trans B3).trans (.of s45)
          have kpp := (Kp.of (K := K) s45).trans (Kp.updL (o := .lst (acc ++ [.ref t])) gf5)
          refine ⟨fa, acc, .ref t, rfl, rfl, gf5, small1000 (by omega), _, _, _, acc ++ [.ref t], rs' ++ [(rs[i].1, fz)], rfl, B5.putD nfb nf, hb.putD B5 (hb3.same s45) nf, ?_, Paired.mapP p2 fun _ _ q => q.kp (kp3.trans kpp), upd_same, ?_, ?_, fun r hr => ?_, fun r hr => ?_⟩
          · rw [upd_ne naf]
            exact s45 _ _ g3
          · exact Paired.app (Paired.mapP pf2 fun _ _ q => q.kp (kp3.trans kpp)) ⟨t, fv, rfl, Kp.updL gf5 _ _ (SqT.of upd_same), hf.kp kpp⟩
          · rw [List.map_append, e2, List.take_add_one, hr', List.map_append]
            rfl
          · rcases List.mem_append.mp hr with hr | hr
            · exact o2 r hr
            · rw [List.mem_singleton.mp hr]
              exact of
          · rcases List.mem_append.mp hr with hr | hr
            · exact z2 r hr
            · rw [List.mem_singleton.mp hr]
              exact nf'
        cases e : PyData.eqv (dAr ww) (dAr zer) with
        | true => exact ⟨_, rfl, by show 2 ≤ sizeLine; decide, fun t nt => fin zv _ (hz.kp kp3) oki nzi _ sv t nt⟩
        | false => exact ⟨_, rfl, by show 2 ≤ sizeLine; decide, fun t nt => fin wv _ hw okw (eqv_ne e) _ sv t nt⟩
    · rintro σ H2 ⟨y4, y5, y6, acc, rs', rfl, B2, hb2, g2, p2, gf2, pf2, e2, o2, z2⟩
      rw [List.take_of_length_le (by omega)] at e2
      have lrs : rs'.length = rs.length := by
        have := congrArg List.length e2
        rwa [List.length_map, List.length_map] at this
      refine ⟨_, rfl, k _ fa acc rs' B2 hb2 nf gf2 pf2 ⟨by rw [lrs]; exact ok.l1, by rw [lrs]; exact ok.l8, by rw [e2]; exact ok.nd, fun r hr => ?_, o2, z2⟩⟩
      have hm : r.1 ∈ rs.map (·.1) := by
        rw [← e2]
        exact List.mem_map_of_mem hr
      obtain ⟨r0, h0, h1⟩ := List.mem_map.mp hm
      rw [← h1]
      exact ok.nm r0 h0
end
end K14

namespace K14
open PySem PySem.Spec PyProof.Rows L2

/-! ### walks: enumerate, a text's signs in a comprehension -/
def Steps (J : It) (g : TG) (tb : TS) (D : Ends) (σ : L2.St) (H : Hp) : Prop :=
  ∃ W : Nat → Nat → L2.St → Hp → Prop, (∃ m, W 0 m σ H) ∧
    ∀ i m σ H, W i m σ H → (J.stop i H ∧ D.nx σ H) ∨
      (J.go i H ∧ ∃ N : L2.St → Hp → Prop, (∀ σ' H', N σ' H' → ∃ m', m' < m ∧ W (i + 1) m' σ' H') ∧
        ∀ x H', J.yld i H x H' → g x σ H' fun σ2 H2 =>
          tb { D with nx := N, ct := N, bk := D.nx } σ2 H2)
theorem for_enum {K : PySem.W.Frag} {a : Addr} {us : List V} {g : TG} {tb : TS} {D : Ends} {σ : L2.St} {H : Hp} (Pv : Nat → L2.St → Hp → Prop)
    (begins : Pv 0 σ H) (there : ∀ i σ H, Pv i σ H → SqL K H a us)
    (turn : ∀ i x σ H T, us[i]? = some x → Pv i σ H → H T = none → g (.ref T) σ (upd H T (.tup [.int (i : Nat), x])) fun σ2 H2 =>
      tb { D with nx := Pv (i + 1), ct := Pv (i + 1), bk := D.nx } σ2 H2)
    (ends : ∀ σ H, Pv us.length σ H → D.nx σ H) : Steps (Ite K a) g tb D σ H := by
  refine ⟨fun i m σ H => m + i = us.length ∧ Pv i σ H, ⟨us.length, rfl, begins⟩, fun i m σ H hW => ?_⟩
  obtain ⟨em, p⟩ := hW
  have q := there i σ H p
  cases m with
  | zero =>
    have e : i = us.length := by omega
    subst e
    exact .inl ⟨⟨us, q, Nat.le_refl _⟩, ends σ H p⟩
  | succ m =>
    have hi : i < us.length := by omega
    refine .inr ⟨⟨us, us[i], q, List.getElem?_eq_getElem hi⟩, Pv (i + 1), fun σ' H' p' => ⟨m, Nat.lt_succ_self m, by omega, p'⟩, ?_⟩
    rintro _ _ ⟨T, x', rfl, nT, rfl, y⟩
    exact turn i x' σ H T (y us q) p nT
/-- the same of a comprehension's turns: D the list, Qd what is wanted of the heap at its end -/
def StepsL (J : It) (g : TG) (tt : TT) (te : TE) (own : List Nat) (σ : L2.St) (H1 : Hp) (D : Addr) (Qd : Hp → Prop) : Prop :=
  ∃ W : Nat → Nat → Hp → Prop, (∃ m, W 0 m (upd H1 D (.lst []))) ∧
    ∀ i m H, W i m H → (J.stop i H ∧ Qd H) ∨
      (J.go i H ∧ ∃ Nx : Hp → Prop, (∀ H', Nx H' → ∃ m', m' < m ∧ W (i + 1) m' H') ∧
        ∀ v H', J.yld i H v H' → g v (wipe σ own) H' fun σ2 H2 =>
          wipe σ2 own = wipe σ own ∧ tt σ2 H2 fun b H3 =>
            if b = true then te σ2 H3 fun y H4 => ∃ acc, H4 D = some (.lst acc) ∧ acc.length < sizeLine ∧
              Nx (upd H4 D (.lst (acc ++ [y]))) else Nx H3)
theorem lc_str {x : Str} {g : TG} {tt : TT} {te : TE} {own : List Nat} {σ : L2.St} {H1 : Hp} {D : Addr} {Qd : Hp → Prop} (Pv : Nat → Hp → Prop)
    (begins : Pv 0 (upd H1 D (.lst [])))
    (turn : ∀ i c H, x.cps[i]? = some c → Pv i H → g (.str ⟨#[c]⟩) (wipe σ own) H fun σ2 H2 =>
      wipe σ2 own = wipe σ own ∧ tt σ2 H2 fun b H3 =>
        if b = true then te σ2 H3 fun y H4 => ∃ acc, H4 D = some (.lst acc) ∧ acc.length < sizeLine ∧
          Pv (i + 1) (upd H4 D (.lst (acc ++ [y]))) else Pv (i + 1) H3)
    (ends : ∀ H, Pv x.cps.size H → Qd H) : StepsL (Its x) g tt te own σ H1 D Qd := by
  refine ⟨fun i m H => m + i = x.cps.size ∧ Pv i H, ⟨x.cps.size, rfl, begins⟩, fun i m H hW => ?_⟩
  obtain ⟨em, p⟩ := hW
  cases m with
  | zero =>
    have e : i = x.cps.size := by omega
    subst e
    exact .inl ⟨Nat.le_refl _, ends H p⟩
  | succ m =>
    have hi : i < x.cps.size := by omega
    refine .inr ⟨hi, Pv (i + 1), fun H' p' => ⟨m, Nat.lt_succ_self m, by omega, p'⟩, ?_⟩
    rintro _ _ ⟨rfl, c, hc, rfl⟩
    exact turn i c _ hc p
theorem paired_bl : ∀ {vs : List V} {bs : List Bool}, Paired (fun v b => v = V.bl b) vs bs → vs = bs.map V.bl
  | _, _, .nil => rfl
  | _, _, .cons r t => by rw [r, paired_bl t]; rfl
theorem all_true (n : Nat) : (((List.range n).map fun _ => true).all id) = true := by
  rw [List.all_map]
  simp
def GInt (mg : Str → Option Value) (x : Str) (n : Int) : Prop := ∃ t, mg x = some (.int n t)
def GStr (mg : Str → Option Value) (x : Str) (z : Str) : Prop := ∃ t, mg x = some (.str z t)
def spCopied (K : PySem.W.Frag) : Sp := fun vs H Q _ => ∃ (x : V) (z : Ar), vs = [x] ∧ IsAr K H x z ∧ ∀ H' v, Same H H' → IsAr K H' v z → Q v H'
def spIsName : Sp := fun vs H Q _ => ∃ x : Str, vs = [.str x] ∧ NmOk x ∧ ∀ H', Same H H' → Q (.bl true) H'
def spNeed (K : PySem.W.Frag) : Sp := fun vs H Q _ => ∃ (a : Addr) (us : List V) (rs : List (Str × Ar)), vs = [.ref a] ∧ SqL K H a us ∧ Paired (IsRod K H) us rs ∧ RodsOk rs ∧ ∀ H', Same H H' → Q .non H'
section
variable {P : Program} {w : World} {K : PySem.W.Frag} {mg : Str → Option Value} {base : Heap}

theorem sc_copied : FnScope ["one", "x", "y"] ["one"] (defScope (topS 23)) := ⟨rfl, rfl, rfl, by decide +kernel, rfl, by decide +kernel, by decide +kernel⟩
theorem cal_copied (D : Def K mg "copied" (topS 23)) (mTuple : mg "tuple" = none) : Cal P w K mg base 1 "copied" ["one"] (spCopied K) := by
  refine D.cal sc_copied (fun _ _ _ _ _ _ us hl => match us, hl with | [_], _ => rfl) (fun vs H Q E h => ?_) (fun f cdv A outer s H vs Q E hr h => ?_)
  · obtain ⟨x, z, rfl, _⟩ := h
    rfl
  · obtain ⟨x, z, rfl, ⟨a, x0, x1, rfl, ha, ⟨a0, rfl, h0⟩, ⟨a1, rfl, h1⟩⟩, k⟩ := h
    have nd := sc_copied.nd
    refine ⟨_, pss_cons (ps_asg (pv 0) (pg_tup rfl (pgs_cons (pg_name (i := 1) nd rfl (.inl rfl)) (pgs_cons (pg_name (i := 2) nd rfl (.inl rfl)) pgs_nil))))
      (pss_one (ps_ret (pe_tup (pa_cons (pe_callTy call_tupleT (by rfl) mTuple (by decide +kernel) (pa_cons (pv 1) pa_nil)) (pa_cons (pe_callTy call_tupleT (by rfl) mTuple (by decide +kernel) (pa_cons (pv 2) pa_nil)) pa_nil))))), ?_⟩
    refine ⟨_, rfl, a, _, rfl, ha, rfl, _, _, rfl, _, _, rfl, rfl, ?_⟩
    refine ⟨_, rfl, a0, _, rfl, h0, _, rfl, a1, _, rfl, h1, by show 2 ≤ sizeLine; decide, fun p np => ?_⟩
    have s1 := same_upd (o := .tup [.ref a0, .ref a1]) np
    exact k _ _ s1 ⟨p, _, _, rfl, SqT.of upd_same, ⟨a0, rfl, Same.tup s1 h0⟩, ⟨a1, rfl, Same.tup s1 h1⟩⟩
theorem sc_is_name : FnScope ["text", "sign"] ["text"] (defScope (topS 33)) := ⟨rfl, rfl, rfl, by decide +kernel, rfl, by decide +kernel, by decide +kernel⟩
theorem cal_is_name (D : Def K mg "is_name" (topS 33)) (mLen : mg "len" = none) (mAll : mg "all" = none) (hM : GInt mg "MOST_NAME" 6) (hL : GStr mg "LETTERS" letS) : Cal P w K mg base 1 "is_name" ["text"] spIsName := by
  obtain ⟨tM, mM⟩ := hM
  obtain ⟨tL, mL⟩ := hL
  refine D.cal sc_is_name (fun _ _ _ _ _ _ us hl => match us, hl with | [_], _ => rfl) (fun vs H Q E h => ?_) (fun f cdv A outer s H vs Q E hr h => ?_)
  · obtain ⟨x, rfl, _⟩ := h
    rfl
  · obtain ⟨x, rfl, ⟨l1, l6, sg⟩, k⟩ := h
    have nd := sc_is_name.nd
    refine ⟨_, pss_one (ps_ret (pe_and (pe_chain op_le op_le pe_int (pe_callB call_len_str (by rfl) mLen PySem.boot_len (pa_cons (pv 0) pa_nil)) (pe_glob (v := .int 6) (by rfl) mM ⟨_, rfl⟩))
      (pe_one (pe_callB (cr_all rfl) (by rfl) mAll (by decide +kernel) (pa_cons (pe_lc (own := [("sign", 1)]) (g := gName 1) (tt := tYes) rfl nd (pi_str (pv 0)) (blkOk_by (N := ["text", "sign"]) (sc := defScope (topS 33)) (by decide +kernel)) (fun _ _ _ _ _ => pg_name (i := 1) nd rfl (Or.inl rfl)) (fun _ _ _ _ _ => pts_nil) (fun _ _ _ _ _ => (pe_cmpR op_in_sign (pv 1) (pe_glob (v := .str letS) (by rfl) mL ⟨_, rfl⟩) (by rfl)))) pa_nil))))), ?_⟩
    refine ⟨_, rfl, x, rfl, Nat.le_of_lt (small1000 (by omega)), _, _, rfl, rfl, _, rfl, ?_⟩
    refine ite2 (fun _ => ?_) (fun e => absurd (decide_eq_true (show (1 : Int) ≤ (x.length : Int) by omega)) e)
    refine ⟨_, _, rfl, rfl, _, rfl, ?_⟩
    refine ite2 (fun _ => ?_) (fun e => absurd (decide_eq_true (show (x.length : Int) ≤ 6 by omega)) e)
    refine ⟨_, rfl, x, rfl, fun D nD => lc_str (Lc (fun (_ : Hp) (v : V) (b : Bool) => v = .bl b) H D (fun _ => true)) (Lc.start nD) ?_ ?_⟩
    · intro i c H1 hc h1
      have hi : i < x.cps.size := (Array.getElem?_eq_some_iff.mp hc).1
      have hcm : c ∈ x.cps.toList := by
        rw [← Array.getElem?_toList] at hc
        exact List.mem_of_getElem? hc
      have hin : decide (c ∈ letS.cps.toList) = true := decide_eq_true (letIn (sg c hcm).1 (sg c hcm).2)
      refine ⟨rfl, ?_⟩
      refine ⟨_, rfl, c, letS, rfl, rfl, ?_⟩
      rw [hin]
      have hl : i < 1000 := by
        have : x.length = x.cps.size := rfl
        omega
      exact Lc.step (K := K) (F := fun (_ : Hp) (v : V) (b : Bool) => v = .bl b) (f := fun _ => true) (fun _ q => q) h1 nD (Same.refl _) rfl hl
    · rintro H1 ⟨acc, s1, g1, p1⟩
      rw [paired_bl p1] at g1
      refine ⟨D, _, rfl, SqL.of g1, ?_⟩
      rw [all_true]
      exact k _ s1
theorem eqv_eq {z u : Ar} (h : PyData.eqv (dAr z) (dAr u) = true) : z = u := by
  obtain ⟨⟨a, b⟩, ⟨c, d⟩⟩ := z
  obtain ⟨⟨a', b'⟩, ⟨c', d'⟩⟩ := u
  simp only [dAr, dPt, PyData.eqv, PyData.eqvAll, Bool.and_eq_true, beq_iff_eq, and_true] at h
  obtain ⟨⟨rfl, rfl⟩, rfl, rfl⟩ := h
  rfl
theorem flat_strs : ∀ xs : List Str, (xs.map V.str).all flatV = true := fun xs => by
  rw [List.all_map, List.all_eq_true]
  intro x _
  rfl
theorem not_in {rs : List (Str × Ar)} (nd : (rs.map (·.1)).Nodup) {i : Nat} {r : Str × Ar} (h : rs[i]? = some r) : inV (.str r.1) (((rs.take i).map (·.1)).map V.str) = false := by
  unfold inV
  rw [List.any_map, List.any_eq_false]
  intro x hx e
  have e' : x = r.1 := by
    have : (x == r.1) = true := e
    exact beq_iff_eq.mp this
  subst e'
  rw [List.map_take] at hx
  obtain ⟨j, hj, ej⟩ := List.mem_take_iff_getElem.mp hx
  have h2 : (rs.map (·.1))[i]? = some r.1 := by
    rw [List.getElem?_map, h]
    rfl
  have h3 : (rs.map (·.1))[j]? = some r.1 := by
    rw [List.getElem?_eq_getElem (by omega), ej]
  have := nd_ix nd h2 h3
  omega
theorem sc_need_rods : FnScope ["rods", "at", "name", "arrow", "names"] ["rods"] (defScope (topS 34)) := ⟨rfl, rfl, rfl, by decide +kernel, rfl, by decide +kernel, by decide +kernel⟩
theorem cal_need_rods (D : Def K mg "need_rods" (topS 34)) (mEnum : mg "enumerate" = none) (hO : GAr K mg "ORIGIN" zer) (cI : Cal P w K mg base 1 "is_name" ["text"] spIsName) (cC : Cal P w K mg base 1 "copied" ["one"] (spCopied K)) : Cal P w K mg base 2 "need_rods" ["rods"] (spNeed K) := by
  obtain ⟨aO, mO, iO⟩ := hO
  obtain ⟨fI, fdI, gI, kI, bI, GI⟩ := cI
  obtain ⟨fC, fdC, gC, kC, bC, GC⟩ := cC
  refine D.cal sc_need_rods (fun _ _ _ _ _ _ us hl => match us, hl with | [_], _ => rfl) (fun vs H Q E h => ?_) (fun f cdv A outer s H vs Q E hr h => ?_)
  · obtain ⟨a, us, rs, rfl, _⟩ := h
    rfl
  · obtain ⟨a, us, rs, rfl, ha, hp, ok, k⟩ := h
    have hl : us.length = rs.length := hp.length
    have nd := sc_need_rods.nd
    refine ⟨_, pss_cons (ps_for PassesOwn.never rfl (pi_enum (by rfl) mEnum (pa_cons (pv 0) pa_nil)) (pg_tup rfl (pgs_cons (pg_name (i := 1) nd rfl (.inl rfl)) (pgs_cons (pg_tup rfl (pgs_cons (pg_name (i := 2) nd rfl (.inl rfl)) (pgs_cons (pg_name (i := 3) nd rfl (.inl rfl)) pgs_nil))) pgs_nil)))
        (pss_cons (ps_if (pt_not (pt_val (pe_call GI hr (by rfl) gI kI bI .nil pass0 (pa_cons (pv 2) pa_nil)))) (pss_one ps_never) pss_nil)
        (pss_one (ps_if (pt_cmpR (op_eqD hr.units) (pe_call GC hr (by rfl) gC kC bC .nil pass0 (pa_cons (pv 3) pa_nil)) (pe_glob (v := .ref aO) (by rfl) mO rfl) (nomark _)) (pss_one ps_never) pss_nil))))
      (pss_cons (ps_set (i := 4) nd rfl (.inl rfl) (pe_lst pa_nil))
      (pss_one (ps_for PassesOwn.never rfl (pi_list (pv 0)) (pg_tup rfl (pgs_cons (pg_name (i := 2) nd rfl (.inl rfl)) (pgs_cons (pg_name (i := 3) nd rfl (.inl rfl)) pgs_nil)))
        (pss_cons (ps_if (pt_cmpR op_in_seq (pv 2) (pv 4) (by rfl)) (pss_one ps_never) pss_nil)
        (pss_one (ps_expr (pe_bm PySem.F.plainAttrs_list PySem.F.slot_list_append PySem.F.type_list_append mt_append (pv 4) (pa_cons (pv 2) pa_nil)))))))), ?_⟩
    refine ⟨_, rfl, a, us, rfl, ha, for_enum (K := K) (a := a) (us := us) (fun i σ H' => ∃ y1 y2 y3, σ = [some (.ref a), y1, y2, y3, none] ∧ Same H H') ⟨none, none, none, rfl, Same.refl _⟩ (fun i σ H' ⟨_, _, _, _, s⟩ => s.seq ha) ?_ ?_⟩
    · rintro i x σ H1 T hx ⟨y1, y2, y3, rfl, s1⟩ nT
      have hi : i < us.length := (List.getElem?_eq_some_iff.mp hx).1
      have hr' : rs[i]? = some rs[i] := List.getElem?_eq_getElem (by omega)
      have s2 := same_upd (o := .tup [.int (i : Nat), x]) nT
      obtain ⟨ax, zv, rfl, hx2, hz⟩ := (Paired.at hp hx hr').kp (K := K) (Kp.of (s1.trans s2))
      have hm : rs[i] ∈ rs := List.getElem_mem _
      refine ⟨T, _, rfl, SqT.of upd_same, rfl, _, _, rfl, _, _, rfl, ⟨ax, _, rfl, hx2, rfl, _, _, rfl, _, _, rfl, rfl, ?_⟩⟩
      refine ⟨rfl, ?_⟩
      refine ⟨_, rfl, _, rfl, ok.nm _ hm, fun H2 s3 => ?_⟩
      refine ⟨_, rfl, ?_⟩
      refine ⟨_, rfl, _, _, rfl, hz.kp (.of s3), fun H3 v s4 r4 => ?_⟩
      refine ⟨dAr rs[i].2, dAr zer, r4.dp, (iO _).dp, shaped_ar _, shaped_ar zer, _, rfl, ?_⟩
      have ne : PyData.eqv (dAr rs[i].2) (dAr zer) = false := by
        cases e : PyData.eqv (dAr rs[i].2) (dAr zer) with
        | false => rfl
        | true => exact absurd (eqv_eq e) (ok.nz _ hm)
      rw [ne]
      refine iteF ?_
      exact ⟨_, _, _, rfl, ((s1.trans s2).trans s3).trans s4⟩
    · rintro σ H1 ⟨y1, y2, y3, rfl, s1⟩
      refine ⟨Nat.zero_le _, fun l nl => ?_⟩
      have s2 := same_upd (o := .lst []) nl
      refine ⟨_, rfl, a, rfl, ⟨_, (s1.trans s2).seq ha⟩, for_list (K := K) (a := a) (xs := us) (fun i σ H' => ∃ y2 y3, σ = [some (.ref a), y1, y2, y3, some (.ref l)] ∧ Same H1 H' ∧ H' l = some (.lst (((rs.take i).map (·.1)).map V.str)))
        ⟨y2, y3, rfl, s2, upd_same⟩ (fun i σ H' _ ⟨_, _, _, s, _⟩ => (s1.trans s).seq ha) ?_ ?_⟩
      · rintro i x σ H2 hx ⟨y2, y3, rfl, s3, g⟩
        have hi : i < us.length := (List.getElem?_eq_some_iff.mp hx).1
        have hr' : rs[i]? = some rs[i] := List.getElem?_eq_getElem (by omega)
        obtain ⟨ax, zv, rfl, hx2, hz⟩ := (Paired.at hp hx hr').kp (K := K) (Kp.of (s1.trans s3))
        refine ⟨ax, _, rfl, hx2, rfl, _, _, rfl, _, _, rfl, rfl, ?_⟩
        refine ⟨_, rfl, _, rfl, l, _, rfl, .inl (SqL.of g), rfl, flat_strs _, _, rfl, ?_⟩
        have nin : inV (.str rs[i].1) (((rs.take i).map (·.1)).map V.str) = false := not_in ok.nd hr'
        rw [show (if false = true then !inV (.str rs[i].1) (((rs.take i).map (·.1)).map V.str) else inV (.str rs[i].1) (((rs.take i).map (·.1)).map V.str)) = false from nin]
        refine iteF ?_
        have l8 := ok.l8
        refine ⟨_, rfl, .inl ⟨rfl, _, SqL.of g⟩, _, rfl, l, _, _, rfl, rfl, g, ?_, ?_⟩
        · rw [List.length_map, List.length_map, List.length_take]
          exact small1000 (by omega)
        · refine ⟨_, _, rfl, same_updN s3 nl, ?_⟩
          rw [upd_same, List.take_add_one, hr', List.map_append, List.map_append]
          rfl
      · rintro σ H2 ⟨y2, y3, rfl, s3, g⟩
        exact k _ (s1.trans s3)
end
end K14

namespace K14
open PySem PySem.Spec PyProof.Rows L2

abbrev sRow : Stmt := topS 35
abbrev sInit : Stmt := inClass sRow 0
abbrev sRods : Stmt := inClass sRow 4
/-- what the class Row is -/
structure RowC (K : PySem.W.Frag) (mg : Str → Option Value) (C fI fR : Addr) : Prop where
  cl : Cls K C
  nL : NoAttr K C "lot"
  nF : NoAttr K C "first"
  mgC : mg "Row" = some (.ref C)
  mki : Mk K C fI
  mR : Meth K C "rods" fR
/-- a row with these rods -/
def IsRow (K : PySem.W.Frag) (C : Addr) (H : Hp) (x : Addr) (rs : List (Str × Ar)) : Prop := ∃ dx l fv us, H x = some (.ins C dx [("lot", .ref l), ("first", fv)]) ∧ H l = some (.lst us) ∧ Paired (IsRod K H) us rs
theorem IsRow.same {K : PySem.W.Frag} {C : Addr} {H H' : Hp} {x : Addr} {rs : List (Str × Ar)} (s : Same H H') (h : IsRow K C H x rs) : IsRow K C H' x rs := by
  obtain ⟨dx, l, fv, us, h1, h2, h3⟩ := h
  exact ⟨dx, l, fv, us, s _ _ h1, s _ _ h2, Paired.mapP h3 fun _ _ q => q.kp (Kp.of s)⟩
/-- all but the instance at x -/
def Ins (x : Addr) (H H' : Hp) : Prop := ∀ b o, H b = some o → b ≠ x → H' b = some o
theorem Ins.of {x : Addr} {H H' : Hp} (s : Same H H') : Ins x H H' := fun b o e _ => s b o e
theorem Ins.trans {x : Addr} {H H1 H2 : Hp} (a : Ins x H H1) (b : Ins x H1 H2) : Ins x H H2 := fun c o e n => b c o (a c o e n) n
theorem Ins.put {x : Addr} {H : Hp} {o : HO} : Ins x H (upd H x o) := fun b u e n => by
  rw [upd_ne n]
  exact e
theorem kp_ins {K : PySem.W.Frag} {x C dx : Addr} {H H' : Hp} {fs : List (Str × V)} (e : Ins x H H') (hb : H x = some (.ins C dx fs)) : Kp K H H' := fun a ys h => by
  rcases h with (h | ⟨o, h⟩) | h
  · exact .inl (.inl (e _ _ h (fun z => by rw [z, hb] at h; cases h)))
  · exact .inl (.inr ⟨o, e _ _ h (fun z => by rw [z, hb] at h; cases h)⟩)
  · exact .inr h
def spInit (K : PySem.W.Frag) (C : Addr) : Sp := fun vs H Q _ => ∃ (x dx a : Addr) (sv : V) (us : List V) (rs : List (Str × Ar)) (sz : Ar), vs = [.ref x, .ref a, sv] ∧ H x = some (.ins C dx []) ∧ SqL K H a us ∧ Paired (IsRod K H) us rs ∧ RodsOk rs ∧ IsAr K H sv sz ∧
  ∀ H', Ins x H H' → IsRow K C H' x rs → Q .non H'
def spRodsM (K : PySem.W.Frag) (C : Addr) : Sp := fun vs H Q _ => ∃ (x : Addr) (rs : List (Str × Ar)), vs = [.ref x] ∧ IsRow K C H x rs ∧ ∀ H' l us, Same H H' → H l = none → H' l = some (.lst us) → Paired (IsRod K H') us rs → Q (.ref l) H'
def spWholeR (K : PySem.W.Frag) (C : Addr) : Sp := fun vs H Q _ => ∃ (x : Addr) (rs : List (Str × Ar)), vs = [.ref x] ∧ IsRow K C H x rs ∧ RodsOk rs ∧ ∀ H' t, Same H H' → Whl K H H' t (whole (rs.map (·.2))) → Q (.ref t) H'
section
variable {P : Program} {w : World} {K : PySem.W.Frag} {mg : Str → Option Value} {base : Heap} {C fI fR : Addr}
theorem scInit : FnScope ["self", "rods", "start", "name", "arrow"] ["self", "rods", "start"] (defScope sInit) := ⟨rfl, rfl, rfl, by decide +kernel, rfl, by decide +kernel, by decide +kernel⟩
theorem scRods : FnScope ["self"] ["self"] (defScope sRods) := ⟨rfl, rfl, rfl, by decide +kernel, rfl, by decide +kernel, by decide +kernel⟩

theorem ok_init {fd : FuncData} {aO : V} (F : FnD K "__init__" "Row.__init__" sInit [] [("start", aO)] fI fd) (T : RowC K mg C fI fR) (mLen : mg "len" = none) (hM : GInt mg "MOST_RODS" 8) (cN : Cal P w K mg base 2 "need_rods" ["rods"] (spNeed K)) (cC : Cal P w K mg base 1 "copied" ["one"] (spCopied K)) :
    FnOk P w K mg base CX0 3 fI fd ["self", "rods", "start"] (spInit K C) := by
  obtain ⟨tM, mM⟩ := hM
  obtain ⟨fN, fdN, gN, kN, bN, GN⟩ := cN
  obtain ⟨fC, fdC, gC, kC, bC, GC⟩ := cC
  refine FnD.ok0 F scInit (fun vs H Q E h => ?_) (fun cdv A outer s H vs Q E hr h => ?_)
  · obtain ⟨x, dx, a, sv, us, rs, sz, rfl, _⟩ := h
    rfl
  · obtain ⟨x, dx, a, sv, us, rs, sz, rfl, hx, ha, hp, ok, hs, k⟩ := h
    have hr1 : Room 1 _ := hr.mono (by decide)
    have hl : us.length = rs.length := hp.length
    have l1 := ok.l1
    have l8 := ok.l8
    have nd := scInit.nd
    refine ⟨_, pss_cons (ps_if (pt_not (pt_chain op_le op_le pe_int (pe_callB call_len_seq (by rfl) mLen PySem.boot_len (pa_cons (pv 1) pa_nil)) (pe_glob (v := .int 8) (by rfl) mM ⟨_, rfl⟩))) (pss_one ps_never) pss_nil)
      (pss_cons (ps_expr (pe_call GN hr (by rfl) gN kN bN .nil pass0 (pa_cons (pv 1) pa_nil)))
      (pss_cons (ps_fld (pv 0) (pe_lc (own := [("name", 3), ("arrow", 4)]) (g := gTup K 2 (gCons (gName 3) (gCons (gName 4) gNil))) (tt := tYes) rfl nd (pi_list (pv 1)) (blkOk_by (N := ["self", "rods", "start", "name", "arrow"]) (sc := defScope sInit) (by decide +kernel)) (fun _ _ _ _ _ => pg_tup rfl (pgs_cons (pg_name (i := 3) nd rfl (Or.inl rfl)) (pgs_cons (pg_name (i := 4) nd rfl (Or.inl rfl)) pgs_nil))) (fun _ _ _ _ _ => pts_nil) (fun _ _ _ _ _ => (pe_tup (pa_cons (pv 3) (pa_cons (pe_call GC hr1 (by rfl) gC kC bC .nil pass0 (pa_cons (pv 4) pa_nil)) pa_nil))))) rfl)
      (pss_one (ps_fld (pv 0) (pe_call GC hr1 (by rfl) gC kC bC .nil pass0 (pa_cons (pv 2) pa_nil)) rfl)))), ?_⟩
    refine ⟨_, rfl, a, us, rfl, .inl ha, _, _, rfl, rfl, _, rfl, ?_⟩
    refine ite2 (fun _ => ?_) (fun e => absurd (decide_eq_true (show (1 : Int) ≤ (us.length : Int) by omega)) e)
    refine ⟨_, _, rfl, rfl, _, rfl, ?_⟩
    rw [decide_eq_true (show (us.length : Int) ≤ 8 by omega)]
    refine iteF ?_
    -- need_rods(rods)
    refine ⟨_, rfl, a, us, rs, rfl, ha, hp, ok, fun H1 s1 => ?_⟩
    -- self.lot
    refine ⟨_, rfl, a, rfl, ⟨_, s1.seq ha⟩, fun D nD => lc_list (K := K) (a := a) (xs := us) (Lc (IsRod K) H1 D (fun i => rs.getD i ("", zer))) (Lc.start nD) (fun i H' _ ⟨_, s, _⟩ => (s1.trans s).seq ha) ?_ ?_⟩
    · intro i y H2 hy h2
      obtain ⟨acc, s2, _⟩ := id h2
      have hi : i < us.length := (List.getElem?_eq_some_iff.mp hy).1
      have hr' : rs[i]? = some rs[i] := List.getElem?_eq_getElem (by omega)
      obtain ⟨ax, zv, rfl, hx2, hz⟩ := (Paired.at hp hy hr').kp (K := K) (Kp.of (s1.trans s2))
      refine ⟨ax, _, rfl, hx2, rfl, _, _, rfl, _, _, rfl, rfl, rfl, ?_⟩
      refine ⟨_, rfl, _, rfl, _, _, rfl, hz, fun H3 v s3 r3 => ?_⟩
      refine ⟨by show 2 ≤ sizeLine; decide, fun t nt => ?_⟩
      have s4 := same_upd (o := .tup [.str rs[i].1, v]) nt
      have e : rs.getD i ("", zer) = rs[i] := by
        rw [List.getD_eq_getElem?_getD, hr']
        rfl
      refine Lc.step (K := K) (F := IsRod K) (f := fun i => rs.getD i ("", zer)) IsRod.kp h2 nD (s3.trans s4) ?_ (show i < 1000 by omega)
      show IsRod K _ _ (rs.getD i ("", zer))
      rw [e]
      exact ⟨t, v, rfl, SqT.of upd_same, r3.kp (.of s4)⟩
    · rintro H2 ⟨acc, s2, g2, p2⟩
      have e : (List.range us.length).map (fun i => rs.getD i ("", zer)) = rs := by
        rw [hl]
        apply List.ext_getElem
        · simp
        · intro i h1 h2
          simp [List.getD_eq_getElem?_getD, List.getElem?_eq_getElem h2]
      rw [e] at p2
      have s12 := s1.trans s2
      have hx2 := s12 _ _ hx
      refine ⟨_, rfl, x, C, dx, _, rfl, hx2, T.cl, T.nL, by decide, ?_⟩
      have i3 : Ins x H (upd H2 x (.ins C dx (putF "lot" (.ref D) []))) := (Ins.of s12).trans Ins.put
      -- self.first
      refine ⟨_, rfl, _, sz, rfl, hs.kp (kp_ins i3 hx), fun H4 v s4 r4 => ?_⟩
      have hx4 := s4 _ _ (upd_same (H := H2) (a := x) (o := .ins C dx (putF "lot" (.ref D) [])))
      refine ⟨_, rfl, x, C, dx, _, rfl, hx4, T.cl, T.nF, by show 1 < 1000; decide, ?_⟩
      have nDx : D ≠ x := fun z => by rw [z, hx2] at g2; cases g2
      have i5 : Ins x H2 (upd H4 x (.ins C dx (putF "first" v (putF "lot" (.ref D) [])))) := (Ins.put.trans (.of s4)).trans Ins.put
      refine k _ ((i3.trans (.of s4)).trans Ins.put) ⟨dx, D, v, acc, ?_, i5 _ _ g2 nDx, Paired.mapP p2 fun _ _ q => q.kp (kp_ins i5 hx2)⟩
      rw [upd_same]
      rfl
theorem ok_rods {fd : FuncData} (F : FnD K "rods" "Row.rods" sRods [] [] fR fd) (T : RowC K mg C fI fR) (mList : mg "list" = none) : FnOk P w K mg base CX0 1 fR fd ["self"] (spRodsM K C) := by
  refine FnD.ok0 F scRods (fun vs H Q E h => ?_) (fun cdv A outer s H vs Q E hr h => ?_)
  · obtain ⟨x, rs, rfl, _⟩ := h
    rfl
  · obtain ⟨x, rs, rfl, ⟨dx, l, fv, us, h1, h2, h3⟩, k⟩ := h
    refine ⟨_, pss_one (ps_ret (pe_callTy call_list_of (by rfl) mList (by decide +kernel) (pa_cons (pe_fld (pv 0) rfl) pa_nil))), ?_⟩
    refine ⟨_, rfl, x, C, dx, _, _, rfl, h1, T.cl, T.nL, rfl, l, us, rfl, .inl (SqL.of h2), fun p np => ?_⟩
    have s1 := same_upd (o := .lst us) np
    exact k _ p us s1 np upd_same (Paired.mapP h3 fun _ _ q => q.kp (.of s1))
theorem sc_whole : FnScope ["row"] ["row"] (defScope (topS 28)) := ⟨rfl, rfl, rfl, by decide +kernel, rfl, by decide +kernel, by decide +kernel⟩
theorem cal_whole {fd : FuncData} (D : Def K mg "whole" (topS 28)) (F : FnD K "rods" "Row.rods" sRods [] [] fR fd) (T : RowC K mg C fI fR) (mList : mg "list" = none) (cW : Cal P w K mg base 6 "whole_of" ["rods"] (spWhole K)) : Cal P w K mg base 7 "whole" ["row"] (spWholeR K C) := by
  obtain ⟨fW, fdW, gW, kW, bW, GW⟩ := cW
  have GR : FnOk P w K mg base CX0 1 fR fd ["self"] (spRodsM K C) := ok_rods F T mList
  have bR : Binds K fd ["self"] [] := F.bindsN fun _ _ _ _ _ _ us hl => match us, hl with | [_], _ => rfl
  refine D.cal sc_whole (fun _ _ _ _ _ _ us hl => match us, hl with | [_], _ => rfl) (fun vs H Q E h => ?_) (fun f cdv A outer s H vs Q E hr h => ?_)
  · obtain ⟨x, rs, rfl, _⟩ := h
    rfl
  · obtain ⟨x, rs, rfl, hx, ok, k⟩ := h
    have hr1 : Room 1 _ := hr.mono (by decide)
    refine ⟨_, pss_one (ps_ret (pe_call GW hr (by rfl) gW kW bW .nil pass0 (pa_cons (pe_meth0 (pv 0) T.cl T.mR GR hr1 bR .nil pass0) pa_nil))), ?_⟩
    obtain ⟨dx, l, fv, us, h1, h2, h3⟩ := id hx
    refine ⟨_, rfl, x, dx, _, rfl, h1, rfl, x, rs, rfl, hx, fun H1 l1 us1 s1 n1 g1 p1 => ?_⟩
    exact ⟨l1, us1, rs, rfl, SqL.of g1, p1, ok.l8, ok.ar, fun H2 t s2 hw => k _ t (s1.trans s2) (by
      obtain ⟨pa, qa, h5, h6⟩ := hw
      exact ⟨pa, qa, h5, h6.back s1⟩)⟩
end
end K14

namespace K14
open PySem PySem.Spec PyProof.Rows L2

/-! ### data, compared -/
inductive Lk : Nat → PyData → Prop
  | int (n : Nat) (i : Int) : Lk n (.int i)
  | str (n : Nat) (x : Str) : Lk n (.str x)
  | list {n : Nat} {ds : List PyData} (h : ∀ d ∈ ds, Lk n d) (l : ds.length ≤ 100) : Lk (n + 1) (.list ds)
  | tuple {n : Nat} {ds : List PyData} (h : ∀ d ∈ ds, Lk n d) (l : ds.length ≤ 100) : Lk (n + 1) (.tuple ds)
theorem dp_same {K : PySem.W.Frag} {H H' : Hp} (s : Same H H') {v : V} {d : PyData} (h : Dp K H v d) : Dp K H' v d :=
  Dp.rec (motive_1 := fun v d _ => Dp K H' v d) (motive_2 := fun vs ds _ => DpAll K H' vs ds) .non (fun b => .bl b) (fun i => .int i) (fun x => .str x)
    (fun hs _ ih => .lst (s.seq hs) ih) (fun hs _ ih => .tup (Same.tup s hs) ih) .nil (fun _ _ i1 i2 => .cons i1 i2) h
theorem dpAll_len {K : PySem.W.Frag} {H : Hp} : ∀ {vs : List V} {ds : List PyData}, DpAll K H vs ds → vs.length = ds.length
  | _, _, .nil => rfl
  | _, _, .cons _ t => congrArg Nat.succ (dpAll_len t)
theorem dpAll_at {K : PySem.W.Frag} {H : Hp} : ∀ {vs : List V} {ds : List PyData} {i : Nat}, DpAll K H vs ds → i < ds.length → ∃ v d, vs[i]? = some v ∧ ds[i]? = some d ∧ Dp K H v d
  | _, _, i, .nil, h => absurd h (Nat.not_lt_zero i)
  | _, _, 0, .cons r _, _ => ⟨_, _, rfl, rfl, r⟩
  | _, _, i + 1, .cons _ t, h => by
    obtain ⟨v, d, h1, h2, h3⟩ := dpAll_at (i := i) t (Nat.lt_of_succ_lt_succ h)
    exact ⟨v, d, by simpa using h1, by simpa using h2, h3⟩
theorem dp_list {K : PySem.W.Frag} {H : Hp} {x : V} {ds : List PyData} (h : Dp K H x (.list ds)) : ∃ a xs, x = .ref a ∧ SqL K H a xs ∧ DpAll K H xs ds := by
  cases h with
  | lst h1 h2 => exact ⟨_, _, rfl, h1, h2⟩
theorem dp_tuple {K : PySem.W.Frag} {H : Hp} {x : V} {ds : List PyData} (h : Dp K H x (.tuple ds)) : ∃ a xs, x = .ref a ∧ SqT K H a xs ∧ DpAll K H xs ds := by
  cases h with
  | tup h1 h2 => exact ⟨_, _, rfl, h1, h2⟩
theorem ty_l {K : PySem.W.Frag} {H : Hp} {a : Addr} {xs : List V} (h : SqL K H a xs) : TyX K H (.ref a) (.type "list") := by
  rcases h with (h | ⟨o, h⟩) | ⟨o, its, n, h1, h2, _⟩
  · exact .base (.lst h)
  · exact .base (.frz h)
  · exact .kList h1 h2
theorem ty_t {K : PySem.W.Frag} {H : Hp} {a : Addr} {xs : List V} (h : SqT K H a xs) : TyX K H (.ref a) (.type "tuple") := by
  rcases h with (h | ⟨o, h⟩) | ⟨o, its, n, h1, h2, _⟩
  · exact .base (.tup h)
  · exact .fTuple h
  · exact .kTuple h1 h2
theorem lt_list {K : PySem.W.Frag} : PySem.W.kitAny K (.type "list") [.type "list", .type "tuple"] = some true := kitAny_cons (b := true) (kit_ty (by decide +kernel)) (fun h => by cases h) (fun _ => rfl)
theorem lt_tuple {K : PySem.W.Frag} : PySem.W.kitAny K (.type "tuple") [.type "list", .type "tuple"] = some true :=
  kitAny_cons (b := false) (kit_ty (by decide +kernel)) (fun _ => kitAny_cons (b := true) (kit_ty (by decide +kernel)) (fun h => by cases h) (fun _ => rfl)) (fun h => by cases h)
theorem lt_int {K : PySem.W.Frag} : PySem.W.kitAny K (.type "int") [.type "list", .type "tuple"] = some false :=
  kitAny_cons (b := false) (kit_ty (by decide +kernel)) (fun _ => kitAny_cons (b := false) (kit_ty (by decide +kernel)) (fun _ => kitAny_nil) (fun h => by cases h)) (fun h => by cases h)
theorem lt_str {K : PySem.W.Frag} : PySem.W.kitAny K (.type "str") [.type "list", .type "tuple"] = some false :=
  kitAny_cons (b := false) (kit_ty (by decide +kernel)) (fun _ => kitAny_cons (b := false) (kit_ty (by decide +kernel)) (fun _ => kitAny_nil) (fun h => by cases h)) (fun h => by cases h)
theorem lt_cls : Paired ClsV [.ty "list", .ty "tuple"] [.type "list", .type "tuple"] := .cons (.ty _) (.cons (.ty _) .nil)
def spLike (K : PySem.W.Frag) (n : Nat) : Sp := fun vs H Q _ => ∃ (x y : V) (d : PyData), vs = [x, y] ∧ Lk n d ∧ Dp K H x d ∧ Dp K H y d ∧ ∀ H', Same H H' → Q (.bl true) H'
structure Tys (mg : Str → Option Value) : Prop where
  l : mg "list" = none
  t : mg "tuple" = none
  b : mg "bool" = none
  i : mg "int" = none
  s : mg "str" = none
section
variable {P : Program} {w : World} {K : PySem.W.Frag} {mg : Str → Option Value} {base : Heap}

theorem sc__law_like : FnScope ["_law_found", "_law_due", "_law_k"] ["_law_found", "_law_due"] (defScope (topS 57)) := ⟨rfl, rfl, rfl, by decide +kernel, rfl, by decide +kernel, by decide +kernel⟩
theorem ok_like {f : Addr} {fd : FuncData} (F : FnD K "_law_like" "_law_like" (topS 57) [] [] f fd) (g : mg "_law_like" = some (.ref f)) (mLen : mg "len" = none) (mRange : mg "range" = none) (mIsi : mg "isinstance" = none) (mAll : mg "all" = none) (M : Tys mg) :
    ∀ n : Nat, FnOk P w K mg base CX0 (n + 1) f fd ["_law_found", "_law_due"] (spLike K n) := by
  have bL : Binds K fd ["_law_found", "_law_due"] [] := F.bindsN (fun _ _ _ _ _ _ us hl => match us, hl with | [_, _], _ => rfl)
  have nd := sc__law_like.nd
  intro n
  induction n with
  | zero =>
    refine FnD.ok0 F sc__law_like (fun vs H Q E h => ?_) (fun cdv A outer s H vs Q E hr h => ?_)
    · obtain ⟨x, y, d, rfl, _⟩ := h
      rfl
    · obtain ⟨x, y, d, rfl, hl, hx, hy, k⟩ := h
      refine ⟨_, pss_cons (ps_if (pt_val (pe_callB call_isiT (by rfl) mIsi (by decide +kernel) (pa_cons (pv 1) (pa_cons (pe_tup (pa_cons (pe_bltn (v := .ty "list") (by rfl) M.l (by decide +kernel) rfl) (pa_cons (pe_bltn (v := .ty "tuple") (by rfl) M.t (by decide +kernel) rfl) pa_nil))) pa_nil)))) pss_never pss_nil) (pss_cons (ps_if (PW.pt (pw_or (pt_cmpR op_ne (pe_callB call_isi (by rfl) mIsi (by decide +kernel) (pa_cons (pv 0) (pa_cons (pe_bltn (v := .ty "bool") (by rfl) M.b (by decide +kernel) rfl) pa_nil))) (pe_callB call_isi (by rfl) mIsi (by decide +kernel) (pa_cons (pv 1) (pa_cons (pe_bltn (v := .ty "bool") (by rfl) M.b (by decide +kernel) rfl) pa_nil))) (nomark _)) (pw_or1 (pt_cmpR op_ne (pe_callB call_isi (by rfl) mIsi (by decide +kernel) (pa_cons (pv 0) (pa_cons (pe_bltn (v := .ty "int") (by rfl) M.i (by decide +kernel) rfl) pa_nil))) (pe_callB call_isi (by rfl) mIsi (by decide +kernel) (pa_cons (pv 1) (pa_cons (pe_bltn (v := .ty "int") (by rfl) M.i (by decide +kernel) rfl) pa_nil))) (nomark _))))) (pss_one (ps_ret pe_bl)) pss_nil) (pss_one (ps_ret (pe_and (pe_cmpR op_eq (pe_callB call_isi (by rfl) mIsi (by decide +kernel) (pa_cons (pv 0) (pa_cons (pe_bltn (v := .ty "str") (by rfl) M.s (by decide +kernel) rfl) pa_nil))) (pe_callB call_isi (by rfl) mIsi (by decide +kernel) (pa_cons (pv 1) (pa_cons (pe_bltn (v := .ty "str") (by rfl) M.s (by decide +kernel) rfl) pa_nil))) (nomark _)) (pe_one (pe_cmpR op_eq (pv 0) (pv 1) (nomark _))))))), ?_⟩
      cases hl with
      | int _ i =>
        cases hx
        cases hy
        refine ⟨_, rfl, by show 2 ≤ sizeLine; decide, fun tp np => ⟨_, tp, _, .type "int", _, false, rfl, upd_same, lt_cls, .base (.int _), lt_int, ?_⟩⟩
        refine ⟨_, rfl, iteF ?_⟩
        have s1 := same_upd (o := .tup [.ty "list", .ty "tuple"]) np
        refine ⟨_, rfl, _, _, .type "int", .type "bool", false, rfl, .ty _, .base (.int _), kit_ty (by decide +kernel), _, rfl, _, _, .type "int", .type "bool", false, rfl, .ty _, .base (.int _), kit_ty (by decide +kernel), rfl, _, rfl, ?_⟩
        rw [show (!decide (V.bl false = V.bl false)) = false from rfl]
        refine iteF ?_
        refine ⟨_, rfl, _, _, .type "int", .type "int", true, rfl, .ty _, .base (.int _), kit_ty (by decide +kernel), _, rfl, _, _, .type "int", .type "int", true, rfl, .ty _, .base (.int _), kit_ty (by decide +kernel), rfl, _, rfl, ?_⟩
        rw [show (!decide (V.bl true = V.bl true)) = false from rfl]
        refine iteF ?_
        refine ⟨_, rfl, _, _, .type "int", .type "str", false, rfl, .ty _, .base (.int _), kit_ty (by decide +kernel), _, rfl, _, _, .type "int", .type "str", false, rfl, .ty _, .base (.int _), kit_ty (by decide +kernel), rfl, ?_⟩
        refine ⟨_, rfl, ?_⟩
        rw [show decide (V.bl false = V.bl false) = true from rfl]
        refine iteT ?_
        refine ⟨_, rfl, _, rfl, rfl, ?_⟩
        rw [decide_eq_true rfl]
        exact k _ s1
      | str _ z =>
        cases hx
        cases hy
        refine ⟨_, rfl, by show 2 ≤ sizeLine; decide, fun tp np => ⟨_, tp, _, .type "str", _, false, rfl, upd_same, lt_cls, .base (.str _), lt_str, ?_⟩⟩
        refine ⟨_, rfl, iteF ?_⟩
        have s1 := same_upd (o := .tup [.ty "list", .ty "tuple"]) np
        refine ⟨_, rfl, _, _, .type "str", .type "bool", false, rfl, .ty _, .base (.str _), kit_ty (by decide +kernel), _, rfl, _, _, .type "str", .type "bool", false, rfl, .ty _, .base (.str _), kit_ty (by decide +kernel), rfl, _, rfl, ?_⟩
        rw [show (!decide (V.bl false = V.bl false)) = false from rfl]
        refine iteF ?_
        refine ⟨_, rfl, _, _, .type "str", .type "int", false, rfl, .ty _, .base (.str _), kit_ty (by decide +kernel), _, rfl, _, _, .type "str", .type "int", false, rfl, .ty _, .base (.str _), kit_ty (by decide +kernel), rfl, _, rfl, ?_⟩
        rw [show (!decide (V.bl false = V.bl false)) = false from rfl]
        refine iteF ?_
        refine ⟨_, rfl, _, _, .type "str", .type "str", true, rfl, .ty _, .base (.str _), kit_ty (by decide +kernel), _, rfl, _, _, .type "str", .type "str", true, rfl, .ty _, .base (.str _), kit_ty (by decide +kernel), rfl, ?_⟩
        refine ⟨_, rfl, ?_⟩
        rw [show decide (V.bl true = V.bl true) = true from rfl]
        refine iteT ?_
        refine ⟨_, rfl, _, rfl, rfl, ?_⟩
        rw [decide_eq_true rfl]
        exact k _ s1
  | succ n GL =>
    refine FnD.ok0 F sc__law_like (fun vs H Q E h => ?_) (fun cdv A outer s H vs Q E hr h => ?_)
    · obtain ⟨x, y, d, rfl, _⟩ := h
      rfl
    · obtain ⟨x, y, d, rfl, hl, hx, hy, k⟩ := h
      refine ⟨_, pss_cons (ps_if (pt_val (pe_callB call_isiT (by rfl) mIsi (by decide +kernel) (pa_cons (pv 1) (pa_cons (pe_tup (pa_cons (pe_bltn (v := .ty "list") (by rfl) M.l (by decide +kernel) rfl) (pa_cons (pe_bltn (v := .ty "tuple") (by rfl) M.t (by decide +kernel) rfl) pa_nil))) pa_nil)))) (pss_cons (ps_if (PW.pt (pw_or (pt_cmpR op_ne (pe_callB call_isi (by rfl) mIsi (by decide +kernel) (pa_cons (pv 0) (pa_cons (pe_bltn (v := .ty "list") (by rfl) M.l (by decide +kernel) rfl) pa_nil))) (pe_callB call_isi (by rfl) mIsi (by decide +kernel) (pa_cons (pv 1) (pa_cons (pe_bltn (v := .ty "list") (by rfl) M.l (by decide +kernel) rfl) pa_nil))) (nomark _)) (pw_or1 (pt_cmpR op_ne (pe_callB call_isi (by rfl) mIsi (by decide +kernel) (pa_cons (pv 0) (pa_cons (pe_bltn (v := .ty "tuple") (by rfl) M.t (by decide +kernel) rfl) pa_nil))) (pe_callB call_isi (by rfl) mIsi (by decide +kernel) (pa_cons (pv 1) (pa_cons (pe_bltn (v := .ty "tuple") (by rfl) M.t (by decide +kernel) rfl) pa_nil))) (nomark _))))) (pss_one (ps_ret pe_bl)) pss_nil) (pss_one (ps_ret (pe_and (pe_cmpR op_eq (pe_callB call_len_seq (by rfl) mLen PySem.boot_len (pa_cons (pv 0) pa_nil)) (pe_callB call_len_seq (by rfl) mLen PySem.boot_len (pa_cons (pv 1) pa_nil)) (nomark _)) (pe_one (pe_callB (cr_all rfl) (by rfl) mAll (by decide +kernel) (pa_cons (pe_lc (own := [("_law_k", 2)]) (g := gName 2) (tt := tYes) rfl nd (pi_range1 (by rfl) mRange (pa_cons (pe_callB call_len_seq (by rfl) mLen PySem.boot_len (pa_cons (pv 1) pa_nil)) pa_nil)) (blkOk_by (N := ["_law_found", "_law_due", "_law_k"]) (sc := defScope (topS 57)) (by decide +kernel)) (fun _ _ _ _ _ => pg_name (i := 2) nd rfl (Or.inl rfl)) (fun _ _ _ _ _ => pts_nil) (fun _ _ _ _ _ => (pe_call GL hr (by rfl) g F.kp bL .nil pass0 (pa_cons (pe_ix (r := rIx K) ix_seq (pv 0) (pv 2) (fun _ _ => rfl)) (pa_cons (pe_ix (r := rIx K) ix_seq (pv 1) (pv 2) (fun _ _ => rfl)) pa_nil))))) pa_nil))))))) pss_nil) (pss_cons (ps_if (PW.pt (pw_or (pt_cmpR op_ne (pe_callB call_isi (by rfl) mIsi (by decide +kernel) (pa_cons (pv 0) (pa_cons (pe_bltn (v := .ty "bool") (by rfl) M.b (by decide +kernel) rfl) pa_nil))) (pe_callB call_isi (by rfl) mIsi (by decide +kernel) (pa_cons (pv 1) (pa_cons (pe_bltn (v := .ty "bool") (by rfl) M.b (by decide +kernel) rfl) pa_nil))) (nomark _)) (pw_or1 (pt_cmpR op_ne (pe_callB call_isi (by rfl) mIsi (by decide +kernel) (pa_cons (pv 0) (pa_cons (pe_bltn (v := .ty "int") (by rfl) M.i (by decide +kernel) rfl) pa_nil))) (pe_callB call_isi (by rfl) mIsi (by decide +kernel) (pa_cons (pv 1) (pa_cons (pe_bltn (v := .ty "int") (by rfl) M.i (by decide +kernel) rfl) pa_nil))) (nomark _))))) (pss_one (ps_ret pe_bl)) pss_nil) (pss_one (ps_ret (pe_and (pe_cmpR op_eq (pe_callB call_isi (by rfl) mIsi (by decide +kernel) (pa_cons (pv 0) (pa_cons (pe_bltn (v := .ty "str") (by rfl) M.s (by decide +kernel) rfl) pa_nil))) (pe_callB call_isi (by rfl) mIsi (by decide +kernel) (pa_cons (pv 1) (pa_cons (pe_bltn (v := .ty "str") (by rfl) M.s (by decide +kernel) rfl) pa_nil))) (nomark _)) (pe_one (pe_cmpR op_eq (pv 0) (pv 1) (nomark _))))))), ?_⟩
      cases hl with
      | int _ i =>
        cases hx
        cases hy
        refine ⟨_, rfl, by show 2 ≤ sizeLine; decide, fun tp np => ⟨_, tp, _, .type "int", _, false, rfl, upd_same, lt_cls, .base (.int _), lt_int, ?_⟩⟩
        refine ⟨_, rfl, iteF ?_⟩
        have s1 := same_upd (o := .tup [.ty "list", .ty "tuple"]) np
        refine ⟨_, rfl, _, _, .type "int", .type "bool", false, rfl, .ty _, .base (.int _), kit_ty (by decide +kernel), _, rfl, _, _, .type "int", .type "bool", false, rfl, .ty _, .base (.int _), kit_ty (by decide +kernel), rfl, _, rfl, ?_⟩
        rw [show (!decide (V.bl false = V.bl false)) = false from rfl]
        refine iteF ?_
        refine ⟨_, rfl, _, _, .type "int", .type "int", true, rfl, .ty _, .base (.int _), kit_ty (by decide +kernel), _, rfl, _, _, .type "int", .type "int", true, rfl, .ty _, .base (.int _), kit_ty (by decide +kernel), rfl, _, rfl, ?_⟩
        rw [show (!decide (V.bl true = V.bl true)) = false from rfl]
        refine iteF ?_
        refine ⟨_, rfl, _, _, .type "int", .type "str", false, rfl, .ty _, .base (.int _), kit_ty (by decide +kernel), _, rfl, _, _, .type "int", .type "str", false, rfl, .ty _, .base (.int _), kit_ty (by decide +kernel), rfl, ?_⟩
        refine ⟨_, rfl, ?_⟩
        rw [show decide (V.bl false = V.bl false) = true from rfl]
        refine iteT ?_
        refine ⟨_, rfl, _, rfl, rfl, ?_⟩
        rw [decide_eq_true rfl]
        exact k _ s1
      | str _ z =>
        cases hx
        cases hy
        refine ⟨_, rfl, by show 2 ≤ sizeLine; decide, fun tp np => ⟨_, tp, _, .type "str", _, false, rfl, upd_same, lt_cls, .base (.str _), lt_str, ?_⟩⟩
        refine ⟨_, rfl, iteF ?_⟩
        have s1 := same_upd (o := .tup [.ty "list", .ty "tuple"]) np
        refine ⟨_, rfl, _, _, .type "str", .type "bool", false, rfl, .ty _, .base (.str _), kit_ty (by decide +kernel), _, rfl, _, _, .type "str", .type "bool", false, rfl, .ty _, .base (.str _), kit_ty (by decide +kernel), rfl, _, rfl, ?_⟩
        rw [show (!decide (V.bl false = V.bl false)) = false from rfl]
        refine iteF ?_
        refine ⟨_, rfl, _, _, .type "str", .type "int", false, rfl, .ty _, .base (.str _), kit_ty (by decide +kernel), _, rfl, _, _, .type "str", .type "int", false, rfl, .ty _, .base (.str _), kit_ty (by decide +kernel), rfl, _, rfl, ?_⟩
        rw [show (!decide (V.bl false = V.bl false)) = false from rfl]
        refine iteF ?_
        refine ⟨_, rfl, _, _, .type "str", .type "str", true, rfl, .ty _, .base (.str _), kit_ty (by decide +kernel), _, rfl, _, _, .type "str", .type "str", true, rfl, .ty _, .base (.str _), kit_ty (by decide +kernel), rfl, ?_⟩
        refine ⟨_, rfl, ?_⟩
        rw [show decide (V.bl true = V.bl true) = true from rfl]
        refine iteT ?_
        refine ⟨_, rfl, _, rfl, rfl, ?_⟩
        rw [decide_eq_true rfl]
        exact k _ s1
      | @list _ ds hd l =>
        obtain ⟨a, xs, rfl, ha, hxs⟩ := dp_list hx
        obtain ⟨b, ys, rfl, hb, hys⟩ := dp_list hy
        have la : xs.length = ds.length := dpAll_len hxs
        have lb : ys.length = ds.length := dpAll_len hys
        refine ⟨_, rfl, by show 2 ≤ sizeLine; decide, fun tp np => ?_⟩
        have s1 := same_upd (o := .tup [.ty "list", .ty "tuple"]) np
        have ha1 := s1.seq ha
        have hb1 := s1.seq hb
        refine ⟨_, tp, _, .type "list", _, true, rfl, upd_same, lt_cls, ty_l hb1, lt_list, ?_⟩
        refine ⟨_, rfl, iteT ?_⟩
        refine ⟨_, rfl, _, _, .type "list", .type "list", true, rfl, .ty _, ty_l ha1, kit_ty (by decide +kernel), _, rfl, _, _, .type "list", .type "list", true, rfl, .ty _, ty_l hb1, kit_ty (by decide +kernel), rfl, _, rfl, ?_⟩
        rw [show (!decide (V.bl true = V.bl true)) = false from rfl]
        refine iteF ?_
        refine ⟨_, rfl, _, _, .type "list", .type "tuple", false, rfl, .ty _, ty_l ha1, kit_ty (by decide +kernel), _, rfl, _, _, .type "list", .type "tuple", false, rfl, .ty _, ty_l hb1, kit_ty (by decide +kernel), rfl, _, rfl, ?_⟩
        rw [show (!decide (V.bl false = V.bl false)) = false from rfl]
        refine iteF ?_
        refine ⟨_, rfl, a, xs, rfl, .inl ha1, _, rfl, b, ys, rfl, .inl hb1, rfl, ?_⟩
        refine ⟨_, rfl, ?_⟩
        rw [decide_eq_true (show V.int (xs.length : Int) = V.int (ys.length : Int) by rw [la, lb])]
        refine iteT ?_
        refine ⟨_, rfl, b, ys, rfl, .inl hb1, _, rfl, by omega, by omega, fun D nD => lc_range (lo := 0) (n := (ys.length : Int).toNat) (Lc (fun (_ : Hp) (v : V) (b : Bool) => v = .bl b) (upd H tp (.tup [.ty "list", .ty "tuple"])) D (fun _ => true)) (Lc.start nD) ?_ ?_⟩
        · intro i H1 hi h1
          obtain ⟨acc, s2, _⟩ := id h1
          obtain ⟨v1, d1, e1, e2, e3⟩ := dpAll_at (i := i) hxs (by omega)
          obtain ⟨v2, d2, f1, f2, f3⟩ := dpAll_at (i := i) hys (by omega)
          rw [e2] at f2
          cases f2
          have ei : (0 : Int) + (i : Int) = ((i : Nat) : Int) := by omega
          refine ⟨rfl, ?_⟩
          refine ⟨_, rfl, _, rfl, .inl ⟨a, xs, _, v1, rfl, rfl, s2.seq ha1, at_of ei e1, ?_⟩⟩
          refine ⟨_, rfl, _, rfl, .inl ⟨b, ys, _, v2, rfl, rfl, s2.seq hb1, at_of ei f1, ?_⟩⟩
          refine ⟨v1, v2, d1, rfl, hd d1 (List.mem_of_getElem? e2), dp_same (s1.trans s2) e3, dp_same (s1.trans s2) f3, fun H2 s3 => ?_⟩
          exact Lc.step (K := K) (F := fun (_ : Hp) (v : V) (b : Bool) => v = .bl b) (f := fun _ => true) (fun _ q => q) h1 nD s3 rfl (show i < 1000 by omega)
        · rintro H1 ⟨acc, s2, g2, p2⟩
          rw [paired_bl p2] at g2
          refine ⟨D, _, rfl, SqL.of g2, ?_⟩
          rw [all_true]
          exact k _ (s1.trans s2)
      | @tuple _ ds hd l =>
        obtain ⟨a, xs, rfl, ha, hxs⟩ := dp_tuple hx
        obtain ⟨b, ys, rfl, hb, hys⟩ := dp_tuple hy
        have la : xs.length = ds.length := dpAll_len hxs
        have lb : ys.length = ds.length := dpAll_len hys
        refine ⟨_, rfl, by show 2 ≤ sizeLine; decide, fun tp np => ?_⟩
        have s1 := same_upd (o := .tup [.ty "list", .ty "tuple"]) np
        have ha1 := Same.tup s1 ha
        have hb1 := Same.tup s1 hb
        refine ⟨_, tp, _, .type "tuple", _, true, rfl, upd_same, lt_cls, ty_t hb1, lt_tuple, ?_⟩
        refine ⟨_, rfl, iteT ?_⟩
        refine ⟨_, rfl, _, _, .type "tuple", .type "list", false, rfl, .ty _, ty_t ha1, kit_ty (by decide +kernel), _, rfl, _, _, .type "tuple", .type "list", false, rfl, .ty _, ty_t hb1, kit_ty (by decide +kernel), rfl, _, rfl, ?_⟩
        rw [show (!decide (V.bl false = V.bl false)) = false from rfl]
        refine iteF ?_
        refine ⟨_, rfl, _, _, .type "tuple", .type "tuple", true, rfl, .ty _, ty_t ha1, kit_ty (by decide +kernel), _, rfl, _, _, .type "tuple", .type "tuple", true, rfl, .ty _, ty_t hb1, kit_ty (by decide +kernel), rfl, _, rfl, ?_⟩
        rw [show (!decide (V.bl true = V.bl true)) = false from rfl]
        refine iteF ?_
        refine ⟨_, rfl, a, xs, rfl, .inr ha1, _, rfl, b, ys, rfl, .inr hb1, rfl, ?_⟩
        refine ⟨_, rfl, ?_⟩
        rw [decide_eq_true (show V.int (xs.length : Int) = V.int (ys.length : Int) by rw [la, lb])]
        refine iteT ?_
        refine ⟨_, rfl, b, ys, rfl, .inr hb1, _, rfl, by omega, by omega, fun D nD => lc_range (lo := 0) (n := (ys.length : Int).toNat) (Lc (fun (_ : Hp) (v : V) (b : Bool) => v = .bl b) (upd H tp (.tup [.ty "list", .ty "tuple"])) D (fun _ => true)) (Lc.start nD) ?_ ?_⟩
        · intro i H1 hi h1
          obtain ⟨acc, s2, _⟩ := id h1
          obtain ⟨v1, d1, e1, e2, e3⟩ := dpAll_at (i := i) hxs (by omega)
          obtain ⟨v2, d2, f1, f2, f3⟩ := dpAll_at (i := i) hys (by omega)
          rw [e2] at f2
          cases f2
          have ei : (0 : Int) + (i : Int) = ((i : Nat) : Int) := by omega
          refine ⟨rfl, ?_⟩
          refine ⟨_, rfl, _, rfl, .inr (.inl ⟨a, xs, _, v1, rfl, rfl, Same.tup s2 ha1, at_of ei e1, ?_⟩)⟩
          refine ⟨_, rfl, _, rfl, .inr (.inl ⟨b, ys, _, v2, rfl, rfl, Same.tup s2 hb1, at_of ei f1, ?_⟩)⟩
          refine ⟨v1, v2, d1, rfl, hd d1 (List.mem_of_getElem? e2), dp_same (s1.trans s2) e3, dp_same (s1.trans s2) f3, fun H2 s3 => ?_⟩
          exact Lc.step (K := K) (F := fun (_ : Hp) (v : V) (b : Bool) => v = .bl b) (f := fun _ => true) (fun _ q => q) h1 nD s3 rfl (show i < 1000 by omega)
        · rintro H1 ⟨acc, s2, g2, p2⟩
          rw [paired_bl p2] at g2
          refine ⟨D, _, rfl, SqL.of g2, ?_⟩
          rw [all_true]
          exact k _ (s1.trans s2)
end
end K14

namespace K14
open PySem PySem.Spec PyProof.Rows L2

/-! ### data of wholes and rods -/
def dWhole (w : List Ar × List Ar) : PyData := .tuple [.list (w.1.map dAr), .list (w.2.map dAr)]
def dRod (r : Str × Ar) : PyData := .tuple [.str r.1, dAr r.2]
def dRods (rs : List (Str × Ar)) : PyData := .list (rs.map dRod)
theorem ars_dp {K : PySem.W.Frag} {H : Hp} : ∀ {us : List V} {zs : List Ar}, Paired (IsAr K H) us zs → DpAll K H us (zs.map dAr)
  | _, _, .nil => .nil
  | _, _, .cons r t => .cons r.dp (ars_dp t)
theorem IsRod.dp {K : PySem.W.Frag} {H : Hp} {v : V} {r : Str × Ar} (h : IsRod K H v r) : Dp K H v (dRod r) := by
  obtain ⟨a, x, rfl, h2, h3⟩ := h
  exact .tup h2 (.cons (.str _) (.cons h3.dp .nil))
theorem rods_dp {K : PySem.W.Frag} {H : Hp} : ∀ {us : List V} {rs : List (Str × Ar)}, Paired (IsRod K H) us rs → DpAll K H us (rs.map dRod)
  | _, _, .nil => .nil
  | _, _, .cons r t => .cons r.dp (rods_dp t)
theorem whl_dp {K : PySem.W.Frag} {H0 H : Hp} {t : Addr} {w : List Ar × List Ar} (h : Whl K H0 H t w) : Dp K H (.ref t) (dWhole w) := by
  obtain ⟨pa, qa, ht, us, vs, h1, h2, _, _, _, h6, h7⟩ := h
  exact .tup ht (.cons (.lst (SqL.of h1) (ars_dp h6)) (.cons (.lst (SqL.of h2) (ars_dp h7)) .nil))
theorem lk2 {n : Nat} {d e : PyData} (h1 : Lk n d) (h2 : Lk n e) : Lk (n + 1) (.tuple [d, e]) := .tuple (fun x hx => by
  rcases List.mem_cons.mp hx with rfl | hx
  · exact h1
  · rw [List.mem_singleton.mp hx]
    exact h2) (by show 2 ≤ 100; decide)
theorem lk_ar (z : Ar) : Lk 2 (dAr z) := lk2 (lk2 (.int _ _) (.int _ _)) (lk2 (.int _ _) (.int _ _))
theorem lk_ars {zs : List Ar} (h : zs.length ≤ 100) : Lk 3 (.list (zs.map dAr)) := .list (fun x hx => by
  obtain ⟨z, _, rfl⟩ := List.mem_map.mp hx
  exact lk_ar z) (by rw [List.length_map]; exact h)
theorem lk_whole {w : List Ar × List Ar} (h1 : w.1.length ≤ 100) (h2 : w.2.length ≤ 100) : Lk 4 (dWhole w) := lk2 (lk_ars h1) (lk_ars h2)
theorem lk_rods {rs : List (Str × Ar)} (h : rs.length ≤ 100) : Lk 4 (dRods rs) := .list (fun x hx => by
  obtain ⟨z, _, rfl⟩ := List.mem_map.mp hx
  exact lk2 (.str _ _) (lk_ar z.2)) (by rw [List.length_map]; exact h)
theorem one_row : whole [((3, 1), (4, 1))] = ([((0, 1), (0, 1)), ((1, 1), (0, 1))], [((3, 1), (4, 1))]) := by decide +kernel
theorem one_ok : RodsOk [(Str.ofString "a", ((3, 1), (4, 1)))] := by
  refine ⟨by decide, by decide, by simp, fun r hr => ?_, fun r hr => ?_, fun r hr => ?_⟩ <;> rw [List.mem_singleton.mp hr]
  · unfold NmOk SigOk
    decide +kernel
  · exact ⟨⟨by decide, by decide, by decide, by decide⟩, by decide, by decide, by decide, by decide⟩
  · decide
def spLaw (K : PySem.W.Frag) : Sp := fun vs H Q _ => ∃ (a : Addr) (ns : List Int), vs = [.ref a] ∧ SqL K H a (ns.map V.int) ∧ ns.length ≤ 63 ∧ ∀ H', Q (.bl true) H'
section
variable {P : Program} {w : World} {K : PySem.W.Frag} {mg : Str → Option Value} {base : Heap} {C fI fR : Addr}
/-- Row(rods, start=..) binds -/
theorem kb_init {fd : FuncData} {aO : V} (F : FnD K "__init__" "Row.__init__" sInit [] [("start", aO)] fI fd) : ∃ g, KBn K fd ["self", "rods", "start"] 2 ["start"] g (fun vs zs => vs ++ zs) := by
  obtain ⟨mv, h⟩ := FunD.kbinds0 (ps := ["self", "rods", "start"]) F 2 ["start"] [] (fun vs _ zs => vs ++ zs) (by simp) (by simp) (fun r1 _ r2 => r1.append r2) (fun D doc pm an cdv ct us mv ws h1 h2 h3 => by
    match us, h1, ws, h3 with
    | [_, _], _, [_], _ => exact rfl)
  exact ⟨_, h⟩
theorem b_init {fd : FuncData} {aO : V} (F : FnD K "__init__" "Row.__init__" sInit [] [("start", aO)] fI fd) : ∃ ds, Vals [aO] ds ∧ Binds K fd ["self", "rods", "start"] ds := by
  exact FunD.binds0 (ps := ["self", "rods", "start"]) F 2 (by simp) rfl (fun D doc pm an cdv ct us ks h1 h2 => by
    match us, h1, ks, h2 with
    | [_, _], _, [_], _ => exact ⟨_, _, _, _, _, _, rfl, rfl, rfl⟩)

theorem sc_law : FnScope ["_law_script", "_law_box_here", "_law_turn", "_law_rods_here", "_law_row", "_law_due", "_law_again", "_law_told"] ["_law_script"] (defScope (topS 58)) := ⟨rfl, rfl, rfl, by decide +kernel, rfl, by decide +kernel, by decide +kernel⟩
theorem ok_law {f : Addr} {fd fdI fdR fdL : FuncData} {fL : Addr} (F : FnD K "law" "law" (topS 58) [] [] f fd) (T : RowC K mg C fI fR) (aO : Addr) (iO : ∀ H, IsAr K H (.ref aO) zer) (FI : FnD K "__init__" "Row.__init__" sInit [] [("start", .ref aO)] fI fdI) (FR : FnD K "rods" "Row.rods" sRods [] [] fR fdR)
    (FL : FnD K "_law_like" "_law_like" (topS 57) [] [] fL fdL) (gL : mg "_law_like" = some (.ref fL)) (GI : FnOk P w K mg base CX0 3 fI fdI ["self", "rods", "start"] (spInit K C)) (GR : FnOk P w K mg base CX0 1 fR fdR ["self"] (spRodsM K C)) (GL : FnOk P w K mg base CX0 5 fL fdL ["_law_found", "_law_due"] (spLike K 4))
    (mLen : mg "len" = none) (mRange : mg "range" = none) (mList : mg "list" = none)
    (cB : Cal P w K mg base 1 "_law_box" ["_law_script"] (spBox K)) (cO : Cal P w K mg base 2 "_law_of" ["_law_box_here", "_law_some"] (spOf K)) (cS : Cal P w K mg base 4 "_law_spot" ["_law_box_here"] (spSpot K))
    (cRr : Cal P w K mg base 6 "_law_rods" ["_law_box_here", "_law_low_here", "_law_most"] (spRods K)) (cWd : Cal P w K mg base 7 "_law_wide_rods" ["_law_box_here", "_law_low_here", "_law_most"] (spRods K))
    (cW : Cal P w K mg base 4 "_law_whole" ["_law_rods_here"] (spWhole K)) (cH : Cal P w K mg base 7 "whole" ["row"] (spWholeR K C)) : FnOk P w K mg base CX0 8 f fd ["_law_script"] (spLaw K) := by
  obtain ⟨fB, fdB, gB, kB, bB, GB⟩ := cB
  obtain ⟨fO, fdO, gO, kO, bO, GO⟩ := cO
  obtain ⟨fS, fdS, gS, kS, bS, GS⟩ := cS
  obtain ⟨fRr, fdRr, gRr, kRr, bRr, GRr⟩ := cRr
  obtain ⟨fWd, fdWd, gWd, kWd, bWd, GWd⟩ := cWd
  obtain ⟨fW, fdW, gW, kW, bW, GW⟩ := cW
  obtain ⟨fH, fdH, gH, kH, bH, GH⟩ := cH
  have kL := FL.kp
  have bL : Binds K fdL ["_law_found", "_law_due"] [] := FL.bindsN (fun _ _ _ _ _ _ us hl => match us, hl with | [_, _], _ => rfl)
  have bR : Binds K fdR ["self"] [] := FR.bindsN (fun _ _ _ _ _ _ us hl => match us, hl with | [_], _ => rfl)
  obtain ⟨gK, bK⟩ := kb_init FI
  obtain ⟨dsD, vD, bD⟩ := b_init FI
  refine FnD.ok0 F sc_law (fun vs H Q E h => ?_) (fun cdv A outer s H vs Q E hr h => ?_)
  · obtain ⟨a, ns, rfl, _⟩ := h
    rfl
  · obtain ⟨a, ns, rfl, hS, hlen, k⟩ := h
    have hrB : Room 1 _ := hr.mono (by decide)
    have hrO : Room 2 _ := hr.mono (by decide)
    have hrS : Room 4 _ := hr.mono (by decide)
    have hrRr : Room 6 _ := hr.mono (by decide)
    have hrWd : Room 7 _ := hr.mono (by decide)
    have hrW : Room 4 _ := hr.mono (by decide)
    have hrH : Room 7 _ := hr.mono (by decide)
    have hrL : Room 5 _ := hr.mono (by decide)
    have hrI : Room 4 _ := hr.mono (by decide)
    have nd := sc_law.nd
    refine ⟨_, pss_cons (ps_set (i := 1) nd rfl (.inl rfl) (pe_call GB hrB (by rfl) gB kB bB .nil pass0 (pa_cons (pv 0) pa_nil)))
      (pss_cons (ps_for PassesOwn.never rfl (pi_range1 (by rfl) mRange (pa_cons pe_int pa_nil)) (pg_name (i := 2) nd rfl (.inl rfl))
        (pss_cons (ps_set (i := 3) nd rfl (.inl rfl) (pe_call GO hrO (by rfl) gO kO bO .nil pass0 (pa_cons (pv 1) (pa_cons (pe_lst (pa_cons (pe_call GRr hrRr (by rfl) gRr kRr bRr .nil pass0 (pa_cons (pv 1) (pa_cons pe_int (pa_cons pe_int pa_nil)))) (pa_cons (pe_call GWd hrWd (by rfl) gWd kWd bWd .nil pass0 (pa_cons (pv 1) (pa_cons pe_int (pa_cons pe_int pa_nil)))) pa_nil))) pa_nil))))
        (pss_cons (ps_set (i := 4) nd rfl (.inl rfl) (pe_makeK T.mki GI hrI (by rfl) T.mgC bK pass0 (pa_cons (pe_callTy call_list_of (by rfl) mList (by decide +kernel) (pa_cons (pv 3) pa_nil)) pa_nil) (pk_cons (pe_call GS hrS (by rfl) gS kS bS .nil pass0 (pa_cons (pv 1) pa_nil)) pk_nil)))
        (pss_cons (ps_set (i := 5) nd rfl (.inl rfl) (pe_call GW hrW (by rfl) gW kW bW .nil pass0 (pa_cons (pv 3) pa_nil)))
        (pss_cons (ps_for PassesOwn.never rfl (pi_range1 (by rfl) mRange (pa_cons pe_int pa_nil)) (pg_name (i := 6) nd rfl (.inl rfl))
          (pss_cons (ps_set (i := 7) nd rfl (.inl rfl) (pe_call GH hrH (by rfl) gH kH bH .nil pass0 (pa_cons (pv 4) pa_nil)))
          (pss_cons (ps_if (PW.pt (pw_or (pt_not (pt_val (pe_call GL hrL (by rfl) gL kL bL .nil pass0 (pa_cons (pv 7) (pa_cons (pv 5) pa_nil))))) (pw_or1 (pt_cmpR (op_neD hr.units) (pe_lst (pa_cons (pe_callB call_len_seq (by rfl) mLen PySem.boot_len (pa_cons (pe_ix ix_tup (pv 7) pe_int (fun _ _ => rfl)) pa_nil)) (pa_cons (pe_callB call_len_seq (by rfl) mLen PySem.boot_len (pa_cons (pe_ix ix_tup (pv 7) pe_int (fun _ _ => rfl)) pa_nil)) pa_nil))) (pe_lst (pa_cons (pe_op op_add (pe_callB call_len_seq (by rfl) mLen PySem.boot_len (pa_cons (pv 3) pa_nil)) pe_int) (pa_cons (pe_callB call_len_seq (by rfl) mLen PySem.boot_len (pa_cons (pv 3) pa_nil)) pa_nil))) (nomark _))))) (pss_one (ps_ret pe_bl)) pss_nil)
          (pss_cons (ps_expr (pe_bm0 PySem.F.plainAttrs_list PySem.F.slot_list_clear PySem.F.type_list_clear mt_clear (pe_ix ix_tup (pv 7) pe_int (fun _ _ => rfl))))
          (pss_one (ps_expr (pe_bm0 PySem.F.plainAttrs_list PySem.F.slot_list_reverse PySem.F.type_list_reverse mt_reverse (pe_ix ix_tup (pv 7) pe_int (fun _ _ => rfl)))))))))
        (pss_one (ps_if (pt_not (pt_val (pe_call GL hrL (by rfl) gL kL bL .nil pass0 (pa_cons (pe_meth0 (pv 4) T.cl T.mR GR hrB bR .nil pass0) (pa_cons (pv 3) pa_nil))))) (pss_one (ps_ret pe_bl)) pss_nil)))))))
      (pss_one (ps_ret (pe_call GL hrL (by rfl) gL kL bL .nil pass0 (pa_cons (pe_call GH hrH (by rfl) gH kH bH .nil pass0 (pa_cons (pe_make T.mki GI hrI (by rfl) T.mgC bD vD pass0 (pa_cons (pe_lst (pa_cons (pe_tup (pa_cons pe_str (pa_cons (pe_tup (pa_cons (pe_tup (pa_cons pe_int (pa_cons pe_int pa_nil))) (pa_cons (pe_tup (pa_cons pe_int (pa_cons pe_int pa_nil))) pa_nil))) pa_nil))) pa_nil)) pa_nil)) pa_nil)) (pa_cons (pe_tup (pa_cons (pe_lst (pa_cons (pe_tup (pa_cons (pe_tup (pa_cons pe_int (pa_cons pe_int pa_nil))) (pa_cons (pe_tup (pa_cons pe_int (pa_cons pe_int pa_nil))) pa_nil))) (pa_cons (pe_tup (pa_cons (pe_tup (pa_cons pe_int (pa_cons pe_int pa_nil))) (pa_cons (pe_tup (pa_cons pe_int (pa_cons pe_int pa_nil))) pa_nil))) pa_nil))) (pa_cons (pe_lst (pa_cons (pe_tup (pa_cons (pe_tup (pa_cons pe_int (pa_cons pe_int pa_nil))) (pa_cons (pe_tup (pa_cons pe_int (pa_cons pe_int pa_nil))) pa_nil))) pa_nil)) pa_nil))) pa_nil)))))), ?_⟩
    refine ⟨_, rfl, a, ns, rfl, hS, hlen, fun H1 bx s1 n1 hb1 => ?_⟩
    refine ⟨3, rfl, by decide, by decide, for_range (lo := 0) (n := 3) (fun i σ H' => ∃ y2 y3 y4 y5 y6 y7, σ = [some (.ref a), some (.ref bx), y2, y3, y4, y5, y6, y7] ∧ BoxOk H' bx) ⟨none, none, none, none, none, none, rfl, hb1⟩ ?_ ?_⟩
    · rintro i σ H2 hi ⟨y2, y3, y4, y5, y6, y7, rfl, hb2⟩
      -- rods
      refine ⟨_, rfl, _, rfl, bx, rfl, hb2, fun H3 a1 us1 rs1 B3 hb3 na1 g1 p1 ok1 => ?_⟩
      refine ⟨_, rfl, bx, rfl, hb3, fun H4 a2 us2 rs2 B4 hb4 na2 g2 p2 ok2 => ?_⟩
      refine ⟨by show 2 ≤ sizeLine; decide, fun l nl => ?_⟩
      have s5 := same_upd (o := .lst [.ref a1, .ref a2]) nl
      refine ⟨bx, l, _, rfl, hb4.same s5, SqL.of upd_same, hb4.ne nl, by show 0 < 2; decide, by show 2 ≤ 1000; decide, fun H5 v hv B5 hb5 => ?_⟩
      obtain ⟨ra, us, rs, rfl, g5, p5, ok, nrb⟩ : ∃ ra us rs, v = .ref ra ∧ H5 ra = some (.lst us) ∧ Paired (IsRod K H5) us rs ∧ RodsOk rs ∧ ra ≠ bx := by
        have kp5 : Kp K H4 H5 := (Kp.of s5).trans ((hb4.same s5).kp B5)
        simp only [List.mem_cons, List.not_mem_nil, or_false] at hv
        rcases hv with rfl | rfl
        · have nb := hb2.ne na1
          exact ⟨a1, us1, rs1, rfl, B5.keep _ _ nb (s5 _ _ (B4.keep _ _ nb g1)), Paired.mapP p1 fun _ _ q => q.kp ((hb3.kp B4).trans kp5), ok1, nb⟩
        · have nb := hb3.ne na2
          exact ⟨a2, us2, rs2, rfl, B5.keep _ _ nb (s5 _ _ g2), Paired.mapP p2 fun _ _ q => q.kp kp5, ok2, nb⟩
      -- row
      refine ⟨_, rfl, ra, us, rfl, .inl (SqL.of g5), fun l2 nl2 => ?_⟩
      have s6 := same_upd (o := .lst us) nl2
      refine ⟨_, rfl, bx, rfl, hb5.same s6, fun H6 sv sz B6 hb6 r6 o6 => ?_⟩
      refine ⟨rfl, rfl, fun x dx nx ndx nex => ?_⟩
      have kp6 : Kp K H5 H6 := (Kp.of s6).trans ((hb5.same s6).kp B6)
      have g6 := B6.keep _ _ nrb (s6 _ _ g5)
      have gl6 := B6.keep _ _ ((hb5.ne nl2)) (upd_same (H := H5) (a := l2) (o := .lst us))
      have s6' : Same H6 (upd (upd H6 dx (.own x)) x (.ins C dx [])) := (same_upd ndx).trans (same_upd (by rw [upd_ne nex.symm]; exact nx))
      refine ⟨x, dx, l2, sv, us, rs, sz, rfl, upd_same, s6'.seq (SqL.of gl6), Paired.mapP p5 fun _ _ q => q.kp (kp6.trans (.of s6')), ok, r6.kp (.of s6'), fun H7 i7 row7 => ⟨rfl, ?_⟩⟩
      have s7 : Same H6 H7 := Same.made nx ndx i7
      have g7 := s7 _ _ g6
      have p7 := Paired.mapP p5 fun _ _ q => IsRod.kp (K := K) (kp6.trans (.of s7)) q
      -- due
      refine ⟨_, rfl, ra, us, rs, rfl, SqL.of g7, p7, ok.l8, ok.ar, fun H8 t8 s8 w8 => ?_⟩
      have hb8 := (hb6.same s7).same s8
      have g8 := s8 _ _ g7
      have row8 := row7.same s8
      have l8 := ok.l8
      have lus : us.length = rs.length := p5.length
      have lm : (rs.map (·.2)).length = rs.length := List.length_map _
      have lkw : Lk 4 (dWhole (whole (rs.map (·.2)))) := lk_whole (by rw [whole_len1, lm]; omega) (by rw [whole_len2, lm]; omega)
      have d8 := whl_dp w8
      refine ⟨2, rfl, by decide, by decide, for_range (lo := 0) (n := 2) (fun j σ H' => ∃ y2 y6 y7, σ = [some (.ref a), some (.ref bx), y2, some (.ref ra), some (.ref x), some (.ref t8), y6, y7] ∧ Same H8 H') ⟨_, _, _, rfl, Same.refl _⟩ ?_ ?_⟩
      · rintro j σ H9 hj ⟨z2, z6, z7, rfl, s9⟩
        refine ⟨_, rfl, x, rs, rfl, row8.same s9, ok, fun H10 t10 s10 w10 => ?_⟩
        have d10 := whl_dp w10
        obtain ⟨pa, qa, ht, us1, vs1, gp, gq, nepq, fp, fq, pp, qq⟩ := w10
        have s810 := s9.trans s10
        refine ⟨_, rfl, _, rfl, .ref t10, .ref t8, _, rfl, lkw, d10, dp_same s810 d8, fun H11 s11 => ?_⟩
        refine ⟨_, rfl, ?_⟩
        have ht11 := Same.tup s11 ht
        refine ⟨_, rfl, t10, _, _, _, rfl, rfl, ht11, at0, pa, us1, rfl, .inl (SqL.of (s11 _ _ gp)), ?_⟩
        refine ⟨_, rfl, t10, _, _, _, rfl, rfl, ht11, at1, qa, vs1, rfl, .inl (SqL.of (s11 _ _ gq)), by show 2 ≤ sizeLine; decide, fun l3 nl3 => ?_⟩
        have s12 := same_upd (o := .lst [.int (us1.length : Int), .int (vs1.length : Int)]) nl3
        have g12 := s12 _ _ (s11 _ _ (s810 _ _ g8))
        refine ⟨_, rfl, ra, us, rfl, .inl (SqL.of g12), _, _, rfl, rfl, ?_⟩
        refine ⟨_, rfl, ra, us, rfl, .inl (SqL.of g12), by show 2 ≤ sizeLine; decide, fun l4 nl4 => ?_⟩
        have s13 := same_upd (o := .lst [.int ((us.length : Int) + 1), .int (us.length : Int)]) nl4
        have e1 : us1.length = us.length + 1 := by rw [pp.length, whole_len1, lm, lus]
        have e2 : vs1.length = us.length := by rw [qq.length, whole_len2, lm, lus]
        refine ⟨.list [.int (us1.length : Int), .int (vs1.length : Int)], .list [.int ((us.length : Int) + 1), .int (us.length : Int)], .lst (SqL.of (s13 _ _ upd_same)) (.cons (.int _) (.cons (.int _) .nil)), .lst (SqL.of upd_same) (.cons (.int _) (.cons (.int _) .nil)), rfl, rfl, _, rfl, ?_⟩
        have eb : PyData.eqv (.list [.int (us1.length : Int), .int (vs1.length : Int)]) (.list [.int ((us.length : Int) + 1), .int (us.length : Int)]) = true := by
          rw [show (us1.length : Int) = (us.length : Int) + 1 by omega, e2]
          exact SeqAt.eqv_refl _ (by rfl)
        rw [eb]
        refine iteF ?_
        have s1113 := (s11.trans s12).trans s13
        have ht13 := Same.tup s1113 ht
        have gp13 := s1113 _ _ gp
        have gq13 := s1113 _ _ gq
        refine ⟨_, rfl, t10, _, _, _, rfl, rfl, ht13, at0, .inl ⟨rfl, _, SqL.of gp13⟩, pa, us1, rfl, rfl, gp13, ?_⟩
        have gq14 := Eq.trans (upd_ne (a := pa) (o := .lst []) nepq.symm) gq13
        refine ⟨_, rfl, t10, _, _, _, rfl, rfl, Kp.updL gp13 _ _ ht13, at1, .inl ⟨rfl, _, SqL.of gq14⟩, qa, vs1, rfl, rfl, gq14, ?_⟩
        refine ⟨_, _, _, rfl, same_updN (same_updN ((s9.trans s10).trans s1113) (s9.free fp)) (s9.free fq)⟩
      · rintro σ H9 ⟨z2, z6, z7, rfl, s9⟩
        have row9 := row8.same s9
        obtain ⟨dx9, l9, fv9, us9, h91, _⟩ := id row9
        refine ⟨_, rfl, x, dx9, _, rfl, h91, rfl, x, rs, rfl, row9, fun H10 l10 us10 s10 n10 g10 p10 => ?_⟩
        refine ⟨_, rfl, .ref l10, .ref ra, dRods rs, rfl, lk_rods (by omega), .lst (SqL.of g10) (rods_dp p10), .lst (SqL.of (s10 _ _ (s9 _ _ g8))) (rods_dp (Paired.mapP p7 fun _ _ q => q.kp (.of ((s8.trans s9).trans s10)))), fun H11 s11 => ?_⟩
        refine ⟨_, rfl, ?_⟩
        exact ⟨_, _, _, _, _, _, rfl, ((hb8.same s9).same s10).same s11⟩
    · rintro σ H2 ⟨y2, y3, y4, y5, y6, y7, rfl, hb2⟩
      -- the row written out
      refine ⟨by show 2 ≤ sizeLine; decide, fun b1 n1 => ?_⟩
      refine ⟨by show 2 ≤ sizeLine; decide, fun b2 n2 => ?_⟩
      refine ⟨by show 2 ≤ sizeLine; decide, fun b3 n3 => ?_⟩
      refine ⟨by show 2 ≤ sizeLine; decide, fun b4 n4 => ?_⟩
      refine ⟨by show 1 ≤ sizeLine; decide, fun l nl => ?_⟩
      intro x dx nx ndx nex
      have u1 := same_upd (o := .tup [.int 3, .int 1]) n1
      have u2 := same_upd (o := .tup [.int 4, .int 1]) n2
      have u3 := same_upd (o := .tup [.ref b1, .ref b2]) n3
      have u4 := same_upd (o := .tup [.str (Str.ofString "a"), .ref b3]) n4
      have u5 := same_upd (o := .lst [.ref b4]) nl
      have u6 := (same_upd (o := .own x) ndx).trans (same_upd (o := .ins C dx []) (by rw [upd_ne nex.symm]; exact nx))
      have u36 := u3.trans (u4.trans (u5.trans u6))
      have ar3 : IsAr K _ (.ref b3) ((3, 1), (4, 1)) := ⟨b3, _, _, rfl, Same.tup (u4.trans (u5.trans u6)) (SqT.of upd_same), ⟨b1, rfl, Same.tup (u2.trans u36) (SqT.of upd_same)⟩, ⟨b2, rfl, Same.tup u36 (SqT.of upd_same)⟩⟩
      refine ⟨x, dx, l, .ref aO, [.ref b4], [(Str.ofString "a", ((3, 1), (4, 1)))], zer, rfl, upd_same, u6.seq (SqL.of upd_same), .cons ⟨b4, _, rfl, Same.tup (u5.trans u6) (SqT.of upd_same), ar3⟩ .nil, one_ok, iO _, fun H3 i3 row3 => ⟨rfl, ?_⟩⟩
      refine ⟨x, _, rfl, row3, one_ok, fun H4 t4 s4 w4 => ?_⟩
      have e : whole (([(Str.ofString "a", ((3, 1), (4, 1)))] : List (Str × Ar)).map (·.2)) = ([((0, 1), (0, 1)), ((1, 1), (0, 1))], [((3, 1), (4, 1))]) := one_row
      rw [e] at w4
      have d4 := whl_dp w4
      refine ⟨by show 2 ≤ sizeLine; decide, fun c1 m1 => ?_⟩
      refine ⟨by show 2 ≤ sizeLine; decide, fun c2 m2 => ?_⟩
      refine ⟨by show 2 ≤ sizeLine; decide, fun c3 m3 => ?_⟩
      refine ⟨by show 2 ≤ sizeLine; decide, fun c4 m4 => ?_⟩
      refine ⟨by show 2 ≤ sizeLine; decide, fun c5 m5 => ?_⟩
      refine ⟨by show 2 ≤ sizeLine; decide, fun c6 m6 => ?_⟩
      refine ⟨by show 2 ≤ sizeLine; decide, fun l1 k1 => ?_⟩
      refine ⟨by show 2 ≤ sizeLine; decide, fun c7 m7 => ?_⟩
      refine ⟨by show 2 ≤ sizeLine; decide, fun c8 m8 => ?_⟩
      refine ⟨by show 2 ≤ sizeLine; decide, fun c9 m9 => ?_⟩
      refine ⟨by show 1 ≤ sizeLine; decide, fun l2 k2 => ?_⟩
      refine ⟨by show 2 ≤ sizeLine; decide, fun t k3 => ?_⟩
      have v1 := same_upd (o := .tup [.int 0, .int 1]) m1
      have v2 := same_upd (o := .tup [.int 0, .int 1]) m2
      have v3 := same_upd (o := .tup [.ref c1, .ref c2]) m3
      have v4 := same_upd (o := .tup [.int 1, .int 1]) m4
      have v5 := same_upd (o := .tup [.int 0, .int 1]) m5
      have v6 := same_upd (o := .tup [.ref c4, .ref c5]) m6
      have v7 := same_upd (o := .lst [.ref c3, .ref c6]) k1
      have v8 := same_upd (o := .tup [.int 3, .int 1]) m7
      have v9 := same_upd (o := .tup [.int 4, .int 1]) m8
      have v10 := same_upd (o := .tup [.ref c7, .ref c8]) m9
      have v11 := same_upd (o := .lst [.ref c9]) k2
      have v12 := same_upd (o := .tup [.ref l1, .ref l2]) k3
      have q11 := v11.trans v12
      have q10 := v10.trans q11
      have q9 := v9.trans q10
      have q8 := v8.trans q9
      have q7 := v7.trans q8
      have q6 := v6.trans q7
      have q5 := v5.trans q6
      have q4 := v4.trans q5
      have q3 := v3.trans q4
      have q2 := v2.trans q3
      have a1 : IsAr K _ (.ref c3) ((0, 1), (0, 1)) := ⟨c3, _, _, rfl, Same.tup q4 (SqT.of upd_same), ⟨c1, rfl, Same.tup q2 (SqT.of upd_same)⟩, ⟨c2, rfl, Same.tup q3 (SqT.of upd_same)⟩⟩
      have a2 : IsAr K _ (.ref c6) ((1, 1), (0, 1)) := ⟨c6, _, _, rfl, Same.tup q7 (SqT.of upd_same), ⟨c4, rfl, Same.tup q5 (SqT.of upd_same)⟩, ⟨c5, rfl, Same.tup q6 (SqT.of upd_same)⟩⟩
      have a3 : IsAr K _ (.ref c9) ((3, 1), (4, 1)) := ⟨c9, _, _, rfl, Same.tup q11 (SqT.of upd_same), ⟨c7, rfl, Same.tup q9 (SqT.of upd_same)⟩, ⟨c8, rfl, Same.tup q10 (SqT.of upd_same)⟩⟩
      refine ⟨.ref t4, .ref t, _, rfl, lk_whole (by show 2 ≤ 100; decide) (by show 1 ≤ 100; decide), dp_same (v1.trans q2) d4, ?_, fun H5 s5 => k H5⟩
      exact .tup (SqT.of upd_same) (.cons (.lst (q8.seq (SqL.of upd_same)) (.cons a1.dp (.cons a2.dp .nil))) (.cons (.lst (v12.seq (SqL.of upd_same)) (.cons a3.dp .nil)) .nil))
end
end K14

namespace K14
open PySem PySem.Spec PyProof.Rows L2
/-! ### what the top has written -/
section
variable {K : PySem.W.Frag} {mg : Str → Option Value} {h : Heap}
theorem def_mk {x : Str} {st : Stmt} {f : Addr} {oc kV dc pm cd ct : Value} {od an : Option Addr} {sl : Array (Option Value)} (X : K.In h) (G : h.Ns mainGlobals mg)
    (a : PySem.W.nsIn K mainGlobals x = some (some (.ref f))) (l : K.lookup f = some ⟨oc, od, .func (PySem.W.fnOf x x (defArgs st) (defBody st) (defScope st) .none kV dc pm an cd ct), sl⟩) (c : PySem.W.codeIn K cd x = true) (k : PySem.W.keepIn K (.ref f) = true) : Def K mg x st :=
  ⟨f, _, ⟨⟨oc, od, .none, kV, dc, pm, an, cd, ct, sl, rfl, l, c, .inl ⟨rfl, rfl⟩, .inl rfl⟩, k⟩, PySem.W.mg_of X G a⟩
theorem part_mk {f T : Addr} {oc kV dc pm cd ct cT : Value} {od an dT : Option Addr} {sl slT : Array (Option Value)} {n : Nat} {t : Tok} (X : K.In h) (G : h.Ns mainGlobals mg)
    (a : PySem.W.nsIn K mainGlobals "part" = some (some (.ref f))) (l : K.lookup f = some ⟨oc, od, .func (PySem.W.fnOf "part" "part" (defArgs sPart) (defBody sPart) (defScope sPart) (.ref T) kV dc pm an cd ct), sl⟩) (c : PySem.W.codeIn K cd "part" = true) (k : PySem.W.keepIn K (.ref f) = true)
    (lT : K.lookup T = some ⟨cT, dT, .seq #[.int 1 t] n, slT⟩) : DefPart K mg :=
  ⟨f, _, ⟨⟨oc, od, .ref T, kV, dc, pm, an, cd, ct, sl, rfl, l, c, .inr ⟨by simp, T, _, [.int 1 t], n, rfl, lT, rfl, .cons ⟨t, rfl⟩ .nil⟩, .inl rfl⟩, k⟩, PySem.W.mg_of X G a⟩
theorem isPt_K {a : Addr} {x y : Int} {t u : Tok} {d : Option Addr} {n : Nat} {sl : Array (Option Value)} (l : K.lookup a = some ⟨.type "tuple", d, .seq #[.int x t, .int y u] n, sl⟩) (H : Hp) : IsPt K H (.ref a) (x, y) :=
  ⟨a, rfl, .inr ⟨_, _, n, l, rfl, rfl, by show 2 ≤ sizeLine; decide, .cons ⟨t, rfl⟩ (.cons ⟨u, rfl⟩ .nil)⟩⟩
theorem pt_mk {nm : Str} {a : Addr} {x y : Int} {t u : Tok} {d : Option Addr} {n : Nat} {sl : Array (Option Value)} (X : K.In h) (G : h.Ns mainGlobals mg) (e : PySem.W.nsIn K mainGlobals nm = some (some (.ref a)))
    (l : K.lookup a = some ⟨.type "tuple", d, .seq #[.int x t, .int y u] n, sl⟩) : GPt K mg nm (x, y) := ⟨a, PySem.W.mg_of X G e, isPt_K l⟩
theorem ar_mk {nm : Str} {a b c : Addr} {x y x' y' : Int} {t u t' u' : Tok} {d d1 d2 : Option Addr} {n n1 n2 : Nat} {sl sl1 sl2 : Array (Option Value)} (X : K.In h) (G : h.Ns mainGlobals mg) (e : PySem.W.nsIn K mainGlobals nm = some (some (.ref a)))
    (l : K.lookup a = some ⟨.type "tuple", d, .seq #[.ref b, .ref c] n, sl⟩) (l1 : K.lookup b = some ⟨.type "tuple", d1, .seq #[.int x t, .int y u] n1, sl1⟩) (l2 : K.lookup c = some ⟨.type "tuple", d2, .seq #[.int x' t', .int y' u'] n2, sl2⟩) :
    mg nm = some (.ref a) ∧ ∀ H, IsAr K H (.ref a) ((x, y), (x', y')) :=
  ⟨PySem.W.mg_of X G e, fun H => ⟨a, .ref b, .ref c, rfl, .inr ⟨_, _, n, l, rfl, rfl, by show 2 ≤ sizeLine; decide, .cons rfl (.cons rfl .nil)⟩, isPt_K l1 H, isPt_K l2 H⟩⟩
theorem int_mk {nm : Str} {n : Int} {t : Tok} (X : K.In h) (G : h.Ns mainGlobals mg) (e : PySem.W.nsIn K mainGlobals nm = some (some (.int n t))) : GInt mg nm n := ⟨t, PySem.W.mg_of X G e⟩
theorem str_mk {nm : Str} {n : Str} {t : Tok} (X : K.In h) (G : h.Ns mainGlobals mg) (e : PySem.W.nsIn K mainGlobals nm = some (some (.str n t))) : GStr mg nm n := ⟨t, PySem.W.mg_of X G e⟩
/-- the class Row, its __init__ and rods, and the default of start -/
structure RowF (K : PySem.W.Frag) (mg : Str → Option Value) (aO : Addr) : Prop where
  ex : ∃ C fI fR fdI fdR, RowC K mg C fI fR ∧ FnD K "__init__" "Row.__init__" sInit [] [("start", .ref aO)] fI fdI ∧ FnD K "rods" "Row.rods" sRods [] [] fR fdR
theorem row_mk {C fI fR D aO : Addr} {oc dc pm cd ct oc2 kV2 dc2 pm2 cd2 ct2 : Value} {od an od2 an2 : Option Addr} {sl sl2 : Array (Option Value)} (X : K.In h) (G : h.Ns mainGlobals mg)
    (aC : PySem.W.nsIn K mainGlobals "Row" = some (some (.ref C)))
    (pg : PySem.W.plainGet K C Str.empty = true) (hd : PySem.W.hasDictIn K C = true) (po : PySem.W.plainOver K C = true) (sa : PySem.W.findIn K (.ref C) "__setattr__" = some (some (.builtin "object.__setattr__")))
    (nL : PySem.W.findIn K (.ref C) "lot" = some none) (nF : PySem.W.findIn K (.ref C) "first" = some none) (ms : PySem.W.makesIn K C = true) (kc : PySem.W.keepIn K (.ref C) = true)
    (aI : PySem.W.findIn K (.ref C) "__init__" = some (some (.ref fI))) (iI : PySem.W.isFn K (.ref fI) = true) (lI : K.lookup fI = some ⟨oc, od, .func (PySem.W.fnOf "__init__" "Row.__init__" (defArgs sInit) (defBody sInit) (defScope sInit) .none (.ref D) dc pm an cd ct), sl⟩) (cI : PySem.W.codeIn K cd "Row.__init__" = true) (kI : PySem.W.keepIn K (.ref fI) = true)
    (sI : PySem.W.nsIn K D "start" = some (some (.ref aO)))
    (aR : PySem.W.findIn K (.ref C) "rods" = some (some (.ref fR))) (iR : PySem.W.isFn K (.ref fR) = true) (lR : K.lookup fR = some ⟨oc2, od2, .func (PySem.W.fnOf "rods" "Row.rods" (defArgs sRods) (defBody sRods) (defScope sRods) .none kV2 dc2 pm2 an2 cd2 ct2), sl2⟩) (cR : PySem.W.codeIn K cd2 "Row.rods" = true) (kR : PySem.W.keepIn K (.ref fR) = true) : RowF K mg aO :=
  ⟨⟨C, fI, fR, _, _, ⟨⟨pg, hd, po, sa⟩, nL, nF, PySem.W.mg_of X G aC, ⟨ms, aI, iI, kc⟩, ⟨aR, iR, kR⟩⟩,
    ⟨⟨oc, od, .none, .ref D, dc, pm, an, cd, ct, sl, rfl, lI, cI, .inl ⟨rfl, rfl⟩, .inr ⟨D, rfl, fun q hq => by
      rw [List.mem_singleton.mp hq]
      exact ⟨_, sI, rfl⟩⟩⟩, kI⟩,
    ⟨⟨oc2, od2, .none, kV2, dc2, pm2, an2, cd2, ct2, sl2, rfl, lR, cR, .inl ⟨rfl, rfl⟩, .inl rfl⟩, kR⟩⟩⟩
end
theorem Cal.mono {P : Program} {w : World} {K : PySem.W.Frag} {mg : Str → Option Value} {base : Heap} {j k : Nat} {x : Str} {ps : List Str} {sp : Sp} (c : Cal P w K mg base j x ps sp) (h : j ≤ k) : Cal P w K mg base k x ps sp :=
  let ⟨f, fd, h1, h2, h3, h4⟩ := c; ⟨f, fd, h1, h2, h3, h4.mono h⟩
theorem law_mk {l : PySem.W.OpenLaw} {w : World} {K : PySem.W.Frag} {mg : Str → Option Value} {fa aO : Addr} (hfa : mg "law" = some (.ref fa))
    (d_shared_by : Def K mg "shared_by" (topS 11))
    (d_plus : Def K mg "plus" (topS 13))
    (d_less : Def K mg "less" (topS 14))
    (d_times : Def K mg "times" (topS 15))
    (d_summed : Def K mg "summed" (topS 19))
    (d_off : Def K mg "off" (topS 20))
    (d_mate : Def K mg "mate" (topS 21))
    (d_made : Def K mg "made" (topS 22))
    (d_copied : Def K mg "copied" (topS 23))
    (d_entry : Def K mg "entry" (topS 25))
    (d_grown_by : Def K mg "grown_by" (topS 26))
    (d_whole_of : Def K mg "whole_of" (topS 27))
    (d_whole : Def K mg "whole" (topS 28))
    (d_is_name : Def K mg "is_name" (topS 33))
    (d_need_rods : Def K mg "need_rods" (topS 34))
    (d__law_box : Def K mg "_law_box" (topS 37))
    (d__law_draw : Def K mg "_law_draw" (topS 38))
    (d__law_of : Def K mg "_law_of" (topS 39))
    (d__law_names : Def K mg "_law_names" (topS 40))
    (d__law_low : Def K mg "_law_low" (topS 41))
    (d__law_small : Def K mg "_law_small" (topS 42))
    (d__law_spot : Def K mg "_law_spot" (topS 43))
    (d__law_arrow : Def K mg "_law_arrow" (topS 44))
    (d__law_rods : Def K mg "_law_rods" (topS 45))
    (d__law_part : Def K mg "_law_part" (topS 46))
    (d__law_wide_rods : Def K mg "_law_wide_rods" (topS 47))
    (d__law_less : Def K mg "_law_less" (topS 48))
    (d__law_off : Def K mg "_law_off" (topS 49))
    (d__law_at : Def K mg "_law_at" (topS 50))
    (d__law_by : Def K mg "_law_by" (topS 51))
    (d__law_plus : Def K mg "_law_plus" (topS 52))
    (d__law_made : Def K mg "_law_made" (topS 53))
    (d__law_mate : Def K mg "_law_mate" (topS 54))
    (d__law_sum : Def K mg "_law_sum" (topS 55))
    (d__law_whole : Def K mg "_law_whole" (topS 56))
    (d__law_like : Def K mg "_law_like" (topS 57))
    (d_law : Def K mg "law" (topS 58))
    (d_part : DefPart K mg) (m_abs : mg "abs" = none) (m_len : mg "len" = none) (m_range : mg "range" = none) (m_list : mg "list" = none) (m_tuple : mg "tuple" = none) (m_bool : mg "bool" = none) (m_int : mg "int" = none) (m_str : mg "str" = none) (m_max : mg "max" = none) (m_enumerate : mg "enumerate" = none) (m_all : mg "all" = none) (m_isinstance : mg "isinstance" = none)
    (hZ : GPt K mg "ZERO" (0, 1)) (hO : mg "ORIGIN" = some (.ref aO) ∧ ∀ H, IsAr K H (.ref aO) ((0, 1), (0, 1))) (hL : ∃ aL, mg "LONE" = some (.ref aL) ∧ ∀ H, IsAr K H (.ref aL) ((1, 1), (0, 1))) (hMR : GInt mg "MOST_RODS" 8) (hMN : GInt mg "MOST_NAME" 6) (hLe : GStr mg "LETTERS" letS) (hRow : RowF K mg aO) :
    ∃ fd : FuncData, (∀ (s : Shared) (v : Value), BindsTo s fd ⟨[v], []⟩ [("_law_script", v)]) ∧ ∀ base : Heap, K.In base → base.Ns mainGlobals mg → FnOk l.prog w K mg base CX0 8 fa fd ["_law_script"] (spLaw K) := by
  obtain ⟨f, fd, F, g⟩ := d_law
  have e := hfa.symm.trans g
  cases e
  obtain ⟨fL, fdL, FL, gL⟩ := d__law_like
  obtain ⟨C, fI, fR, fdI, fdR, T, FI, FR⟩ := hRow
  have hOr : GAr K mg "ORIGIN" zer := ⟨aO, hO⟩
  refine ⟨fd, fun s v => FunD.bindsA (ps := ["_law_script"]) F (fun _ _ _ _ _ _ us hl => match us, hl with | [_], _ => rfl) s [v] rfl, fun base _ _ => ?_⟩
  have M : Tys mg := ⟨m_list, m_tuple, m_bool, m_int, m_str⟩
  have c_shared : Cal l.prog w K mg base _ _ _ _ := cal_shared d_shared_by
  have c_part : Cal l.prog w K mg base _ _ _ _ := cal_part d_part m_abs c_shared
  have c_plus : Cal l.prog w K mg base _ _ _ _ := cal_plus d_plus c_part
  have c_less : Cal l.prog w K mg base _ _ _ _ := cal_less d_less c_part
  have c_times : Cal l.prog w K mg base _ _ _ _ := cal_times d_times c_part
  have c_summed : Cal l.prog w K mg base _ _ _ _ := cal_summed d_summed c_plus
  have c_off : Cal l.prog w K mg base _ _ _ _ := cal_off d_off c_less
  have c_made : Cal l.prog w K mg base _ _ _ _ := cal_made d_made c_times c_less c_plus
  have c_mate : Cal l.prog w K mg base _ _ _ _ := cal_mate d_mate hZ c_less
  have c_entry : Cal l.prog w K mg base _ _ _ _ := cal_entry d_entry m_len hOr
  have c_entry4 := c_entry.mono (k := 4) (by decide)
  have c_grown : Cal l.prog w K mg base _ _ _ _ := cal_grown_by d_grown_by m_len m_range c_off c_summed c_made c_mate c_entry4
  have c_whole_of : Cal l.prog w K mg base _ _ _ _ := cal_whole_of d_whole_of hL c_grown
  have c_whole : Cal l.prog w K mg base _ _ _ _ := cal_whole d_whole FR T m_list c_whole_of
  have c_copied : Cal l.prog w K mg base _ _ _ _ := cal_copied d_copied m_tuple
  have c_is_name : Cal l.prog w K mg base _ _ _ _ := cal_is_name d_is_name m_len m_all hMN hLe
  have c_need : Cal l.prog w K mg base _ _ _ _ := cal_need_rods d_need_rods m_enumerate hOr c_is_name c_copied
  have c_low : Cal l.prog w K mg base _ _ _ _ := cal__law_low d__law_low m_abs
  have cl_less : Cal l.prog w K mg base _ _ _ _ := cal__law_less d__law_less c_low
  have cl_by : Cal l.prog w K mg base _ _ _ _ := cal__law_by d__law_by c_low
  have cl_plus : Cal l.prog w K mg base _ _ _ _ := cal__law_plus d__law_plus c_low
  have cl_off : Cal l.prog w K mg base _ _ _ _ := cal__law_off d__law_off cl_less
  have cl_sum : Cal l.prog w K mg base _ _ _ _ := cal__law_sum d__law_sum cl_plus
  have cl_made : Cal l.prog w K mg base _ _ _ _ := cal__law_made d__law_made cl_by cl_less cl_plus
  have cl_mate : Cal l.prog w K mg base _ _ _ _ := cal__law_mate d__law_mate
  have cl_at : Cal l.prog w K mg base _ _ _ _ := cal__law_at d__law_at m_len
  have cl_whole : Cal l.prog w K mg base _ _ _ _ := cal__law_whole d__law_whole m_len m_range cl_off cl_sum cl_made (cl_mate.mono (by decide)) (cl_at.mono (by decide))
  have c_box : Cal l.prog w K mg base _ _ _ _ := cal__law_box d__law_box m_list
  have c_draw : Cal l.prog w K mg base _ _ _ _ := cal__law_draw d__law_draw m_len m_max
  have c_of : Cal l.prog w K mg base _ _ _ _ := cal__law_of d__law_of m_len c_draw
  have c_small : Cal l.prog w K mg base _ _ _ _ := cal__law_small d__law_small c_draw c_of c_low
  have c_spot : Cal l.prog w K mg base _ _ _ _ := cal__law_spot d__law_spot c_small
  have c_arrow : Cal l.prog w K mg base _ _ _ _ := cal__law_arrow d__law_arrow c_draw c_of c_spot
  have c_lpart : Cal l.prog w K mg base _ _ _ _ := cal__law_part d__law_part c_draw c_low
  have c_names : Cal l.prog w K mg base _ _ _ _ := cal__law_names d__law_names m_range c_draw c_of
  have c_rods : Cal l.prog w K mg base _ _ _ _ := cal__law_rods d__law_rods m_len c_draw c_names c_arrow
  have c_wide : Cal l.prog w K mg base _ _ _ _ := cal__law_wide_rods d__law_wide_rods c_draw c_lpart c_rods
  have GI := ok_init (P := l.prog) (w := w) (base := base) FI T m_len hMR c_need c_copied
  have GR := ok_rods (P := l.prog) (w := w) (base := base) FR T m_list
  have GL := ok_like (P := l.prog) (w := w) (base := base) FL gL m_len m_range m_isinstance m_all M 4
  exact ok_law F T aO hO.2 FI FR FL gL GI GR GL m_len m_range m_list c_box c_of c_spot c_rods c_wide cl_whole c_whole
end K14

open PySem PySem.W PyProof.Rows
set_option maxRecDepth 100000 in
set_option maxHeartbeats 0 in
theorem PySem.Challenge.cw_cornertrade_k14_whole_wholes_reckoned_holds : PySem.Challenge.rw_cornertrade_k14_whole_wholes_reckoned.Holds := by
  w_on; o_law; k_head; (case hw => w_witness2)
  k_fill
  refine L2.walk_ofK (l := PySem.Challenge.rw_cornertrade_k14_whole_wholes_reckoned) (n := 63) (k := 8) (x := "_law_script") (CX := L2.CX0) (sp := K14.spLaw) rfl (by decide) rfl ⟨rfl, by decide, by decide⟩ (fun w h Y => PySem.W.kIn_of Y) ?F (fun _ _ a ns hl _ hS => ⟨a, ns, rfl, hS, hl, fun _ => rfl⟩) (fun _ _ _ _ h => h)
  case F =>
    intro w mg fa h KX G hmg
    refine' K14.law_mk (aO := ?kaO) hmg ?ke11 ?ke13 ?ke14 ?ke15 ?ke19 ?ke20 ?ke21 ?ke22 ?ke23 ?ke25 ?ke26 ?ke27 ?ke28 ?ke33 ?ke34 ?ke37 ?ke38 ?ke39 ?ke40 ?ke41 ?ke42 ?ke43 ?ke44 ?ke45 ?ke46 ?ke47 ?ke48 ?ke49 ?ke50 ?ke51 ?ke52 ?ke53 ?ke54 ?ke55 ?ke56 ?ke57 ?ke58 ?kp1 ?kb_abs ?kb_len ?kb_range ?kb_list ?kb_tuple ?kb_bool ?kb_int ?kb_str ?kb_max ?kb_enumerate ?kb_all ?kb_isinstance ?kz1 ?ko1 ?kl1 ?kmr ?kmn ?kle ?krow
    case ke11 =>
      refine' K14.def_mk KX G ?xa ?xl ?xc ?xk
      (case xa => k_is); (case xl => k_is); (case xc => k_is); (case xk => k_is)
    case ke13 =>
      refine' K14.def_mk KX G ?xa ?xl ?xc ?xk
      (case xa => k_is); (case xl => k_is); (case xc => k_is); (case xk => k_is)
    case ke14 =>
      refine' K14.def_mk KX G ?xa ?xl ?xc ?xk
      (case xa => k_is); (case xl => k_is); (case xc => k_is); (case xk => k_is)
    case ke15 =>
      refine' K14.def_mk KX G ?xa ?xl ?xc ?xk
      (case xa => k_is); (case xl => k_is); (case xc => k_is); (case xk => k_is)
    case ke19 =>
      refine' K14.def_mk KX G ?xa ?xl ?xc ?xk
      (case xa => k_is); (case xl => k_is); (case xc => k_is); (case xk => k_is)
    case ke20 =>
      refine' K14.def_mk KX G ?xa ?xl ?xc ?xk
      (case xa => k_is); (case xl => k_is); (case xc => k_is); (case xk => k_is)
    case ke21 =>
      refine' K14.def_mk KX G ?xa ?xl ?xc ?xk
      (case xa => k_is); (case xl => k_is); (case xc => k_is); (case xk => k_is)
    case ke22 =>
      refine' K14.def_mk KX G ?xa ?xl ?xc ?xk
      (case xa => k_is); (case xl => k_is); (case xc => k_is); (case xk => k_is)
    case ke23 =>
      refine' K14.def_mk KX G ?xa ?xl ?xc ?xk
      (case xa => k_is); (case xl => k_is); (case xc => k_is); (case xk => k_is)
    case ke25 =>
      refine' K14.def_mk KX G ?xa ?xl ?xc ?xk
      (case xa => k_is); (case xl => k_is); (case xc => k_is); (case xk => k_is)
    case ke26 =>
      refine' K14.def_mk KX G ?xa ?xl ?xc ?xk
      (case xa => k_is); (case xl => k_is); (case xc => k_is); (case xk => k_is)
    case ke27 =>
      refine' K14.def_mk KX G ?xa ?xl ?xc ?xk
      (case xa => k_is); (case xl => k_is); (case xc => k_is); (case xk => k_is)
    case ke28 =>
      refine' K14.def_mk KX G ?xa ?xl ?xc ?xk
      (case xa => k_is); (case xl => k_is); (case xc => k_is); (case xk => k_is)
    case ke33 =>
      refine' K14.def_mk KX G ?xa ?xl ?xc ?xk
      (case xa => k_is); (case xl => k_is); (case xc => k_is); (case xk => k_is)
    case ke34 =>
      refine' K14.def_mk KX G ?xa ?xl ?xc ?xk
      (case xa => k_is); (case xl => k_is); (case xc => k_is); (case xk => k_is)
    case ke37 =>
      refine' K14.def_mk KX G ?xa ?xl ?xc ?xk
      (case xa => k_is); (case xl => k_is); (case xc => k_is); (case xk => k_is)
    case ke38 =>
      refine' K14.def_mk KX G ?xa ?xl ?xc ?xk
      (case xa => k_is); (case xl => k_is); (case xc => k_is); (case xk => k_is)
    case ke39 =>
      refine' K14.def_mk KX G ?xa ?xl ?xc ?xk
      (case xa => k_is); (case xl => k_is); (case xc => k_is); (case xk => k_is)
    case ke40 =>
      refine' K14.def_mk KX G ?xa ?xl ?xc ?xk
      (case xa => k_is); (case xl => k_is); (case xc => k_is); (case xk => k_is)
    case ke41 =>
      refine' K14.def_mk KX G ?xa ?xl ?xc ?xk
      (case xa => k_is); (case xl => k_is); (case xc => k_is); (case xk => k_is)
    case ke42 =>
      refine' K14.def_mk KX G ?xa ?xl ?xc ?xk
      (case xa => k_is); (case xl => k_is); (case xc => k_is); (case xk => k_is)
    case ke43 =>
      refine' K14.def_mk KX G ?xa ?xl ?xc ?xk
      (case xa => k_is); (case xl => k_is); (case xc => k_is); (case xk => k_is)
    case ke44 =>
      refine' K14.def_mk KX G ?xa ?xl ?xc ?xk
      (case xa => k_is); (case xl => k_is); (case xc => k_is); (case xk => k_is)
    case ke45 =>
      refine' K14.def_mk KX G ?xa ?xl ?xc ?xk
      (case xa => k_is); (case xl => k_is); (case xc => k_is); (case xk => k_is)
    case ke46 =>
      refine' K14.def_mk KX G ?xa ?xl ?xc ?xk
      (case xa => k_is); (case xl => k_is); (case xc => k_is); (case xk => k_is)
    case ke47 =>
      refine' K14.def_mk KX G ?xa ?xl ?xc ?xk
      (case xa => k_is); (case xl => k_is); (case xc => k_is); (case xk => k_is)
    case ke48 =>
      refine' K14.def_mk KX G ?xa ?xl ?xc ?xk
      (case xa => k_is); (case xl => k_is); (case xc => k_is); (case xk => k_is)
    case ke49 =>
      refine' K14.def_mk KX G ?xa ?xl ?xc ?xk
      (case xa => k_is); (case xl => k_is); (case xc => k_is); (case xk => k_is)
    case ke50 =>
      refine' K14.def_mk KX G ?xa ?xl ?xc ?xk
      (case xa => k_is); (case xl => k_is); (case xc => k_is); (case xk => k_is)
    case ke51 =>
      refine' K14.def_mk KX G ?xa ?xl ?xc ?xk
      (case xa => k_is); (case xl => k_is); (case xc => k_is); (case xk => k_is)
    case ke52 =>
      refine' K14.def_mk KX G ?xa ?xl ?xc ?xk
      (case xa => k_is); (case xl => k_is); (case xc => k_is); (case xk => k_is)
    case ke53 =>
      refine' K14.def_mk KX G ?xa ?xl ?xc ?xk
      (case xa => k_is); (case xl => k_is); (case xc => k_is); (case xk => k_is)
    case ke54 =>
      refine' K14.def_mk KX G ?xa ?xl ?xc ?xk
      (case xa => k_is); (case xl => k_is); (case xc => k_is); (case xk => k_is)
    case ke55 =>
      refine' K14.def_mk KX G ?xa ?xl ?xc ?xk
      (case xa => k_is); (case xl => k_is); (case xc => k_is); (case xk => k_is)
    case ke56 =>
      refine' K14.def_mk KX G ?xa ?xl ?xc ?xk
      (case xa => k_is); (case xl => k_is); (case xc => k_is); (case xk => k_is)
    case ke57 =>
      refine' K14.def_mk KX G ?xa ?xl ?xc ?xk
      (case xa => k_is); (case xl => k_is); (case xc => k_is); (case xk => k_is)
    case ke58 =>
      refine' K14.def_mk KX G ?xa ?xl ?xc ?xk
      (case xa => k_is); (case xl => k_is); (case xc => k_is); (case xk => k_is)
    case kp1 =>
      refine' K14.part_mk KX G ?xa ?xl ?xc ?xk ?xt
      (case xa => k_is); (case xl => k_is); (case xc => k_is); (case xk => k_is); (case xt => k_is)
    case kb_abs => exact PySem.W.mg_none_of KX G (by k_is)
    case kb_len => exact PySem.W.mg_none_of KX G (by k_is)
    case kb_range => exact PySem.W.mg_none_of KX G (by k_is)
    case kb_list => exact PySem.W.mg_none_of KX G (by k_is)
    case kb_tuple => exact PySem.W.mg_none_of KX G (by k_is)
    case kb_bool => exact PySem.W.mg_none_of KX G (by k_is)
    case kb_int => exact PySem.W.mg_none_of KX G (by k_is)
    case kb_str => exact PySem.W.mg_none_of KX G (by k_is)
    case kb_max => exact PySem.W.mg_none_of KX G (by k_is)
    case kb_enumerate => exact PySem.W.mg_none_of KX G (by k_is)
    case kb_all => exact PySem.W.mg_none_of KX G (by k_is)
    case kb_isinstance => exact PySem.W.mg_none_of KX G (by k_is)
    case kz1 =>
      refine' K14.pt_mk KX G ?xa ?xl
      (case xa => k_is); (case xl => k_is)
    case ko1 =>
      refine' K14.ar_mk KX G ?xa ?xl ?xm ?xn
      (case xa => k_is); (case xl => k_is); (case xm => k_is); (case xn => k_is)
    case kl1 =>
      refine' ⟨_, K14.ar_mk KX G ?xa ?xl ?xm ?xn⟩
      (case xa => k_is); (case xl => k_is); (case xm => k_is); (case xn => k_is)
    case kmr =>
      refine' K14.int_mk KX G ?xa
      (case xa => k_is)
    case kmn =>
      refine' K14.int_mk KX G ?xa
      (case xa => k_is)
    case kle =>
      refine' K14.str_mk KX G ?xa
      (case xa => k_is)
    case krow =>
      refine' K14.row_mk KX G ?raC ?rpg ?rhd ?rpo ?rsa ?rnL ?rnF ?rms ?rkc ?raI ?riI ?rlI ?rcI ?rkI ?rsI ?raR ?riR ?rlR ?rcR ?rkR
      (case raC => k_is)
      (case rpg => k_is)
      (case rhd => k_is)
      (case rpo => k_is)
      (case rsa => k_is)
      (case rnL => k_is)
      (case rnF => k_is)
      (case rms => k_is)
      (case rkc => k_is)
      (case raI => k_is)
      (case riI => k_is)
      (case rlI => k_is)
      (case rcI => k_is)
      (case rkI => k_is)
      (case rsI => k_is)
      (case raR => k_is)
      (case riR => k_is)
      (case rlR => k_is)
      (case rcR => k_is)
      (case rkR => k_is)
