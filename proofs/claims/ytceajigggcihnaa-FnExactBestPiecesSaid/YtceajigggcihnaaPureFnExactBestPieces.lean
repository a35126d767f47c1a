/- What the printed Lean functions behind FnExactBestPieces come to, and from that the pure statement of FnExactBestPieces: it answers true. No condition beyond those that the given statement itself has. -/
import Derived.Test.YtceajigggcihnaaPFnExactBestPiecesx6
import Derived.Lib.SmallJoins
namespace Go.Proofs.Ytceajigggcihnaa.Pure
open Go.RowKit Go.Proofs.Ytceajigggcihnaa.PFnExactBestPieces Go.Proofs.YtceajigggcihnaaW.PrintWords Go.Proofs.YtceajigggcihnaaW.PrintLast Go.Proofs.YtceajigggcihnaaW.PrintMore
set_option linter.unusedVariables false
set_option linter.unusedSimpArgs false

theorem w64 {x : Int} (h1 : -9223372036854775808 ≤ x) (h2 : x ≤ 9223372036854775807) : wrap64 x = x := by unfold wrap64; omega
theorem wf_i64 {x : Int} (h : (Lit.int .i64 x).wf = true) : -9223372036854775808 ≤ x ∧ x ≤ 9223372036854775807 := Go.Joins.in64_of_wf h
theorem mul_bd {a b A B : Int} (ha : 0 ≤ a) (hA : a ≤ A) (hb : 0 ≤ b) (hB : b ≤ B) : 0 ≤ a * b ∧ a * b ≤ A * B :=
  ⟨Int.mul_nonneg ha hb, Int.mul_le_mul hA hB hb (by omega)⟩
theorem rd_nat (l : List Int) (i : Nat) : rd l (i : Int) = l.getD i 0 := by simp [rd]
theorem rd_get {l : List Int} {i : Nat} (h : i < l.length) : rd l (i : Int) = l[i] := by rw [rd_nat, List.getD_eq_getElem?_getD, List.getElem?_eq_getElem h]; rfl
theorem rd_set {l : List Int} {i : Nat} {v : Int} (j : Int) (h0 : 0 ≤ j) (hi : i < l.length) : rd (l.set i v) j = if j = (i : Int) then v else rd l j := by
  unfold rd
  rw [List.getD_eq_getElem?_getD, List.getD_eq_getElem?_getD]
  by_cases h : j = (i : Int)
  · rw [if_pos h, show j.toNat = i by omega, List.getElem?_set_self hi]; rfl
  · rw [if_neg h, List.getElem?_set_ne (by omega)]
theorem drop_rd {l : List Int} {i : Nat} (h : i < l.length) : l.drop i = rd l (i : Int) :: l.drop (i + 1) := by
  rw [rd_get h]; exact List.drop_eq_getElem_cons h
theorem w64_succ {i : Nat} (h : i < 9223372036854775807) : wrap64 ((i : Int) + 1) = ((i + 1 : Nat) : Int) := by rw [w64 (by omega) (by omega)]; omega
theorem k_succ {k : Nat} (h : 0 < k) : ∃ m, k = m + 1 := ⟨k - 1, by omega⟩
/-- from some number of rounds on -/
theorem Ev.use {α : Type} {g : Nat → Option α} {r : α} (h : Ev g r) : ∃ K, ∀ k, K ≤ k → g k = some r := h
theorem laws_eqIntS_l (l m : List Int) (hn : l.length ≤ 1152921504606846976) (hm : m.length = l.length) : ∀ (d k i : Nat), i + d = l.length → d < k →
    laws_eqIntS.l0 k l m (i : Int) = some (decide (l.drop i = m.drop i)) := by
  intro d
  induction d with
  | zero =>
    intro k i hi hk
    obtain ⟨k, rfl⟩ := k_succ (by omega : 0 < k)
    simp only [laws_eqIntS.l0]
    rw [if_neg (by omega), List.drop_eq_nil_of_le (by omega), List.drop_eq_nil_of_le (by omega)]
    simp
  | succ d ih =>
    intro k i hi hk
    obtain ⟨k, rfl⟩ := k_succ (by omega : 0 < k)
    simp only [laws_eqIntS.l0]
    rw [if_pos (by omega), if_pos (by omega), if_pos (by omega), w64_succ (by omega), drop_rd (by omega : i < l.length), drop_rd (by omega : i < m.length), ih k (i + 1) (by omega) (by omega)]
    by_cases h : rd l (i : Int) = rd m (i : Int)
    · rw [if_pos h]; simp [h]
    · rw [if_neg h]; simp [h]
theorem laws_eqIntS_v (l m : List Int) (hn : l.length ≤ 1152921504606846976) {k : Nat} (hk : l.length < k) : laws_eqIntS.f k l m = some (decide (l = m)) := by
  unfold laws_eqIntS.f
  by_cases h : l.length = m.length
  · rw [if_pos (by omega)]
    have := laws_eqIntS_l l m hn h.symm l.length k 0 (by omega) hk
    simpa using this
  · rw [if_neg (by omega)]
    congr 1; symm
    rw [decide_eq_false_iff_not]
    intro e; rw [e] at h; exact h rfl
theorem spec_l1In_v (a lo hi : Int) : spec_l1In.f a lo hi = some (decide (lo ≤ a ∧ a ≤ hi)) := by
  unfold spec_l1In.f
  split
  · congr 1; rw [decide_eq_decide]; omega
  · congr 1; symm; rw [decide_eq_false_iff_not]; omega
def gridB (X Y Z : Int) : Bool := decide (1 ≤ X ∧ X ≤ 8 ∧ 1 ≤ Y ∧ Y ≤ 6 ∧ 1 ≤ Z ∧ Z ≤ 5 ∧ X * Y * Z ≤ 120)
theorem gridB_t {X Y Z : Int} (h : gridB X Y Z = true) : 1 ≤ X ∧ X ≤ 8 ∧ 1 ≤ Y ∧ Y ≤ 6 ∧ 1 ≤ Z ∧ Z ≤ 5 ∧ X * Y * Z ≤ 120 := of_decide_eq_true h
theorem wrapXYZ {X Y Z : Int} (h1 : 1 ≤ X) (h2 : X ≤ 8) (h3 : 1 ≤ Y) (h4 : Y ≤ 6) (h5 : 1 ≤ Z) (h6 : Z ≤ 5) : wrap64 (wrap64 (X * Y) * Z) = X * Y * Z := by
  have a := mul_bd (by omega : 0 ≤ X) h2 (by omega : 0 ≤ Y) h4
  have b := mul_bd a.1 a.2 (by omega : 0 ≤ Z) h6
  rw [w64 (by omega) (by omega) (x := X * Y), w64 (by omega) (by omega)]
theorem grid_pos {X Y Z : Int} (h : gridB X Y Z = true) : 1 ≤ X * Y * Z ∧ X * Y * Z ≤ 120 := by
  obtain ⟨h1, h2, h3, h4, h5, h6, h7⟩ := gridB_t h
  have a : 0 < X * Y := Int.mul_pos (by omega) (by omega)
  have b : 0 < X * Y * Z := Int.mul_pos a (by omega)
  omega
def hasB (X Y Z i : Int) : Bool := gridB X Y Z && decide (0 ≤ i ∧ i < X * Y * Z)
theorem hasB_t {X Y Z i : Int} (h : hasB X Y Z i = true) : gridB X Y Z = true ∧ 0 ≤ i ∧ i < X * Y * Z := by
  unfold hasB at h; rw [Bool.and_eq_true, decide_eq_true_eq] at h; exact h
theorem at_w {X Y x y z : Int} (hX : 0 ≤ X) (hX' : X ≤ 8) (hY : 0 ≤ Y) (hY' : Y ≤ 6) (hx : 0 ≤ x) (hx' : x ≤ 8) (hy : 0 ≤ y) (hy' : y ≤ 6) (hz : 0 ≤ z) (hz' : z ≤ 5) :
    wrap64 (wrap64 (wrap64 (wrap64 (z * Y) + y) * X) + x) = (z * Y + y) * X + x ∧ 0 ≤ (z * Y + y) * X + x := by
  have a := mul_bd hz hz' hY hY'
  have b := mul_bd (by omega : 0 ≤ z * Y + y) (by omega : z * Y + y ≤ 36) hX hX'
  rw [w64 (by omega) (by omega) (x := z * Y), w64 (by omega) (by omega) (x := z * Y + y), w64 (by omega) (by omega) (x := (z * Y + y) * X), w64 (by omega) (by omega)]
  exact ⟨rfl, by omega⟩
def inB (X Y Z x y z : Int) : Bool := decide (0 ≤ x ∧ x < X ∧ 0 ≤ y ∧ y < Y ∧ 0 ≤ z ∧ z < Z)
theorem tdiv_nn {a b : Int} (h : 0 ≤ a) : Int.tdiv a b = a / b := Int.tdiv_eq_ediv_of_nonneg h
theorem tmod_nn {a b : Int} (h : 0 ≤ a) : Int.tmod a b = a % b := Int.tmod_eq_emod_of_nonneg h
theorem place_bd {X Y Z i : Int} (h : hasB X Y Z i = true) : (0 ≤ i % X ∧ i % X < X) ∧ (0 ≤ i / X % Y ∧ i / X % Y < Y) ∧ (0 ≤ i / X / Y ∧ i / X / Y < Z) ∧ 0 ≤ i / X ∧ i / X ≤ i := by
  obtain ⟨hg, hi, hi'⟩ := hasB_t h
  obtain ⟨h1, h2, h3, h4, h5, h6, h7⟩ := gridB_t hg
  have a : 0 ≤ i / X := Int.ediv_nonneg hi (by omega)
  refine ⟨⟨Int.emod_nonneg _ (by omega), Int.emod_lt_of_pos _ (by omega)⟩, ⟨Int.emod_nonneg _ (by omega), Int.emod_lt_of_pos _ (by omega)⟩, ⟨Int.ediv_nonneg a (by omega), ?_⟩, a, Int.ediv_le_self _ hi⟩
  rw [Int.ediv_ediv_of_nonneg (by omega)]
  refine Int.ediv_lt_of_lt_mul (Int.mul_pos (by omega) (by omega)) ?_
  rw [Int.mul_comm Z]
  exact hi'
def coarseV (X Y i : Int) : Int := (i / X / Y * ((Y + 1) / 2) + i / X % Y / 2) * ((X + 1) / 2) + i % X / 2
def absI (n : Int) : Int := if n < 0 then -n else n
theorem absI_sub (a b : Int) : absI (a - b) = absI (b - a) := by unfold absI; repeat' split <;> omega
theorem absI_bd {a : Int} {B : Int} (h : -B ≤ a) (h' : a ≤ B) : 0 ≤ absI a ∧ absI a ≤ B := by unfold absI; split <;> omega
def stepsV (X Y i k : Int) : Int := absI (i % X - k % X) + absI (i / X % Y - k / X % Y) + absI (i / X / Y - k / X / Y)
theorem stepsV_comm (X Y i k : Int) : stepsV X Y i k = stepsV X Y k i := by
  unfold stepsV
  rw [absI_sub (i % X), absI_sub (i / X % Y), absI_sub (i / X / Y)]
theorem steps_bd {X Y Z i k : Int} (h : hasB X Y Z i = true) (h' : hasB X Y Z k = true) : (0 ≤ absI (i % X - k % X) ∧ absI (i % X - k % X) ≤ 8) ∧ (0 ≤ absI (i / X % Y - k / X % Y) ∧ absI (i / X % Y - k / X % Y) ≤ 8) ∧ (0 ≤ absI (i / X / Y - k / X / Y) ∧ absI (i / X / Y - k / X / Y) ≤ 8) := by
  obtain ⟨h1, h2, h3, h4, h5, h6, h7⟩ := gridB_t (hasB_t h).1
  have a := place_bd h
  have b := place_bd h'
  exact ⟨absI_bd (by omega) (by omega), absI_bd (by omega) (by omega), absI_bd (by omega) (by omega)⟩
def filtN (p : Int → Bool) : Nat → Nat → List Int
  | _, 0 => []
  | i, d + 1 => if p (i : Int) = true then (i : Int) :: filtN p (i + 1) d else filtN p (i + 1) d
theorem filtN_pos {p : Int → Bool} {i d : Nat} (h : p (i : Int) = true) : filtN p i (d + 1) = (i : Int) :: filtN p (i + 1) d := by rw [filtN, if_pos h]
theorem filtN_neg {p : Int → Bool} {i d : Nat} (h : ¬ p (i : Int) = true) : filtN p i (d + 1) = filtN p (i + 1) d := by rw [filtN, if_neg h]
theorem filtN_len (p : Int → Bool) : ∀ (d i : Nat), (filtN p i d).length ≤ d
  | 0, i => by simp [filtN]
  | d + 1, i => by
    have := filtN_len p d (i + 1)
    unfold filtN
    split <;> simp <;> omega
theorem filtN_mem (p : Int → Bool) : ∀ (d i : Nat) (x : Int), x ∈ filtN p i d ↔ (i : Int) ≤ x ∧ x < ((i + d : Nat) : Int) ∧ p x = true
  | 0, i, x => by simp [filtN]; omega
  | d + 1, i, x => by
    have ih := filtN_mem p d (i + 1) x
    by_cases h : p (i : Int) = true
    · rw [filtN_pos h, List.mem_cons, ih]
      constructor
      · rintro (rfl | ⟨h1, h2, h3⟩)
        · exact ⟨by omega, by omega, h⟩
        · exact ⟨by omega, by omega, h3⟩
      · rintro ⟨h1, h2, h3⟩
        by_cases e : x = (i : Int)
        · exact .inl e
        · exact .inr ⟨by omega, by omega, h3⟩
    · rw [filtN_neg h, ih]
      constructor
      · rintro ⟨h1, h2, h3⟩; exact ⟨by omega, by omega, h3⟩
      · rintro ⟨h1, h2, h3⟩
        refine ⟨?_, by omega, h3⟩
        by_cases e : x = (i : Int)
        · subst e; exact absurd h3 h
        · omega
theorem hasB_of {X Y Z i : Int} (h : gridB X Y Z = true) (h0 : 0 ≤ i) (h1 : i < X * Y * Z) : hasB X Y Z i = true := by
  unfold hasB; rw [h, Bool.true_and]; exact decide_eq_true ⟨h0, h1⟩
def nearB (X Y i r k : Int) : Bool := decide (absI (i % X - k % X) ≤ r ∧ absI (i / X % Y - k / X % Y) ≤ r ∧ absI (i / X / Y - k / X / Y) ≤ r)
def pieceB (T M R : Int) : Bool := decide (0 ≤ T ∧ T ≤ 10000 ∧ 0 ≤ M ∧ M ≤ 1000 * T ∧ 0 ≤ R ∧ R ≤ 4)
theorem pieceB_t {T M R : Int} (h : pieceB T M R = true) : 0 ≤ T ∧ T ≤ 10000 ∧ 0 ≤ M ∧ M ≤ 1000 * T ∧ 0 ≤ R ∧ R ≤ 4 := of_decide_eq_true h
theorem impl_IsPiece_v (T M R : Int) : impl_IsPiece.f T M R = some (pieceB T M R) := by
  unfold impl_IsPiece.f pieceB
  by_cases h : 0 ≤ T ∧ T ≤ 10000
  · rw [w64 (by omega) (by omega)]
    repeat' split
    all_goals first
      | (congr 1; rw [decide_eq_decide]; omega)
      | (congr 1; symm; rw [decide_eq_false_iff_not]; omega)
  · have e : decide (0 ≤ T ∧ T ≤ 10000 ∧ 0 ≤ M ∧ M ≤ 1000 * T ∧ 0 ≤ R ∧ R ≤ 4) = false := by rw [decide_eq_false_iff_not]; omega
    rw [e]
    split
    · rw [if_neg (by omega)]
    · rfl
theorem spec_sbPiece_v (T M R : Int) : spec_sbPiece.f T M R = some (pieceB T M R) := by
  unfold spec_sbPiece.f pieceB
  simp only [spec_l1In_v, Option.bind_some, decide_eq_true_eq]
  by_cases h : 0 ≤ T ∧ T ≤ 10000
  · rw [w64 (by omega) (by omega)]
    repeat' split
    all_goals first
      | (congr 1; rw [decide_eq_decide]; omega)
      | (congr 1; symm; rw [decide_eq_false_iff_not]; omega)
  · have e : decide (0 ≤ T ∧ T ≤ 10000 ∧ 0 ≤ M ∧ M ≤ 1000 * T ∧ 0 ≤ R ∧ R ≤ 4) = false := by rw [decide_eq_false_iff_not]; omega
    rw [e, if_neg h]
def gcdI (x y : Int) : Int := (Nat.gcd x.toNat y.toNat : Nat)
theorem gcdI_step {x y : Int} (hx : 0 ≤ x) (hy : 0 ≤ y) : gcdI y (x % y) = gcdI x y := by
  unfold gcdI
  rw [Int.toNat_emod hx hy, Nat.gcd_comm, ← Nat.gcd_rec, Nat.gcd_comm]
theorem gcdI_zero {x : Int} (hx : 0 ≤ x) : gcdI x 0 = x := by
  unfold gcdI
  simp; omega
def modelB (X Y Z : Int) (t g r : List Int) : Bool := gridB X Y Z && decide ((t.length : Int) = X * Y * Z ∧ (g.length : Int) = X * Y * Z ∧ (r.length : Int) = X * Y * Z) && ((t.all fun x => decide (0 ≤ x ∧ x ≤ 10000)) && ((g.all fun x => decide (0 ≤ x ∧ x ≤ 1000)) && (r.all fun x => decide (0 ≤ x ∧ x ≤ 4))))
structure IsMod (X Y Z : Int) (t g r : List Int) : Prop where
  grid : gridB X Y Z = true
  lt : (t.length : Int) = X * Y * Z
  lg : g.length = t.length
  lr : r.length = t.length
  ht : ∀ x ∈ t, 0 ≤ x ∧ x ≤ 10000
  hg : ∀ x ∈ g, 0 ≤ x ∧ x ≤ 1000
  hr : ∀ x ∈ r, 0 ≤ x ∧ x ≤ 4
  pos : 1 ≤ t.length
  le : t.length ≤ 120
theorem modelB_iff {X Y Z : Int} {t g r : List Int} : modelB X Y Z t g r = true ↔ IsMod X Y Z t g r := by
  unfold modelB
  simp only [Bool.and_eq_true, decide_eq_true_eq, List.all_eq_true]
  constructor
  · rintro ⟨⟨h1, h2, h3, h4⟩, h5, h6, h7⟩
    have := grid_pos h1
    exact ⟨h1, h2, by omega, by omega, h5, h6, h7, by omega, by omega⟩
  · intro h
    have h1 := h.lt; have h2 := h.lg; have h3 := h.lr
    exact ⟨⟨h.grid, h1, by omega, by omega⟩, h.ht, h.hg, h.hr⟩
theorem modelB_t {X Y Z : Int} {t g r : List Int} (h : modelB X Y Z t g r = true) : IsMod X Y Z t g r := modelB_iff.1 h
theorem modelB_f {X Y Z : Int} {t g r : List Int} (h : ¬ modelB X Y Z t g r = true) : modelB X Y Z t g r = false := by simpa using h
theorem rd_mem {l : List Int} {i : Int} (h0 : 0 ≤ i) (h : i < (l.length : Int)) : rd l i ∈ l := by
  unfold rd
  rw [List.getD_eq_getElem?_getD, List.getElem?_eq_getElem (by omega)]
  exact List.getElem_mem _
theorem rd_of_getElem? {l : List Int} {i : Nat} {x : Int} (h : l[i]? = some x) : rd l (i : Int) = x := by
  rw [rd_nat, List.getD_eq_getElem?_getD, h]; rfl
theorem IsMod.rt {X Y Z : Int} {t g r : List Int} (h : IsMod X Y Z t g r) {i : Int} (h0 : 0 ≤ i) (h1 : i < (t.length : Int)) : 0 ≤ rd t i ∧ rd t i ≤ 10000 := h.ht _ (rd_mem h0 h1)
theorem IsMod.rg {X Y Z : Int} {t g r : List Int} (h : IsMod X Y Z t g r) {i : Int} (h0 : 0 ≤ i) (h1 : i < (t.length : Int)) : 0 ≤ rd g i ∧ rd g i ≤ 1000 := h.hg _ (rd_mem h0 (by have := h.lg; omega))
theorem IsMod.rr {X Y Z : Int} {t g r : List Int} (h : IsMod X Y Z t g r) {i : Int} (h0 : 0 ≤ i) (h1 : i < (t.length : Int)) : 0 ≤ rd r i ∧ rd r i ≤ 4 := h.hr _ (rd_mem h0 (by have := h.lr; omega))
theorem IsMod.rm {X Y Z : Int} {t g r : List Int} (h : IsMod X Y Z t g r) {i : Int} (h0 : 0 ≤ i) (h1 : i < (t.length : Int)) : 0 ≤ rd t i * rd g i ∧ rd t i * rd g i ≤ 10000000 :=
  mul_bd (h.rt h0 h1).1 (h.rt h0 h1).2 (h.rg h0 h1).1 (h.rg h0 h1).2
def marks (n : Nat) (a : Int) : List Int := (List.range n).map fun i : Nat => a + (i : Int)
theorem marks_length (n : Nat) (a : Int) : (marks n a).length = n := by simp [marks]
theorem marks_rd {n : Nat} {a : Int} {i : Nat} (h : i < n) : rd (marks n a) (i : Int) = a + (i : Int) := by
  rw [rd_get (by rw [marks_length]; exact h)]; simp [marks]
theorem laws_markIntS_l (n : Nat) (a : Int) (ha : 0 ≤ a) (ha' : a ≤ 1152921504606846976) (hn : n ≤ 1152921504606846976) : ∀ (d k i : Nat) (y : List Int), i + d = n → d < k → y.length = n → (∀ j, j < i → y[j]? = some (a + (j : Int))) →
    laws_markIntS.l0 k y (a + (i : Int)) (i : Int) = some (a + (n : Int), marks n a) := by
  intro d
  induction d with
  | zero =>
    intro k i y hi hk hy hj
    obtain ⟨k, rfl⟩ := k_succ (by omega : 0 < k)
    simp only [laws_markIntS.l0]
    rw [if_neg (by omega)]
    have e : y = marks n a := by
      refine List.ext_getElem? fun j => ?_
      by_cases h : j < n
      · rw [hj j (by omega)]; simp [marks, h]
      · rw [List.getElem?_eq_none (by omega), List.getElem?_eq_none (by rw [marks_length]; omega)]
    rw [e, show i = n by omega]
  | succ d ih =>
    intro k i y hi hk hy hj
    obtain ⟨k, rfl⟩ := k_succ (by omega : 0 < k)
    simp only [laws_markIntS.l0]
    rw [if_pos (by omega), if_pos (by omega), w64_succ (by omega), w64 (by omega) (by omega), show a + (i : Int) + 1 = a + ((i + 1 : Nat) : Int) by omega]
    refine ih k (i + 1) _ (by omega) (by omega) (by simpa using hy) (fun j hj' => ?_)
    rw [show ((i : Int) : Int).toNat = i by omega]
    by_cases h : j = i
    · subst h
      rw [List.getElem?_set_self (by omega)]
    · rw [List.getElem?_set_ne (by omega)]
      exact hj j (by omega)
theorem laws_markIntS_v (l : List Int) (a : Int) (ha : 0 ≤ a) (ha' : a ≤ 1152921504606846976) (hn : l.length ≤ 1048576) {k : Nat} (hk : 1048576 < k) : laws_markIntS.f k l a = some (a + (l.length : Int), marks l.length a) := by
  unfold laws_markIntS.f
  have := laws_markIntS_l l.length a ha ha' (by omega) l.length k 0 l (by omega) (by omega) rfl (fun j hj => by omega)
  simpa using this
theorem laws_heldIntS_l (n : Nat) (a : Int) (ha : 0 ≤ a) (ha' : a ≤ 1152921504606846976) (hn : n ≤ 1152921504606846976) : ∀ (d k i : Nat), i + d = n → d < k →
    laws_heldIntS.l0 k (marks n a) (a + (i : Int)) (i : Int) = some (a + (n : Int)) := by
  intro d
  induction d with
  | zero =>
    intro k i hi hk
    obtain ⟨k, rfl⟩ := k_succ (by omega : 0 < k)
    simp only [laws_heldIntS.l0, marks_length]
    rw [if_neg (by omega), show i = n by omega]
  | succ d ih =>
    intro k i hi hk
    obtain ⟨k, rfl⟩ := k_succ (by omega : 0 < k)
    simp only [laws_heldIntS.l0, marks_length]
    rw [if_pos (by omega), if_pos (by omega), marks_rd (by omega), if_pos rfl, w64_succ (by omega), w64 (by omega) (by omega), show a + (i : Int) + 1 = a + ((i + 1 : Nat) : Int) by omega]
    exact ih k (i + 1) (by omega) (by omega)
theorem laws_heldIntS_v (n : Nat) (a : Int) (ha : 0 ≤ a) (ha' : a ≤ 1152921504606846976) (hn : n ≤ 1048576) {k : Nat} (hk : 1048576 < k) : laws_heldIntS.f k (marks n a) a = some (a + (n : Int)) := by
  unfold laws_heldIntS.f
  have := laws_heldIntS_l n a ha ha' (by omega) n k 0 (by omega) (by omega)
  simpa using this
def risF (n : Int) : Int → List Int → Bool
  | _, [] => true
  | p, x :: xs => decide (0 ≤ x ∧ x < n ∧ p < x) && risF n x xs
def risB (n : Int) (l : List Int) : Bool := risF n (-1) l
theorem risF_cons (n p x : Int) (xs : List Int) : risF n p (x :: xs) = (decide (0 ≤ x ∧ x < n ∧ p < x) && risF n x xs) := rfl
theorem risF_mem {n : Int} : ∀ {p : Int} {l : List Int}, risF n p l = true → ∀ x ∈ l, 0 ≤ x ∧ x < n
  | _, [], _, x, hx => by cases hx
  | p, y :: l, h, x, hx => by
    unfold risF at h
    rw [Bool.and_eq_true, decide_eq_true_eq] at h
    rcases List.mem_cons.1 hx with rfl | hx
    · exact ⟨h.1.1, h.1.2.1⟩
    · exact risF_mem h.2 x hx
theorem risF_len {n : Int} : ∀ {p : Int} {l : List Int}, -1 ≤ p → p < n → risF n p l = true → (l.length : Int) + p < n
  | p, [], h0, h1, _ => by simp; omega
  | p, x :: l, h0, h1, h => by
    unfold risF at h
    rw [Bool.and_eq_true, decide_eq_true_eq] at h
    have := risF_len (by omega) h.1.2.1 h.2
    simp only [List.length_cons]
    omega
theorem risB_mem {n : Int} {l : List Int} (h : risB n l = true) : ∀ x ∈ l, 0 ≤ x ∧ x < n := risF_mem h
theorem risB_len {n : Int} {l : List Int} (hn : 0 ≤ n) (h : risB n l = true) : (l.length : Int) ≤ n := by have := risF_len (by omega) (by omega) h; omega
def sumT (t l : List Int) : Int := (l.map (rd t)).sum
def sumM (t g l : List Int) : Int := (l.map fun i => rd t i * rd g i).sum
theorem sum_bd (f : Int → Int) (B : Int) (hB : 0 ≤ B) : ∀ (l : List Int), (∀ x ∈ l, 0 ≤ f x ∧ f x ≤ B) → 0 ≤ (l.map f).sum ∧ (l.map f).sum ≤ B * (l.length : Int)
  | [], _ => by simp
  | x :: l, h => by
    have h1 := h x (by simp)
    have h2 := sum_bd f B hB l (fun y hy => h y (by simp [hy]))
    simp only [List.map_cons, List.sum_cons, List.length_cons]
    have e : B * ((l.length + 1 : Nat) : Int) = B * (l.length : Int) + B := by
      rw [show ((l.length + 1 : Nat) : Int) = (l.length : Int) + 1 by omega, Int.mul_add, Int.mul_one]
    omega
def filtI (p : Int → Bool) : List Int → Nat → List Int
  | [], _ => []
  | x :: l, i => if p x = true then (i : Int) :: filtI p l (i + 1) else filtI p l (i + 1)
theorem filtI_pos {p : Int → Bool} {x : Int} {l : List Int} {i : Nat} (h : p x = true) : filtI p (x :: l) i = (i : Int) :: filtI p l (i + 1) := by rw [filtI, if_pos h]
theorem filtI_neg {p : Int → Bool} {x : Int} {l : List Int} {i : Nat} (h : ¬ p x = true) : filtI p (x :: l) i = filtI p l (i + 1) := by rw [filtI, if_neg h]
theorem filtI_len (p : Int → Bool) : ∀ (l : List Int) (i : Nat), (filtI p l i).length ≤ l.length
  | [], _ => by simp [filtI]
  | x :: l, i => by
    have := filtI_len p l (i + 1)
    unfold filtI
    split <;> simp <;> omega
theorem spec_l1Own_v (l : List Int) (h : l.length ≤ 1048576) : spec_l1Own.f l = some l := by
  unfold spec_l1Own.f
  simp only [Option.bind_some, List.length_nil, List.nil_append]
  rw [if_pos (by omega)]
theorem laws_eqPiece_v (a b c : Int) : laws_eqPiece.f a b c a b c = some true := by simp [laws_eqPiece.f]
theorem getD_drop {α : Type} {l : List α} {i : Nat} (z : α) (h : i < l.length) : l.drop i = l.getD i z :: l.drop (i + 1) := by
  rw [List.drop_eq_getElem_cons h, List.getD_eq_getElem?_getD, List.getElem?_eq_getElem h]; rfl
theorem laws_eqPieceS_l (l : List S29) (hn : l.length ≤ 1152921504606846976) : ∀ (d k i : Nat), i + d = l.length → d < k →
    laws_eqPieceS.l0 k l l (i : Int) = some true := by
  intro d
  induction d with
  | zero =>
    intro k i hi hk
    obtain ⟨k, rfl⟩ := k_succ (by omega : 0 < k)
    simp only [laws_eqPieceS.l0]
    rw [if_neg (by omega)]
  | succ d ih =>
    intro k i hi hk
    obtain ⟨k, rfl⟩ := k_succ (by omega : 0 < k)
    simp only [laws_eqPieceS.l0]
    rw [if_pos (by omega), if_pos (by omega), if_pos (by omega), w64_succ (by omega), laws_eqPiece_v, Option.bind_some, if_pos rfl, ih k (i + 1) (by omega) (by omega)]
theorem laws_eqPieceS_v (l : List S29) (hn : l.length ≤ 1048576) {k : Nat} (hk : 1048576 < k) : laws_eqPieceS.f k l l = some true := by
  unfold laws_eqPieceS.f
  rw [if_pos rfl]
  exact laws_eqPieceS_l l (by omega) l.length k 0 (by omega) (by omega)
def marksP (n : Nat) (a : Int) : List S29 := (List.range n).map fun i : Nat => ⟨a + 3 * (i : Int), a + 3 * (i : Int) + 1, a + 3 * (i : Int) + 2⟩
theorem marksP_length (n : Nat) (a : Int) : (marksP n a).length = n := by simp [marksP]
theorem rdP_set {l : List S29} {i : Nat} {v : S29} (hi : i < l.length) : rd_T29 (l.set i v) (i : Int) = v := by
  unfold rd_T29
  rw [List.getD_eq_getElem?_getD, show ((i : Int)).toNat = i by omega, List.getElem?_set_self hi]; rfl
theorem marksP_rd {n : Nat} {a : Int} {i : Nat} (h : i < n) : rd_T29 (marksP n a) (i : Int) = ⟨a + 3 * (i : Int), a + 3 * (i : Int) + 1, a + 3 * (i : Int) + 2⟩ := by
  unfold rd_T29
  rw [List.getD_eq_getElem?_getD, show ((i : Int)).toNat = i by omega]
  simp [marksP, h]
theorem laws_markPieceS_l (n : Nat) (a : Int) (ha : 0 ≤ a) (ha' : a ≤ 1048576) (hn : n ≤ 1048576) : ∀ (d k i : Nat) (y : List S29), i + d = n → d < k → y.length = n → (∀ j, j < i → y[j]? = (marksP n a)[j]?) →
    laws_markPieceS.l0 k y (a + 3 * (i : Int)) (i : Int) = some (a + 3 * (n : Int), marksP n a) := by
  intro d
  induction d with
  | zero =>
    intro k i y hi hk hy hj
    obtain ⟨k, rfl⟩ := k_succ (by omega : 0 < k)
    simp only [laws_markPieceS.l0]
    rw [if_neg (by omega)]
    have e : y = marksP n a := by
      refine List.ext_getElem? fun j => ?_
      by_cases h : j < n
      · exact hj j (by omega)
      · rw [List.getElem?_eq_none (by omega), List.getElem?_eq_none (by rw [marksP_length]; omega)]
    rw [e, show i = n by omega]
  | succ d ih =>
    intro k i y hi hk hy hj
    obtain ⟨k, rfl⟩ := k_succ (by omega : 0 < k)
    simp only [laws_markPieceS.l0]
    rw [if_pos (by omega), if_pos (by omega), w64_succ (by omega)]
    simp only [Option.bind_some]
    rw [show ((i : Int)).toNat = i by omega, w64 (by omega) (by omega) (x := a + 3 * (i : Int) + 1), w64 (by omega) (by omega) (x := a + 3 * (i : Int) + 1 + 1), w64 (by omega) (by omega) (x := a + 3 * (i : Int) + 1 + 1 + 1), show a + 3 * (i : Int) + 1 + 1 + 1 = a + 3 * ((i + 1 : Nat) : Int) by omega]
    rw [rdP_set (by first | omega | (simp only [List.length_set]; omega)), rdP_set (by first | omega | (simp only [List.length_set]; omega))]
    refine ih k (i + 1) _ (by omega) (by omega) (by simpa using hy) (fun j hj' => ?_)
    by_cases h : j = i
    · subst h
      rw [List.getElem?_set_self (by simp; omega)]
      simp only [marksP, List.getElem?_map]
      rw [List.getElem?_range (by omega)]
      simp; omega
    · rw [List.getElem?_set_ne (by omega), List.getElem?_set_ne (by omega), List.getElem?_set_ne (by omega)]
      exact hj j (by omega)
theorem laws_markPieceS_v (l : List S29) (hn : l.length ≤ 1048576) {k : Nat} (hk : 1048576 < k) : laws_markPieceS.f k l 1 = some (1 + 3 * (l.length : Int), marksP l.length 1) := by
  unfold laws_markPieceS.f
  have := laws_markPieceS_l l.length 1 (by omega) (by omega) hn l.length k 0 l (by omega) (by omega) rfl (fun j hj => by omega)
  simpa using this
def toPc (p : S46) : S29 := ⟨p.f0, p.f1, p.f2⟩
theorem toPc_map_len (l : List S46) : (l.map toPc).length = l.length := by simp
theorem laws_toPieceS_l (l : List S46) (hn : l.length ≤ 1152921504606846976) : ∀ (d k i : Nat) (y : List S29), i + d = l.length → d < k → y.length = l.length → (∀ j, j < i → y[j]? = (l.map toPc)[j]?) →
    laws_toPieceS.l0 k l y (i : Int) = some (l.map toPc) := by
  intro d
  induction d with
  | zero =>
    intro k i y hi hk hy hj
    obtain ⟨k, rfl⟩ := k_succ (by omega : 0 < k)
    simp only [laws_toPieceS.l0]
    rw [if_neg (by omega)]
    congr 1
    refine List.ext_getElem? fun j => ?_
    by_cases h : j < i
    · exact hj j h
    · rw [List.getElem?_eq_none (by omega), List.getElem?_eq_none (by rw [toPc_map_len]; omega)]
  | succ d ih =>
    intro k i y hi hk hy hj
    obtain ⟨k, rfl⟩ := k_succ (by omega : 0 < k)
    simp only [laws_toPieceS.l0, laws_toPiece.f, Option.bind_some]
    rw [if_pos (by omega), if_pos (by omega), if_pos (by omega), w64_succ (by omega)]
    refine ih k (i + 1) _ (by omega) (by omega) (by simpa using hy) (fun j hj' => ?_)
    rw [show ((i : Int) : Int).toNat = i by omega]
    by_cases h : j = i
    · subst h
      rw [List.getElem?_set_self (by omega), List.getElem?_map, List.getElem?_eq_getElem (by omega)]
      simp only [rd_T46, Option.map_some, toPc]
      rw [List.getD_eq_getElem?_getD, show ((j : Int) : Int).toNat = j by omega, List.getElem?_eq_getElem (by omega)]
      rfl
    · rw [List.getElem?_set_ne (by omega)]
      exact hj j (by omega)
theorem laws_toPieceS_v (l : List S46) (hn : l.length ≤ 1048576) {k : Nat} (hk : 1048576 < k) : laws_toPieceS.f k l = some (l.map toPc) := by
  unfold laws_toPieceS.f
  rw [if_pos (by omega), if_pos (by omega)]
  exact laws_toPieceS_l l (by omega) l.length k 0 _ (by omega) (by omega) (by simp) (fun j hj => by omega)
theorem laws_szPieceS_v (l : List S46) (a : Int) (ha : 0 ≤ a) (ha' : a ≤ 1048576) (hm : l.length ≤ maxLen) : ∃ s, laws_szPieceS.f l a = some s ∧ (s < 0 ∨ (0 ≤ s ∧ s = a - (l.length : Int))) := by
  have : (maxLen : Nat) ≤ 9223372036854775807 := by decide
  unfold laws_szPieceS.f
  rw [w64 (by omega) (by omega)]
  by_cases h : a - (l.length : Int) < 0
  · rw [if_pos h]; exact ⟨_, rfl, .inl (by decide)⟩
  · rw [if_neg h]; exact ⟨_, rfl, .inr ⟨by omega, rfl⟩⟩
def pcB (p : S29) : Bool := pieceB p.f0 p.f1 p.f2
def plist (l : List S29) : Bool := decide (1 ≤ l.length ∧ l.length ≤ 20) && l.all pcB
structure IsPl (l : List S29) : Prop where
  pos : 1 ≤ l.length
  le : l.length ≤ 20
  all : ∀ p ∈ l, pieceB p.f0 p.f1 p.f2 = true
theorem plist_t {l : List S29} (h : plist l = true) : IsPl l := by
  unfold plist at h
  rw [Bool.and_eq_true, decide_eq_true_eq, List.all_eq_true] at h
  exact ⟨h.1.1, h.1.2, h.2⟩
theorem pl_drop {l : List S29} {i : Nat} (h : i < l.length) : l.drop i = rd_T29 l (i : Int) :: l.drop (i + 1) := by
  unfold rd_T29
  rw [show ((i : Int) : Int).toNat = i by omega, List.drop_eq_getElem_cons h, List.getD_eq_getElem?_getD, List.getElem?_eq_getElem h]; rfl
theorem pl_mem {l : List S29} {i : Nat} (h : i < l.length) : rd_T29 l (i : Int) ∈ l := by
  unfold rd_T29
  rw [show ((i : Int) : Int).toNat = i by omega, List.getD_eq_getElem?_getD, List.getElem?_eq_getElem h]
  exact List.getElem_mem _
theorem spec_sbList_l (l : List S29) (hn : l.length ≤ 1048576) : ∀ (d k i : Nat), i + d = l.length → d < k →
    spec_sbList.l0 k l l (l.length : Int) (i : Int) = some (decide (1 ≤ l.length ∧ l.length ≤ 20) && (l.drop i).all pcB) := by
  intro d
  induction d with
  | zero =>
    intro k i hi hk
    obtain ⟨k, rfl⟩ := k_succ (by omega : 0 < k)
    simp only [spec_sbList.l0]
    rw [if_neg (by omega), List.drop_eq_nil_of_le (by omega), spec_l1In_v]
    simp only [Option.bind_some, List.all_nil, Bool.and_true]
    congr 1
    rw [decide_eq_decide]; omega
  | succ d ih =>
    intro k i hi hk
    obtain ⟨k, rfl⟩ := k_succ (by omega : 0 < k)
    simp only [spec_sbList.l0]
    rw [if_pos (by omega), if_pos (by omega), if_pos (by omega), w64_succ (by omega), ih k (i + 1) (by omega) (by omega), spec_sbPiece_v, Option.bind_some, pl_drop (by omega : i < l.length), List.all_cons]
    show (if pcB (rd_T29 l (i : Int)) = true then _ else _) = _
    cases pcB (rd_T29 l (i : Int)) <;> simp
theorem spec_sbList_v (l : List S29) (hn : l.length ≤ 1048576) {k : Nat} (hk : 1048576 < k) : spec_sbList.f k l = some (plist l) := by
  unfold spec_sbList.f plist
  simpa using spec_sbList_l l hn l.length k 0 (by omega) (by omega)
theorem impl_arePieces_l (l : List S29) (hn : l.length ≤ 1048576) : ∀ (d k i : Nat), i + d = l.length → d < k →
    impl_arePieces.l0 k l (l.length : Int) (i : Int) = some ((l.drop i).all pcB) := by
  intro d
  induction d with
  | zero =>
    intro k i hi hk
    obtain ⟨k, rfl⟩ := k_succ (by omega : 0 < k)
    simp only [impl_arePieces.l0]
    rw [if_neg (by omega), List.drop_eq_nil_of_le (by omega)]
    rfl
  | succ d ih =>
    intro k i hi hk
    obtain ⟨k, rfl⟩ := k_succ (by omega : 0 < k)
    simp only [impl_arePieces.l0]
    rw [if_pos (by omega), if_pos (by omega), if_pos (by omega), w64_succ (by omega), ih k (i + 1) (by omega) (by omega), impl_IsPiece_v, Option.bind_some, pl_drop (by omega : i < l.length), List.all_cons]
    show (if pcB (rd_T29 l (i : Int)) = true then _ else _) = _
    cases pcB (rd_T29 l (i : Int)) <;> simp
theorem impl_arePieces_v (l : List S29) (hn : l.length ≤ 1048576) {k : Nat} (hk : 1048577 < k) : impl_arePieces.f k l = some (plist l) := by
  obtain ⟨k, rfl⟩ := k_succ (by omega : 0 < k)
  unfold impl_arePieces.f plist
  by_cases h : (l.length : Int) < 1
  · rw [if_pos h, impl_arePieces.j0, if_pos rfl, decide_eq_false (by omega), Bool.false_and]
  · rw [if_neg h]
    by_cases h2 : (l.length : Int) > 20
    · rw [decide_eq_true h2, impl_arePieces.j0, if_pos rfl, decide_eq_false (by omega), Bool.false_and]
    · rw [decide_eq_false h2, impl_arePieces.j0, if_neg (by decide), decide_eq_true (by omega), Bool.true_and]
      simpa using impl_arePieces_l l hn l.length k 0 (by omega) (by omega)
def posL (lt : Nat → Bool) (out : List Nat) : Nat → Nat
  | 0 => 0
  | k + 1 => if lt (out.getD k 0) = true then posL lt out k else k + 1
theorem posL_le (lt : Nat → Bool) (out : List Nat) : ∀ k, posL lt out k ≤ k
  | 0 => Nat.le_refl _
  | k + 1 => by
    rw [posL]
    split
    · exact Nat.le_succ_of_le (posL_le lt out k)
    · exact Nat.le_refl _
def insA (x : Nat) (out : List Nat) (k : Nat) : List Nat := out.take k ++ x :: out.drop k
def insN (lt : Nat → Nat → Bool) (x : Nat) (out : List Nat) : List Nat := insA x out (posL (lt x) out out.length)
def sortN (lt : Nat → Nat → Bool) : Nat → List Nat
  | 0 => []
  | i + 1 => insN lt i (sortN lt i)
theorem insA_len (x : Nat) (out : List Nat) (k : Nat) : (insA x out k).length = out.length + 1 := by
  unfold insA
  rw [List.length_append, List.length_cons, List.length_take, List.length_drop]
  omega
theorem sortN_len (lt : Nat → Nat → Bool) : ∀ i, (sortN lt i).length = i
  | 0 => rfl
  | i + 1 => by rw [sortN, insN, insA_len, sortN_len lt i]
theorem insA_mem {x y : Nat} {out : List Nat} {k : Nat} (h : y ∈ insA x out k) : y = x ∨ y ∈ out := by
  unfold insA at h
  rw [List.mem_append, List.mem_cons] at h
  rcases h with h | h | h
  · exact .inr (List.mem_of_mem_take h)
  · exact .inl h
  · exact .inr (List.mem_of_mem_drop h)
theorem sortN_lt (lt : Nat → Nat → Bool) : ∀ i, ∀ y ∈ sortN lt i, y < i
  | 0, y, h => by cases h
  | i + 1, y, h => by
    rcases insA_mem h with rfl | h
    · omega
    · have := sortN_lt lt i y h; omega
theorem set2 (a x : Nat) (t : List Nat) : ∀ A : List Nat, ((A ++ a :: x :: t).set (A.length + 1) a).set A.length x = A ++ x :: a :: t
  | [] => rfl
  | b :: A => by
    simp
theorem inner_is (lt : Nat → Nat → Bool) (x : Nat) (out rest : List Nat) : ∀ (j : Nat) (d : Array Nat), j ≤ out.length → d.toList = insA x out j ++ rest → (Sort.insInner lt 0 j d).toList = insA x out (posL (lt x) out j) ++ rest
  | 0, d, _, h => by rw [Sort.insInner, posL]; exact h
  | j + 1, d, hj, h => by
    have hjl : j < out.length := by omega
    have hA : (out.take j).length = j := by rw [List.length_take]; omega
    have e1 : out.take (j + 1) = out.take j ++ [out[j]] := List.take_succ_eq_append_getElem hjl
    have h' : d.toList = out.take j ++ out[j] :: x :: (out.drop (j + 1) ++ rest) := by
      rw [h, insA, e1]; simp only [List.append_assoc, List.cons_append, List.nil_append]
    have hs : d.size = j + 2 + (out.drop (j + 1) ++ rest).length := by
      rw [← Array.length_toList, h', List.length_append, hA, List.length_cons, List.length_cons]; omega
    have x1 : d[j + 1]! = x := by
      rw [getElem!_pos d (j + 1) (by omega), ← Array.getElem_toList]
      have : d.toList[j + 1]? = some x := by rw [h', List.getElem?_append_right (by omega), hA, Nat.add_sub_cancel_left]; rfl
      rw [List.getElem?_eq_getElem (by rw [Array.length_toList]; omega)] at this
      exact Option.some.inj this
    have x2 : d[j]! = out[j] := by
      rw [getElem!_pos d j (by omega), ← Array.getElem_toList]
      have : d.toList[j]? = some out[j] := by rw [h', List.getElem?_append_right (by omega), hA, Nat.sub_self]; rfl
      rw [List.getElem?_eq_getElem (by rw [Array.length_toList]; omega)] at this
      exact Option.some.inj this
    have g1 : out.getD j 0 = out[j] := by rw [List.getD_eq_getElem?_getD, List.getElem?_eq_getElem hjl]; rfl
    rw [Sort.insInner, posL, x1, x2, g1]
    by_cases c : lt x out[j] = true
    · rw [if_pos (by simp [c]), if_pos c]
      refine inner_is lt x out rest j _ (by omega) ?_
      unfold Sort.swp
      rw [x1, x2, Array.toList_setIfInBounds, Array.toList_setIfInBounds, h']
      have h2 := set2 out[j] x (out.drop (j + 1) ++ rest) (out.take j)
      rw [hA] at h2
      rw [h2, insA, List.drop_eq_getElem_cons hjl]
      simp only [List.append_assoc, List.cons_append, List.nil_append]
    · rw [if_neg (by simp [c]), if_neg c]
      exact h
theorem outer_is (lt : Nat → Nat → Bool) (n : Nat) : ∀ (m i : Nat) (d : Array Nat), i + m = n → d.toList = sortN lt i ++ (List.range n).drop i → (Sort.insOuter lt 0 n i d).toList = sortN lt n := by
  intro m
  induction m with
  | zero =>
    intro i d hi h
    rw [Sort.insOuter, if_neg (by omega), h, List.drop_eq_nil_of_le (by simp; omega), List.append_nil, show i = n by omega]
  | succ m ih =>
    intro i d hi h
    rw [Sort.insOuter, if_pos (by omega)]
    refine ih (i + 1) _ (by omega) ?_
    have hl := sortN_len lt i
    have e : d.toList = insA i (sortN lt i) i ++ (List.range n).drop (i + 1) := by
      have t1 : (sortN lt i).take i = sortN lt i := List.take_of_length_le (by omega)
      have t2 : (sortN lt i).drop i = [] := List.drop_eq_nil_of_le (by omega)
      have t3 : (List.range n).drop i = i :: (List.range n).drop (i + 1) := by
        rw [List.drop_eq_getElem_cons (by rw [List.length_range]; omega), List.getElem_range]
      rw [h, insA, t1, t2, t3]
      simp only [List.append_assoc, List.cons_append, List.nil_append]
    rw [inner_is lt i (sortN lt i) _ i d (by omega) e, sortN, insN, hl]
theorem ins_is (lt : Nat → Nat → Bool) (n : Nat) (hn : 1 ≤ n) : (Sort.insertionSort lt (List.range n).toArray 0 n).toList = sortN lt n := by
  unfold Sort.insertionSort
  refine outer_is lt n (n - 1) (0 + 1) _ (by omega) ?_
  obtain ⟨m, rfl⟩ : ∃ m, n = m + 1 := ⟨n - 1, by omega⟩
  rw [List.range_succ_eq_map]
  simp [sortN, insN, insA, posL]
def richB (p q : S29) : Bool := if p.f0 = 0 ∨ q.f0 = 0 then decide (p.f0 > 0 ∧ q.f0 = 0) else decide (p.f1 * q.f0 > q.f1 * p.f0)
def ltN (l : List S29) (x y : Nat) : Bool := richB (l.getD (x % l.length) z29) (l.getD (y % l.length) z29)
theorem rich_bd {p q : S29} (hp : pieceB p.f0 p.f1 p.f2 = true) (hq : pieceB q.f0 q.f1 q.f2 = true) : 0 ≤ p.f1 * q.f0 ∧ p.f1 * q.f0 ≤ 10000000 * 10000 := by
  obtain ⟨a1, a2, a3, a4, _, _⟩ := pieceB_t hp
  obtain ⟨b1, b2, b3, b4, _, _⟩ := pieceB_t hq
  exact mul_bd a3 (by omega) b1 b2
theorem spec_sbRicher_v {p q : S29} (hp : pieceB p.f0 p.f1 p.f2 = true) (hq : pieceB q.f0 q.f1 q.f2 = true) : spec_sbRicher.f p.f0 p.f1 p.f2 q.f0 q.f1 q.f2 = some (richB p q) := by
  have h1 := rich_bd hp hq
  have h2 := rich_bd hq hp
  obtain ⟨a1, a2, a3, a4, _, _⟩ := pieceB_t hp
  unfold spec_sbRicher.f richB
  by_cases c : p.f0 = 0
  · rw [if_pos c, if_neg (by omega), if_pos (.inl c), decide_eq_false (by omega)]
  · rw [if_neg c]
    by_cases d : q.f0 = 0
    · rw [if_pos d, if_pos (by omega), if_pos (.inr d), decide_eq_true ⟨by omega, d⟩, d]; rfl
    · rw [if_neg d, if_neg (by omega), w64 (by omega) (by omega), w64 (by omega) (by omega)]
theorem pl_getD {l : List S29} (h : IsPl l) (x : Nat) : pieceB (l.getD (x % l.length) z29).f0 (l.getD (x % l.length) z29).f1 (l.getD (x % l.length) z29).f2 = true := by
  have := h.pos
  have hx : x % l.length < l.length := Nat.mod_lt _ (by omega)
  rw [List.getD_eq_getElem?_getD, List.getElem?_eq_getElem hx]
  exact h.all _ (List.getElem_mem hx)
theorem lt_is {l : List S29} (h : IsPl l) : ltOf (spCf l) = ltN l := by
  funext x y
  have hp := pl_getD h x
  have hq := pl_getD h y
  unfold ltOf spCf ltN
  generalize l.getD (x % l.length) z29 = p at hp ⊢
  generalize l.getD (y % l.length) z29 = q at hq ⊢
  have h1 := rich_bd hp hq
  have h2 := rich_bd hq hp
  obtain ⟨a1, a2, a3, a4, _, _⟩ := pieceB_t hp
  obtain ⟨b1, b2, b3, b4, _, _⟩ := pieceB_t hq
  unfold cmpV richB
  by_cases c : p.f0 = 0 ∨ q.f0 = 0
  · rw [if_pos c, if_pos c, decide_eq_decide]; omega
  · rw [if_neg c, if_neg c, w64 (x := q.f1 * p.f0) (by omega) (by omega), w64 (x := p.f1 * q.f0) (by omega) (by omega), w64 (by omega) (by omega), decide_eq_decide]; omega
def sbS (l : List S29) : List Int := (sortN (ltN l) l.length).map Int.ofNat
theorem sbS_len (l : List S29) : (sbS l).length = l.length := by unfold sbS; rw [List.length_map, sortN_len]
theorem impl_sortedPieces_v {l : List S29} (h : IsPl l) : impl_sortedPieces.f l = some (sbS l) := by
  have h1 := h.pos
  have h2 := h.le
  have hok : spOk l = true := by
    unfold spOk
    rw [Bool.and_eq_true, decide_eq_true_eq, List.all_eq_true]
    refine ⟨⟨h1, h2⟩, fun p hp => ?_⟩
    obtain ⟨a1, a2, a3, a4, _, _⟩ := pieceB_t (h.all p hp)
    exact decide_eq_true ⟨a1, a2, a3, by omega⟩
  unfold impl_sortedPieces.f
  rw [if_pos hok]
  congr 1
  unfold spSort sbS
  rw [lt_is h, ins_is _ _ h1]
  apply List.map_congr_left
  intro x hx
  have := sortN_lt _ _ x hx
  rw [Nat.mod_eq_of_lt this]; rfl
theorem rd_ofNat (out : List Nat) (j : Nat) (h : j < out.length) : rd (out.map Int.ofNat) (j : Int) = ((out.getD j 0 : Nat) : Int) := by
  rw [rd_get (by rw [List.length_map]; exact h), List.getElem_map, List.getD_eq_getElem?_getD, List.getElem?_eq_getElem h]; rfl
theorem rdp_nat (l : List S29) (i : Nat) (h : i < l.length) : rd_T29 l (i : Int) = l.getD (i % l.length) z29 := by
  unfold rd_T29
  rw [Int.toNat_natCast, Nat.mod_eq_of_lt h]
theorem insA_map (i : Nat) (out : List Nat) (k : Nat) : (([] : List Int) ++ (out.map Int.ofNat).take k ++ [(i : Int)]) ++ (out.map Int.ofNat).drop k = (insA i out k).map Int.ofNat := by
  unfold insA
  rw [List.map_append, List.map_cons, List.map_take, List.map_drop]
  simp
theorem sbSort_in {l : List S29} (h : IsPl l) (i : Nat) (hi : i < l.length) (out : List Nat) (ho : out.length = i) (hm : ∀ y ∈ out, y < i) (B : Nat) (R : Option (List Int)) :
    ∀ (j k : Nat), j ≤ i → (∀ k', B ≤ k' → spec_sbSort.l0 k' l ((insA i out (posL (ltN l i) out j)).map Int.ofNat) l (l.length : Int) ((i + 1 : Nat) : Int) = R) → B + j + 1 ≤ k →
    spec_sbSort.l1 k l (out.map Int.ofNat) (i : Int) (j : Int) l (l.length : Int) (i : Int) (rd_T29 l (i : Int)).f0 (rd_T29 l (i : Int)).f1 (rd_T29 l (i : Int)).f2 = R := by
  have hn := h.le
  have hlen : (out.map Int.ofNat).length = i := by rw [List.length_map, ho]
  have fin : ∀ (j k : Nat), j ≤ i → (∀ k', B ≤ k' → spec_sbSort.l0 k' l ((insA i out j).map Int.ofNat) l (l.length : Int) ((i + 1 : Nat) : Int) = R) → B ≤ k →
      (if 0 ≤ (j : Int) then (if (j : Int) ≤ ((out.map Int.ofNat).length : Int) then ((spec_l1Own.f ((out.map Int.ofNat).take (j : Int).toNat)).bind fun t168 => ((some (([(i : Int)] : List Int) : List Int)).bind fun y171 => (if t168.length + y171.length < 17592186044416 then ((some (t168 ++ y171 : List Int)).bind fun y174 => ((some ((out.map Int.ofNat).drop (j : Int).toNat : List Int)).bind fun y177 => (if y174.length + y177.length < 17592186044416 then (spec_sbSort.l0 k l (y174 ++ y177) l (l.length : Int) (wrap64 ((i : Int) + 1))) else (none)))) else (none)))) else (none)) else (none)) = R := by
    intro j k hj H hk
    have t1 : ((out.map Int.ofNat).take j).length ≤ i := by rw [List.length_take]; omega
    have t2 : ((out.map Int.ofNat).drop j).length ≤ i := by rw [List.length_drop]; omega
    unfold spec_l1Own.f
    rw [if_pos (by omega), if_pos (by omega), Int.toNat_natCast, Option.bind_some, if_pos (by simp only [List.length_nil]; omega), Option.bind_some, Option.bind_some]
    rw [if_pos (by simp only [List.length_append, List.length_nil, List.length_cons]; omega), Option.bind_some, Option.bind_some, if_pos (by simp only [List.length_append, List.length_nil, List.length_cons]; omega), w64_succ (by omega)]
    rw [insA_map]
    exact H k hk
  intro j
  induction j with
  | zero =>
    intro k hj H hk
    obtain ⟨k, rfl⟩ := k_succ (by omega : 0 < k)
    rw [spec_sbSort.l1, if_neg (by omega)]
    exact fin 0 k hj H (by omega)
  | succ j ih =>
    intro k hj H hk
    obtain ⟨k, rfl⟩ := k_succ (by omega : 0 < k)
    have hjl : j < out.length := by omega
    have hy : out.getD j 0 < i := by
      rw [List.getD_eq_getElem?_getD, List.getElem?_eq_getElem hjl]
      exact hm _ (List.getElem_mem hjl)
    rw [spec_sbSort.l1, if_pos (by omega), w64 (by omega) (by omega), show ((j + 1 : Nat) : Int) - 1 = (j : Int) by omega, if_pos (by omega), if_pos (by omega), rd_ofNat out j hjl, if_pos (by omega), if_pos (by omega)]
    have e1 := rdp_nat l i hi
    have e2 := rdp_nat l (out.getD j 0) (by omega)
    rw [e2, e1, spec_sbRicher_v (pl_getD h i) (pl_getD h _), Option.bind_some, ← e1]
    rw [posL] at H
    by_cases c : ltN l i (out.getD j 0) = true
    · rw [if_pos c] at H
      rw [if_pos (by rw [e1]; exact c)]
      exact ih k (by omega) H (by omega)
    · rw [if_neg c] at H
      rw [if_neg (by rw [e1]; exact c)]
      exact fin (j + 1) k hj H (by omega)
theorem spec_sbSort_l {l : List S29} (h : IsPl l) : ∀ (d i : Nat), i + d = l.length → ∀ k, d * 25 + 1 ≤ k → spec_sbSort.l0 k l ((sortN (ltN l) i).map Int.ofNat) l (l.length : Int) (i : Int) = some (sbS l) := by
  have hn := h.le
  intro d
  induction d with
  | zero =>
    intro i hi k hk
    obtain ⟨k, rfl⟩ := k_succ (by omega : 0 < k)
    rw [spec_sbSort.l0, if_neg (by omega), show i = l.length by omega]; rfl
  | succ d ih =>
    intro i hi k hk
    obtain ⟨k, rfl⟩ := k_succ (by omega : 0 < k)
    have hl := sortN_len (ltN l) i
    rw [spec_sbSort.l0, if_pos (by omega), if_pos (by omega), if_pos (by omega), List.length_map, hl]
    refine sbSort_in h i (by omega) (sortN (ltN l) i) hl (sortN_lt _ i) (d * 25 + 1) _ i k (Nat.le_refl _) (fun k' hk' => ?_) (by omega)
    have := ih (i + 1) (by omega) k' hk'
    rw [sortN, insN, hl] at this
    exact this
theorem spec_sbSort_v {l : List S29} (h : IsPl l) {k : Nat} (hk : 600 < k) : spec_sbSort.f k l = some (sbS l) := by
  have hn := h.le
  unfold spec_sbSort.f
  have := spec_sbSort_l h l.length 0 (by omega) k (by omega)
  exact this
theorem ltList_eq : ∀ (a b : List Int), a.Pairwise (· < ·) → b.Pairwise (· < ·) → (∀ x, x ∈ a ↔ x ∈ b) → a = b
  | [], [], _, _, _ => rfl
  | [], y :: b, _, _, h => absurd ((h y).2 List.mem_cons_self) List.not_mem_nil
  | x :: a, [], _, _, h => absurd ((h x).1 List.mem_cons_self) List.not_mem_nil
  | x :: a, y :: b, ha, hb, h => by
    rw [List.pairwise_cons] at ha hb
    have e : x = y := by
      have h1 := (h x).1 List.mem_cons_self
      have h2 := (h y).2 List.mem_cons_self
      rw [List.mem_cons] at h1 h2
      rcases h1 with h1 | h1
      · exact h1
      · rcases h2 with h2 | h2
        · exact h2.symm
        · have := ha.1 y h2; have := hb.1 x h1; omega
    subst e
    rw [ltList_eq a b ha.2 hb.2 (fun z => ?_)]
    have hz := h z
    rw [List.mem_cons, List.mem_cons] at hz
    constructor
    · intro hz1
      rcases hz.1 (.inr hz1) with e | e
      · have := ha.1 z hz1; omega
      · exact e
    · intro hz1
      rcases hz.2 (.inr hz1) with e | e
      · have := hb.1 z hz1; omega
      · exact e
theorem sortI_lt {l : List Int} (h : l.Nodup) : (l.mergeSort fun x y => decide (x ≤ y)).Pairwise (· < ·) := by
  have hp := List.mergeSort_perm l (fun x y => decide (x ≤ y))
  have hn := hp.nodup_iff.2 h
  have hs := List.pairwise_mergeSort (le := fun x y : Int => decide (x ≤ y)) (fun a b c h1 h2 => by simp only [decide_eq_true_eq] at *; omega) (fun a b => by simp only [Bool.or_eq_true, decide_eq_true_eq]; omega) l
  refine (List.Pairwise.and hs hn).imp ?_
  rintro a b ⟨h1, h2⟩
  rw [decide_eq_true_eq] at h1
  have : a ≠ b := h2
  omega
theorem sortI_mem {l : List Int} {x : Int} : x ∈ (l.mergeSort fun x y => decide (x ≤ y)) ↔ x ∈ l := (List.mergeSort_perm l _).mem_iff
theorem put_at {out : List Int} {n : Int} {c : Nat} (hs : out.Pairwise (· < ·)) (h1 : ∀ x ∈ out.take c, x < n) (h2 : ∀ x ∈ out.drop c, n < x) : (out.take c ++ n :: out.drop c).Pairwise (· < ·) ∧ (∀ x, x ∈ out.take c ++ n :: out.drop c ↔ x = n ∨ x ∈ out) ∧ (out.take c ++ n :: out.drop c).length = out.length + 1 := by
  have hs' := hs
  rw [← List.take_append_drop c out, List.pairwise_append] at hs'
  obtain ⟨s1, s2, s3⟩ := hs'
  refine ⟨?_, fun x => ?_, ?_⟩
  · rw [List.pairwise_append, List.pairwise_cons]
    refine ⟨s1, ⟨h2, s2⟩, fun a ha b hb => ?_⟩
    rcases List.mem_cons.1 hb with e | e
    · rw [e]; exact h1 a ha
    · exact s3 a ha b e
  · have e : x ∈ out ↔ x ∈ out.take c ∨ x ∈ out.drop c := by rw [← List.mem_append, List.take_append_drop]
    rw [List.mem_append, List.mem_cons, e]
    constructor
    · rintro (h | h | h)
      · exact .inr (.inl h)
      · exact .inl h
      · exact .inr (.inr h)
    · rintro (h | h | h)
      · exact .inr (.inl h)
      · exact .inl h
      · exact .inr (.inr h)
  · rw [List.length_append, List.length_cons, List.length_take, List.length_drop]; omega
theorem take_lt {out : List Int} {n : Int} {c : Nat} (h : ∀ j, j < c → ∀ hj : j < out.length, out[j] < n) : ∀ x ∈ out.take c, x < n := by
  intro x hx
  obtain ⟨j, hj, rfl⟩ := List.getElem_of_mem hx
  rw [List.length_take] at hj
  rw [List.getElem_take]
  exact h j (by omega) (by omega)
theorem putL (out : List Int) (n : Int) (hs : out.Pairwise (· < ·)) (hm : n ∉ out) (hl : out.length ≤ 1000) : ∀ (d c k : Nat), c + d = out.length → (∀ j, j < c → ∀ hj : j < out.length, out[j] < n) → d + 1 ≤ k →
    ∃ out', spec_l1Put.l0 k out n (c : Int) = some out' ∧ out'.Pairwise (· < ·) ∧ (∀ x, x ∈ out' ↔ x = n ∨ x ∈ out) ∧ out'.length = out.length + 1 := by
  intro d
  induction d with
  | zero =>
    intro c k hc h hk
    obtain ⟨k, rfl⟩ := k_succ (by omega : 0 < k)
    have hd : out.drop c = [] := List.drop_eq_nil_of_le (by omega)
    have hp := put_at hs (take_lt h) (by rw [hd]; intro x hx; cases hx)
    refine ⟨out.take c ++ n :: out.drop c, ?_, hp⟩
    have t1 : (out.take c).length ≤ 1000 := by rw [List.length_take]; omega
    have t2 : (out.drop c).length ≤ 1000 := by rw [List.length_drop]; omega
    rw [spec_l1Put.l0, if_neg (by omega), Option.bind_some, if_pos (by omega), if_pos (by omega), Int.toNat_natCast, Option.bind_some, if_pos (by simp only [List.length_nil]; omega), Option.bind_some, List.nil_append, if_pos (by omega), Option.bind_some, Option.bind_some, if_pos (by simp only [List.length_append, List.length_nil, List.length_cons]; omega)]
    simp only [List.append_assoc, List.cons_append, List.nil_append]
  | succ d ih =>
    intro c k hc h hk
    obtain ⟨k, rfl⟩ := k_succ (by omega : 0 < k)
    have hcl : c < out.length := by omega
    rw [spec_l1Put.l0, if_pos (by omega), if_pos (by omega), rd_get hcl]
    by_cases q : out[c] < n
    · rw [if_pos q, w64_succ (by omega)]
      refine ih (c + 1) k (by omega) (fun j hj hjl => ?_) (by omega)
      by_cases e : j = c
      · subst e; exact q
      · exact h j (by omega) hjl
    · have hne : ¬ out[c] = n := fun e => hm (e ▸ List.getElem_mem hcl)
      have hp := put_at (c := c) (n := n) hs (take_lt h) (by
        intro x hx
        have hs' := hs
        rw [← List.take_append_drop c out, List.pairwise_append] at hs'
        have h3 := hs'.2.1
        rw [List.drop_eq_getElem_cons hcl] at h3 hx
        rw [List.pairwise_cons] at h3
        rcases List.mem_cons.1 hx with e | e
        · omega
        · have := h3.1 x e; omega)
      refine ⟨out.take c ++ n :: out.drop c, ?_, hp⟩
      have t1 : (out.take c).length ≤ 1000 := by rw [List.length_take]; omega
      have t2 : (out.drop c).length ≤ 1000 := by rw [List.length_drop]; omega
      rw [if_neg q, if_neg hne, Option.bind_some, if_pos (by omega), Int.toNat_natCast, Option.bind_some, if_pos (by simp only [List.length_nil]; omega), Option.bind_some, List.nil_append, if_pos (by omega), Option.bind_some, Option.bind_some, if_pos (by simp only [List.length_append, List.length_nil, List.length_cons]; omega)]
      simp only [List.append_assoc, List.cons_append, List.nil_append]
theorem spec_l1Put_v (out : List Int) (n : Int) (hs : out.Pairwise (· < ·)) (hm : n ∉ out) (hl : out.length ≤ 1000) {k : Nat} (hk : out.length < k) :
    ∃ out', spec_l1Put.f k out n = some out' ∧ out'.Pairwise (· < ·) ∧ (∀ x, x ∈ out' ↔ x = n ∨ x ∈ out) ∧ out'.length = out.length + 1 :=
  putL out n hs hm hl out.length 0 k (by omega) (fun j hj => by omega) (by omega)
theorem sortN_nodup (lt : Nat → Nat → Bool) : ∀ i, (sortN lt i).Nodup
  | 0 => List.nodup_nil
  | i + 1 => by
    have ih := sortN_nodup lt i
    have hm := sortN_lt lt i
    unfold sortN insN insA
    generalize posL (lt i) (sortN lt i) (sortN lt i).length = c
    have hs' := ih
    rw [← List.take_append_drop c (sortN lt i), List.nodup_append] at hs'
    obtain ⟨s1, s2, s3⟩ := hs'
    rw [List.nodup_append]
    have hi : i ∉ sortN lt i := fun h => by have := hm i h; omega
    refine ⟨s1, List.nodup_cons.2 ⟨fun h => hi (List.mem_of_mem_drop h), s2⟩, fun a ha b hb => ?_⟩
    rcases List.mem_cons.1 hb with e | e
    · intro e2; have h4 := List.mem_of_mem_take ha; rw [e2, e] at h4; exact hi h4
    · exact s3 a ha b e
theorem sbS_nodup (l : List S29) : (sbS l).Nodup := by
  unfold sbS
  exact List.pairwise_map.2 ((sortN_nodup _ _).imp (fun h e => h (Int.ofNat.inj e)))
theorem sbS_bd {l : List S29} {c : Nat} (h : c < (sbS l).length) : ∃ i : Nat, (sbS l)[c] = (i : Int) ∧ i < l.length := by
  have hm := List.getElem_mem h
  unfold sbS at hm
  obtain ⟨i, hi, e⟩ := List.mem_map.1 hm
  exact ⟨i, e.symm, sortN_lt _ _ i hi⟩
theorem sortI_v {l : List Int} (h : l.length ≤ 1000) : slices_Sort_int_int.f l = some (l.mergeSort fun x y => decide (x ≤ y)) := by
  unfold slices_Sort_int_int.f
  rw [if_pos (by omega)]
theorem best_l {l : List S29} (hL : IsPl l) : ∀ (d c : Nat) (t : Int) (B : List Int), c + d = l.length → -10000 ≤ t → t ≤ 200000 → B.Pairwise (· < ·) → (∀ x, x ∈ B ↔ x ∈ (sbS l).take c) → B.length = c →
    ∃ r : List Int × Bool, r.1.length ≤ 20 ∧ (∀ k, d + 30 ≤ k → impl_BestPieces.l0 k l t ((sbS l).take c) (sbS l) ((sbS l).length : Int) (c : Int) = some r) ∧ (∀ k, d + 30 ≤ k → spec_BestPieces.l0 k l t B (sbS l) ((sbS l).length : Int) (c : Int) = some r) := by
  have hn := hL.le
  have hS := sbS_len l
  intro d
  have fin : ∀ (c : Nat) (B : List Int), c ≤ l.length → B.Pairwise (· < ·) → (∀ x, x ∈ B ↔ x ∈ (sbS l).take c) → slices_Sort_int_int.f ((sbS l).take c) = some B := by
    intro c B hc h1 h2
    rw [sortI_v (by rw [List.length_take]; omega)]
    congr 1
    exact ltList_eq _ _ (sortI_lt ((sbS_nodup l).sublist (List.take_sublist _ _))) h1 (fun x => by rw [sortI_mem, h2])
  have stop : ∀ (c : Nat) (t : Int) (B : List Int), c ≤ l.length → B.Pairwise (· < ·) → (∀ x, x ∈ B ↔ x ∈ (sbS l).take c) → B.length = c →
      (if t > 0 then ([], false) else (B, true) : List Int × Bool).1.length ≤ 20 ∧
      (if t > 0 then (some (([] : List Int), false)) else ((slices_Sort_int_int.f ((sbS l).take c)).bind fun t254 => (some (t254, true)))) = some (if t > 0 then ([], false) else (B, true)) ∧
      (if t > 0 then (some (([] : List Int), false)) else (some (B, true))) = some (if t > 0 then ([], false) else (B, true)) := by
    intro c t B hc h1 h2 h3
    by_cases q : t > 0
    · rw [if_pos q, if_pos q, if_pos q]; exact ⟨Nat.zero_le _, rfl, rfl⟩
    · rw [if_neg q, if_neg q, if_neg q, fin c B hc h1 h2, Option.bind_some]; exact ⟨by dsimp only; omega, rfl, rfl⟩
  induction d with
  | zero =>
    intro c t B hc ht1 ht2 hB1 hB2 hB3
    obtain ⟨a1, a2, a3⟩ := stop c t B (by omega) hB1 hB2 hB3
    refine ⟨_, a1, fun k hk => ?_, fun k hk => ?_⟩
    · obtain ⟨k, rfl⟩ := k_succ (by omega : 0 < k)
      rw [impl_BestPieces.l0, if_neg (by omega)]; exact a2
    · obtain ⟨k, rfl⟩ := k_succ (by omega : 0 < k)
      rw [spec_BestPieces.l0, if_neg (by omega)]; exact a3
  | succ d ih =>
    intro c t B hc ht1 ht2 hB1 hB2 hB3
    have hcl : c < (sbS l).length := by omega
    by_cases q : t ≤ 0
    · obtain ⟨a1, a2, a3⟩ := stop c t B (by omega) hB1 hB2 hB3
      refine ⟨_, a1, fun k hk => ?_, fun k hk => ?_⟩
      · obtain ⟨k, rfl⟩ := k_succ (by omega : 0 < k)
        rw [impl_BestPieces.l0, if_pos (by omega), if_pos (by omega), if_pos (by omega), if_pos q]; exact a2
      · obtain ⟨k, rfl⟩ := k_succ (by omega : 0 < k)
        rw [spec_BestPieces.l0, if_pos (by omega), if_pos (by omega), if_pos (by omega), if_pos q]; exact a3
    · obtain ⟨i, e, hi⟩ := sbS_bd hcl
      have hp := pl_getD hL i
      have hr := rdp_nat l i hi
      obtain ⟨p1, p2, _⟩ := pieceB_t hp
      rw [← hr] at p1 p2
      have hnm : ((i : Nat) : Int) ∉ B := by
        rw [hB2, ← e]
        intro hx
        obtain ⟨j, hj, ej⟩ := List.getElem_of_mem hx
        rw [List.length_take] at hj
        rw [List.getElem_take] at ej
        exact List.pairwise_iff_getElem.1 (sbS_nodup l) j c (by omega) hcl (by omega) ej
      have htk : (sbS l).take (c + 1) = (sbS l).take c ++ [(i : Int)] := by rw [List.take_succ_eq_append_getElem hcl, e]
      obtain ⟨B', b0, b1, b2, b3⟩ := spec_l1Put_v B (i : Int) hB1 hnm (by omega) (k := B.length + 1) (by omega)
      have hput : ∀ k, 22 ≤ k → spec_l1Put.f k B (i : Int) = some B' := by
        intro k hk
        obtain ⟨B2, c0, c1, c2, c3⟩ := spec_l1Put_v B (i : Int) hB1 hnm (by omega) (k := k) (by omega)
        rw [c0, ltList_eq B2 B' c1 b1 (fun x => by rw [c2, b2])]
      obtain ⟨r, r1, r2, r3⟩ := ih (c + 1) (t - (rd_T29 l (i : Int)).f0) B' (by omega) (by omega) (by omega) b1 (fun x => by rw [b2, hB2, htk, List.mem_append, List.mem_singleton]; exact Or.comm) (by omega)
      have tl : ((sbS l).take c).length ≤ 20 := by rw [List.length_take]; omega
      refine ⟨r, r1, fun k hk => ?_, fun k hk => ?_⟩
      · obtain ⟨k, rfl⟩ := k_succ (by omega : 0 < k)
        rw [impl_BestPieces.l0, if_pos (by omega), if_pos (by omega), if_pos (by omega), if_neg q, if_pos (by omega), rd_get hcl, e, if_pos (by omega), if_pos (by omega), w64 (by omega) (by omega), w64_succ (by omega), ← htk]
        exact r2 k (by omega)
      · obtain ⟨k, rfl⟩ := k_succ (by omega : 0 < k)
        rw [spec_BestPieces.l0, if_pos (by omega), if_pos (by omega), if_pos (by omega), if_neg q, rd_get hcl, e, if_pos (by omega), if_pos (by omega), hput k (by omega), Option.bind_some, w64 (by omega) (by omega), w64_succ (by omega)]
        exact r3 k (by omega)
theorem best_v (l : List S29) (a : Int) (hn : l.length ≤ 1048576) : ∃ r : List Int × Bool, r.1.length ≤ 20 ∧ (∀ k, 1048600 ≤ k → impl_BestPieces.f k l a = some r) ∧ (∀ k, 1048600 ≤ k → spec_BestPieces.f k l a = some r) := by
  by_cases h : plist l = true
  · have hL := plist_t h
    have hle := hL.le
    by_cases q : 0 ≤ a ∧ a ≤ 200000
    · obtain ⟨r, r1, r2, r3⟩ := best_l hL l.length 0 a [] (by omega) (by omega) (by omega) List.Pairwise.nil (fun x => by rw [List.take_zero]) rfl
      refine ⟨r, r1, fun k hk => ?_, fun k hk => ?_⟩
      · unfold impl_BestPieces.f
        rw [impl_arePieces_v l hn (by omega), Option.bind_some, if_pos h, if_neg (by omega), decide_eq_false (by omega)]
        obtain ⟨k, rfl⟩ := k_succ (by omega : 0 < k)
        rw [impl_BestPieces.j0, if_neg (by decide), impl_sortedPieces_v hL, Option.bind_some]
        exact r2 k (by omega)
      · unfold spec_BestPieces.f
        rw [spec_sbList_v l hn (by omega), Option.bind_some, if_pos h, spec_l1In_v, Option.bind_some, decide_eq_true q]
        obtain ⟨k, rfl⟩ := k_succ (by omega : 0 < k)
        rw [spec_BestPieces.j0, if_neg (by decide), spec_sbSort_v hL (by omega), Option.bind_some]
        exact r3 k (by omega)
    · refine ⟨([], false), Nat.zero_le _, fun k hk => ?_, fun k hk => ?_⟩
      · unfold impl_BestPieces.f
        rw [impl_arePieces_v l hn (by omega), Option.bind_some, if_pos h]
        obtain ⟨k, rfl⟩ := k_succ (by omega : 0 < k)
        by_cases q1 : a < 0
        · rw [if_pos q1, impl_BestPieces.j0, if_pos rfl]
        · rw [if_neg q1, decide_eq_true (by omega), impl_BestPieces.j0, if_pos rfl]
      · unfold spec_BestPieces.f
        rw [spec_sbList_v l hn (by omega), Option.bind_some, if_pos h, spec_l1In_v, Option.bind_some, decide_eq_false q]
        obtain ⟨k, rfl⟩ := k_succ (by omega : 0 < k)
        rw [spec_BestPieces.j0, if_pos (by decide)]
  · refine ⟨([], false), Nat.zero_le _, fun k hk => ?_, fun k hk => ?_⟩
    · unfold impl_BestPieces.f
      rw [impl_arePieces_v l hn (by omega), Option.bind_some, if_neg h]
      obtain ⟨k, rfl⟩ := k_succ (by omega : 0 < k)
      rw [impl_BestPieces.j0, if_pos rfl]
    · unfold spec_BestPieces.f
      rw [spec_sbList_v l hn (by omega), Option.bind_some, if_neg h]
      obtain ⟨k, rfl⟩ := k_succ (by omega : 0 < k)
      rw [spec_BestPieces.j0, if_pos rfl]
theorem pure_FnExactBestPieces (l : List S46) (a1 : Int) (hm : l.length ≤ maxLen) (hw : ∀ x ∈ l, (Lit.int .i64 x.f0).wf = true ∧ (Lit.int .i64 x.f1).wf = true ∧ (Lit.int .i64 x.f2).wf = true) (h1 : (Lit.int .i64 a1).wf = true) : ∃ k, laws_FnExactBestPieces.f k l a1 = some true := by
  obtain ⟨K, hK⟩ : ∃ K : Nat, 1048700 < K := ⟨_, Nat.lt_succ_self _⟩
  refine ⟨K + 4, ?_⟩
  unfold laws_FnExactBestPieces.f
  obtain ⟨s, hs, h⟩ := laws_szPieceS_v l 1048576 (by omega) (by omega) hm
  rw [hs, Option.bind_some]
  rcases h with h | h
  · rw [if_pos h]
  · have hl : l.length ≤ 1048576 := by omega
    have hml : (l.map toPc).length ≤ 1048576 := by rw [toPc_map_len]; exact hl
    obtain ⟨r, hr, ri, rs⟩ := best_v (l.map toPc) a1 hml
    rw [if_neg (by omega), laws_toPieceS_v l hl (by omega), Option.bind_some, rs _ (by omega), Option.bind_some, Option.bind_some, ri _ (by omega), Option.bind_some]
    rw [laws_eqIntS_v _ _ (by omega) (by omega), Option.bind_some, decide_eq_true rfl, if_pos rfl, laws_FnExactBestPieces.j0, bne_self_eq_false, if_neg (by decide), laws_toPieceS_v l hl (by omega), Option.bind_some]
    rw [laws_eqPieceS_v _ hml (by omega), Option.bind_some, if_pos rfl, laws_markPieceS_v _ hml (by omega), Option.bind_some, if_neg (by dsimp only; omega)]
    rw [laws_eqIntS_v _ _ (by omega) (by omega), Option.bind_some, decide_eq_true rfl, if_pos rfl, laws_FnExactBestPieces.j1, if_neg (by decide)]
    rw [laws_markIntS_v _ _ (by omega) (by omega) (by omega) (by omega), Option.bind_some]
    dsimp only
    rw [laws_heldIntS_v _ _ (by omega) (by omega) (by omega) (by omega), Option.bind_some, if_neg (by omega), if_pos rfl, laws_toPieceS_v l hl (by omega), Option.bind_some, ri _ (by omega), Option.bind_some]
    rw [laws_eqIntS_v _ _ (by omega) (by omega), Option.bind_some, decide_eq_true rfl, if_pos rfl, laws_FnExactBestPieces.j2, bne_self_eq_false, if_neg (by decide)]
    rw [laws_heldIntS_v _ _ (by omega) (by omega) (by omega) (by omega), Option.bind_some, if_neg (by omega), if_pos rfl]
theorem W0 : wrap64 (0 + 1) = 1 := w64 (by decide) (by decide)
theorem W1 : wrap64 (1 + 1) = 2 := w64 (by decide) (by decide)
theorem W2 : wrap64 (2 + 1) = 3 := w64 (by decide) (by decide)
theorem W3 : wrap64 (3 + 1) = 4 := w64 (by decide) (by decide)

end Go.Proofs.Ytceajigggcihnaa.Pure
